import PyProof.Rows.All
import Wide.All
import OpenK.AllK
import Wide.FinOn
import PyProof.EqAt
import PyProof.EqKinds
import PyProof.TupleCall
import HandS.ForMost
import HandS.ForExc
import HandS.IsInst
import HandS.Flow
import HandS.TupAny
import HandS.Style
import HandS.More
import HandS.Wide
import HandS.TupLe
import HandS.Text
import KE.DataCmp
import KE.DataEq
import PyProof.Rows.IntBool
import HandS.Zip
import KE.GoesMore
import KE.GoesEnum
import KE.GoesZip
import KE.SortData
import KE.DataMinMax
import KE.KDictPairs
import HandS.DictComp
import HandS.ListItems
import KE.KItemsList
import HandS.SetTxt0
import HandS.SetFor
import HandS.Set
import HandS.Strs
import PySem.Challenge.RW_binround_k08_what_are_loads_and_lines
set_option Elab.async false
set_option linter.all false
set_option maxRecDepth 100000
set_option maxHeartbeats 2000000
/-! Bz, first part: deep values, the store, how they lie in the layer's heap. -/
namespace Bz
open PySem PySem.Spec PyProof.Rows L2

/-- a deep value: what never changes as a tree, the rest by its place in the store -/
inductive D where
  | non | bl (b : Bool) | int (i : Int) | str (x : Str) | tup (xs : List D)
  /-- a tuple of which it is known that it has no dict -/
  | tuf (xs : List D)
  | rol (xs : List D)
  /-- dicts that never change: keys ints and texts; keys tuples of these -/
  | rod (ks : List Key) (ds : List D) | rot (ks : List (List Key)) (ds : List D)
  | loc (n : Nat) | fn (x : Str)
/-- what stands in the store -/
inductive Ob where
  | lst (xs : List D)
  /-- dicts: keys ints and texts; keys tuples of these -/
  | dk (kvs : List (Key × D))
  | dt (kvs : List (List Key × D))
  /-- what is frozen: it is a value now -/
  | dead
abbrev Sto := List Ob
abbrev Mp := Nat → Option Addr

structure Gm where
  K : PySem.W.Frag
  mg : Str → Option Value

/-- a list that is never changed (the script) -/
def SqF (K : PySem.W.Frag) (H : Hp) (a : Addr) (xs : List V) : Prop := (∃ o, H a = some (.frz o (.lst xs))) ∨
    ∃ (o : Obj) (its : Array Value) (n : Nat), K.lookup a = some o ∧ o.cls = .type "list" ∧ o.dict = none ∧ o.data = .seq its n ∧ its.size ≤ sizeLine ∧ Vals xs its.toList
theorem SqF.l {K : PySem.W.Frag} {H : Hp} {a : Addr} {xs : List V} (h : SqF K H a xs) : SqL K H a xs := by
  rcases h with h | h
  · exact .inl (.inr h)
  · exact .inr h
theorem SqF.mono {K : PySem.W.Frag} {H H' : Hp} {a : Addr} {xs : List V} (h : SqF K H a xs) (hf : ∀ a o u, H a = some (.frz o u) → H' a = some (.frz o u)) : SqF K H' a xs := by
  rcases h with ⟨o, h⟩ | h
  · exact .inl ⟨o, hf _ _ _ h⟩
  · exact .inr h
mutual
inductive R (G : Gm) (μ : Mp) (H : Hp) : D → V → Prop
  | non : R G μ H .non .non
  | bl (b : Bool) : R G μ H (.bl b) (.bl b)
  | int (i : Int) : R G μ H (.int i) (.int i)
  | str (x : Str) : R G μ H (.str x) (.str x)
  | tup {ds : List D} {a : Addr} {vs : List V} (h : H a = some (.tup vs)) (r : Rs G μ H ds vs) : R G μ H (.tup ds) (.ref a)
  | tuf {ds : List D} {a : Addr} {vs : List V} (h : ∃ o : Obj, o.dict = none ∧ H a = some (.frz o (.tup vs))) (r : Rs G μ H ds vs) : R G μ H (.tuf ds) (.ref a)
  | rol {ds : List D} {a : Addr} {vs : List V} (h : SqF G.K H a vs) (r : Rs G μ H ds vs) : R G μ H (.rol ds) (.ref a)
  | rod {ks : List Key} {ds : List D} {a : Addr} {vs : List (Key × V)} (h : ∃ o, H a = some (.frz o (.dK vs))) (e : ks = vs.map Prod.fst) (r : Rs G μ H ds (vs.map Prod.snd)) : R G μ H (.rod ks ds) (.ref a)
  | rot {ks : List (List Key)} {ds : List D} {a : Addr} {vs : List (List Key × V)} (h : ∃ o, H a = some (.frz o (.dT vs))) (e : ks = vs.map Prod.fst) (r : Rs G μ H ds (vs.map Prod.snd)) : R G μ H (.rot ks ds) (.ref a)
  | loc {n : Nat} {a : Addr} (h : μ n = some a) : R G μ H (.loc n) (.ref a)
  | fn {x : Str} {a : Addr} (h : G.mg x = some (.ref a)) (k : PySem.W.keepIn G.K (.ref a) = true) : R G μ H (.fn x) (.ref a)
inductive Rs (G : Gm) (μ : Mp) (H : Hp) : List D → List V → Prop
  | nil : Rs G μ H [] []
  | cons {d : D} {v : V} {ds : List D} {vs : List V} (h : R G μ H d v) (t : Rs G μ H ds vs) : Rs G μ H (d :: ds) (v :: vs)
end

section
variable {G : Gm} {μ μ' : Mp} {H H' : Hp}
mutual
theorem R.mono (hm : ∀ n a, μ n = some a → μ' n = some a) (ht : ∀ a xs, H a = some (.tup xs) → H' a = some (.tup xs)) (hf : ∀ a o u, H a = some (.frz o u) → H' a = some (.frz o u)) : ∀ {d : D} {v : V}, R G μ H d v → R G μ' H' d v
  | _, _, .non => .non
  | _, _, .bl b => .bl b
  | _, _, .int i => .int i
  | _, _, .str x => .str x
  | _, _, .tup h r => .tup (ht _ _ h) (Rs.mono hm ht hf r)
  | _, _, .tuf ⟨o, hd, h⟩ r => .tuf ⟨o, hd, hf _ _ _ h⟩ (Rs.mono hm ht hf r)
  | _, _, .rol h r => .rol (h.mono hf) (Rs.mono hm ht hf r)
  | _, _, .rod ⟨o, h⟩ e r => .rod ⟨o, hf _ _ _ h⟩ e (Rs.mono hm ht hf r)
  | _, _, .rot ⟨o, h⟩ e r => .rot ⟨o, hf _ _ _ h⟩ e (Rs.mono hm ht hf r)
  | _, _, .loc h => .loc (hm _ _ h)
  | _, _, .fn h k => .fn h k
theorem Rs.mono (hm : ∀ n a, μ n = some a → μ' n = some a) (ht : ∀ a xs, H a = some (.tup xs) → H' a = some (.tup xs)) (hf : ∀ a o u, H a = some (.frz o u) → H' a = some (.frz o u)) : ∀ {ds : List D} {vs : List V}, Rs G μ H ds vs → Rs G μ' H' ds vs
  | _, _, .nil => .nil
  | _, _, .cons h t => .cons (R.mono hm ht hf h) (Rs.mono hm ht hf t)
end
theorem Rs.length : ∀ {ds : List D} {vs : List V}, Rs G μ H ds vs → ds.length = vs.length
  | _, _, .nil => rfl
  | _, _, .cons _ t => by rw [List.length_cons, List.length_cons, Rs.length t]
theorem Rs.get : ∀ {ds : List D} {vs : List V} {i : Nat} {d : D}, Rs G μ H ds vs → ds[i]? = some d → ∃ v, vs[i]? = some v ∧ R G μ H d v
  | _, _, _, _, .nil, e => by simp at e
  | _, _, 0, _, .cons h _, e => by simp at e; subst e; exact ⟨_, rfl, h⟩
  | _, _, i + 1, d, .cons _ t, e => by
    obtain ⟨v, h1, h2⟩ := Rs.get (i := i) (d := d) t (by simpa using e)
    exact ⟨v, by simpa using h1, h2⟩
theorem Rs.getV : ∀ {ds : List D} {vs : List V} {i : Nat} {v : V}, Rs G μ H ds vs → vs[i]? = some v → ∃ d, ds[i]? = some d ∧ R G μ H d v
  | _, _, _, _, .nil, e => by simp at e
  | _, _, 0, _, .cons h _, e => by simp at e; subst e; exact ⟨_, rfl, h⟩
  | _, _, i + 1, v, .cons _ t, e => by
    obtain ⟨d, h1, h2⟩ := Rs.getV (i := i) (v := v) t (by simpa using e)
    exact ⟨d, by simpa using h1, h2⟩
theorem Rs.append : ∀ {ds es : List D} {vs ws : List V}, Rs G μ H ds vs → Rs G μ H es ws → Rs G μ H (ds ++ es) (vs ++ ws)
  | _, _, _, _, .nil, s => s
  | _, _, _, _, .cons h t, s => .cons h (Rs.append t s)
theorem Rs.take : ∀ {ds : List D} {vs : List V} (n : Nat), Rs G μ H ds vs → Rs G μ H (ds.take n) (vs.take n)
  | _, _, 0, _ => .nil
  | _, _, _ + 1, .nil => .nil
  | _, _, n + 1, .cons h t => .cons h (Rs.take n t)
theorem Rs.drop : ∀ {ds : List D} {vs : List V} (n : Nat), Rs G μ H ds vs → Rs G μ H (ds.drop n) (vs.drop n)
  | _, _, 0, r => r
  | _, _, _ + 1, .nil => .nil
  | _, _, n + 1, .cons _ t => Rs.drop n t
theorem Rs.set {d : D} {v : V} (r : R G μ H d v) : ∀ {ds : List D} {vs : List V} (i : Nat), Rs G μ H ds vs → Rs G μ H (ds.set i d) (vs.set i v)
  | _, _, _, .nil => .nil
  | _, _, 0, .cons _ t => .cons r t
  | _, _, i + 1, .cons q t => .cons q (Rs.set r i t)
theorem Rs.eraseIdx : ∀ {ds : List D} {vs : List V} (i : Nat), Rs G μ H ds vs → Rs G μ H (ds.eraseIdx i) (vs.eraseIdx i)
  | _, _, _, .nil => .nil
  | _, _, 0, .cons _ t => t
  | _, _, i + 1, .cons q t => .cons q (Rs.eraseIdx i t)
theorem Rs.one {d : D} {v : V} (r : R G μ H d v) : Rs G μ H [d] [v] := .cons r .nil
theorem Rs.reverse : ∀ {ds : List D} {vs : List V}, Rs G μ H ds vs → Rs G μ H ds.reverse vs.reverse
  | _, _, .nil => .nil
  | _, _, .cons h t => by
    rw [List.reverse_cons, List.reverse_cons]
    exact (Rs.reverse t).append (Rs.one h)
theorem Rs.zip_of : ∀ {ds es : List D} {vs ws : List V}, Rs G μ H ds vs → Rs G μ H es ws → ds.length = es.length → vs.length = ws.length := fun a b h => by
  rw [← a.length, ← b.length, h]
theorem Rs.ints : ∀ {ns : List Int} {vs : List V}, Rs G μ H (ns.map D.int) vs → vs = ns.map V.int
  | [], _, h => by cases h; rfl
  | n :: ns, _, h => by
    cases h with
    | cons h t => cases h; rw [Rs.ints t]; rfl
theorem Rs.of_ints : ∀ (ns : List Int), Rs G μ H (ns.map D.int) (ns.map V.int)
  | [] => .nil
  | n :: ns => .cons (.int n) (Rs.of_ints ns)
theorem Rs.strs : ∀ {ns : List Str} {vs : List V}, Rs G μ H (ns.map D.str) vs → vs = ns.map V.str
  | [], _, h => by cases h; rfl
  | n :: ns, _, h => by
    cases h with
    | cons h t => cases h; rw [Rs.strs t]; rfl
theorem Rs.of_strs : ∀ (ns : List Str), Rs G μ H (ns.map D.str) (ns.map V.str)
  | [] => .nil
  | n :: ns => .cons (.str n) (Rs.of_strs ns)
theorem Rs.bls : ∀ {ns : List Bool} {vs : List V}, Rs G μ H (ns.map D.bl) vs → vs = ns.map V.bl
  | [], _, h => by cases h; rfl
  | n :: ns, _, h => by
    cases h with
    | cons h t => cases h; rw [Rs.bls t]; rfl
end

/-! ### the store's objects -/
def KvR {κ : Type} (G : Gm) (μ : Mp) (H : Hp) (kvs : List (κ × D)) (vs : List (κ × V)) : Prop := kvs.map Prod.fst = vs.map Prod.fst ∧ Rs G μ H (kvs.map Prod.snd) (vs.map Prod.snd)
def ObR (G : Gm) (μ : Mp) (H : Hp) (a : Addr) : Ob → Prop
  | .lst xs => ∃ vs, H a = some (.lst vs) ∧ Rs G μ H xs vs
  | .dk kvs => ∃ vs, H a = some (.dK vs) ∧ KvR G μ H kvs vs
  | .dt kvs => ∃ vs, H a = some (.dT vs) ∧ KvR G μ H kvs vs
  | .dead => ∃ o u, H a = some (.frz o u)

structure Wd (G : Gm) (μ : Mp) (H : Hp) (S : Sto) : Prop where
  dom : ∀ n, n < S.length → ∃ a, μ n = some a
  lt : ∀ n a, μ n = some a → n < S.length
  inj : ∀ n m a, μ n = some a → μ m = some a → n = m
  obj : ∀ n a o, μ n = some a → S[n]? = some o → ObR G μ H a o

/-- how things go on -/
structure Le (μ : Mp) (H : Hp) (μ' : Mp) (H' : Hp) : Prop where
  mono : ∀ n a, μ n = some a → μ' n = some a
  new : ∀ n a, μ' n = some a → μ n = some a ∨ H a = none
  kept : ∀ a o, H a = some o → (∀ n, μ n ≠ some a) → H' a = some o
  frz : ∀ a o u, H a = some (.frz o u) → H' a = some (.frz o u)
  trk : ∀ a o, H a = some o → ∃ o', H' a = some o'

section
variable {G : Gm} {μ μ' μ'' : Mp} {H H' H'' : Hp} {S S' : Sto}
theorem Le.refl : Le μ H μ H := ⟨fun _ _ h => h, fun _ _ h => .inl h, fun _ _ h _ => h, fun _ _ _ h => h, fun _ o h => ⟨o, h⟩⟩
theorem Le.free (l : Le μ H μ' H') {a : Addr} (h : H' a = none) : H a = none := by
  cases q : H a with
  | none => rfl
  | some o =>
    obtain ⟨o', e⟩ := l.trk a o q
    rw [h] at e; cases e
theorem Le.trans (a : Le μ H μ' H') (b : Le μ' H' μ'' H'') : Le μ H μ'' H'' where
  mono := fun n x h => b.mono n x (a.mono n x h)
  new := fun n x h => by
    rcases b.new n x h with h | h
    · exact a.new n x h
    · exact .inr (a.free h)
  kept := fun x o h hn => b.kept x o (a.kept x o h hn) fun n z => by
    rcases a.new n x z with q | q
    · exact hn n q
    · rw [q] at h; cases h
  frz := fun x o u h => b.frz x o u (a.frz x o u h)
  trk := fun x o h => by
    obtain ⟨o', e⟩ := a.trk x o h
    exact b.trk x o' e
theorem Wd.look (w : Wd G μ H S) {n : Nat} {a : Addr} (h : μ n = some a) : ∃ o, S[n]? = some o ∧ ObR G μ H a o := by
  have := w.lt n a h
  exact ⟨S[n], List.getElem?_eq_getElem this, w.obj n a _ h (List.getElem?_eq_getElem this)⟩
theorem ObR.there {a : Addr} {o : Ob} (r : ObR G μ H a o) : ∃ u, H a = some u := by
  cases o with
  | lst ys => obtain ⟨vs, e, _⟩ := r; exact ⟨_, e⟩
  | dk kvs => obtain ⟨vs, e, _⟩ := r; exact ⟨_, e⟩
  | dt kvs => obtain ⟨vs, e, _⟩ := r; exact ⟨_, e⟩
  | dead => obtain ⟨o, u, e⟩ := r; exact ⟨_, e⟩
theorem ObR.notTup {a : Addr} {o : Ob} {xs : List V} (r : ObR G μ H a o) : H a ≠ some (.tup xs) := fun e => by
  cases o with
  | lst ys => obtain ⟨vs, q, _⟩ := r; rw [e] at q; cases q
  | dk kvs => obtain ⟨vs, q, _⟩ := r; rw [e] at q; cases q
  | dt kvs => obtain ⟨vs, q, _⟩ := r; rw [e] at q; cases q
  | dead => obtain ⟨o, u, q⟩ := r; rw [e] at q; cases q
theorem Wd.notTup (w : Wd G μ H S) {n : Nat} {a : Addr} {xs : List V} (h : μ n = some a) : H a ≠ some (.tup xs) := by
  obtain ⟨o, _, r⟩ := w.look h
  exact r.notTup
theorem Wd.there (w : Wd G μ H S) {n : Nat} {a : Addr} (h : μ n = some a) : ∃ o, H a = some o := by
  obtain ⟨o, _, r⟩ := w.look h
  exact r.there
theorem Wd.free (w : Wd G μ H S) {a : Addr} (h : H a = none) (n : Nat) : μ n ≠ some a := fun z => by
  obtain ⟨o, e⟩ := w.there z
  rw [h] at e; cases e
theorem Le.sqT (l : Le μ H μ' H') (w : Wd G μ H S) {a : Addr} {xs : List V} (h : SqT G.K H a xs) : SqT G.K H' a xs := by
  rcases h with (h | ⟨o, h⟩) | h
  · exact .inl (.inl (l.kept _ _ h fun n z => w.notTup z h))
  · exact .inl (.inr ⟨o, l.frz _ _ _ h⟩)
  · exact .inr h
theorem Le.tp (l : Le μ H μ' H') (w : Wd G μ H S) {a : Addr} {xs : List V} (h : H a = some (.tup xs)) : H' a = some (.tup xs) := l.kept _ _ h fun n z => w.notTup z h
theorem Le.sqF (l : Le μ H μ' H') (w : Wd G μ H S) {a : Addr} {xs : List V} (h : SqF G.K H a xs) : SqF G.K H' a xs := h.mono l.frz
theorem Le.r (l : Le μ H μ' H') (w : Wd G μ H S) {d : D} {v : V} (h : R G μ H d v) : R G μ' H' d v := h.mono l.mono (fun _ _ q => l.tp w q) l.frz
theorem Le.rs (l : Le μ H μ' H') (w : Wd G μ H S) {ds : List D} {vs : List V} (h : Rs G μ H ds vs) : Rs G μ' H' ds vs := h.mono l.mono (fun _ _ q => l.tp w q) l.frz
theorem KvR.mono {κ : Type} {kvs : List (κ × D)} {vs : List (κ × V)} (h : KvR G μ H kvs vs) (f : ∀ ds us, Rs G μ H ds us → Rs G μ' H' ds us) : KvR G μ' H' kvs vs := ⟨h.1, f _ _ h.2⟩
theorem ObR.move {a : Addr} {o : Ob} (e : H' a = H a) (f : ∀ ds us, Rs G μ H ds us → Rs G μ' H' ds us) (h : ObR G μ H a o) : ObR G μ' H' a o := by
  cases o with
  | lst ys => obtain ⟨vs, q, r⟩ := h; exact ⟨vs, e.trans q, f _ _ r⟩
  | dk kvs => obtain ⟨vs, q, r⟩ := h; exact ⟨vs, e.trans q, r.mono f⟩
  | dt kvs => obtain ⟨vs, q, r⟩ := h; exact ⟨vs, e.trans q, r.mono f⟩
  | dead => obtain ⟨o, u, q⟩ := h; exact ⟨o, u, e.trans q⟩
theorem ObR.keep (l : Le μ H μ' H') (w : Wd G μ H S) {a : Addr} {o : Ob} (e : H' a = H a) (h : ObR G μ H a o) : ObR G μ' H' a o := h.move e fun _ _ q => l.rs w q

/-- something new is laid that the store does not know -/
theorem Le.laid {p : Addr} {o : HO} (h : H p = none) : Le μ H μ (upd H p o) where
  mono := fun _ _ h => h
  new := fun _ _ h => .inl h
  kept := fun a u e _ => by rw [upd_ne (ne_of_none e h)]; exact e
  frz := fun a u x e => by rw [upd_ne (ne_of_none e h)]; exact e
  trk := fun a u e => ⟨u, by rw [upd_ne (ne_of_none e h)]; exact e⟩
theorem Wd.laid {p : Addr} {o : HO} (w : Wd G μ H S) (h : H p = none) : Wd G μ (upd H p o) S where
  dom := w.dom
  lt := w.lt
  inj := w.inj
  obj := fun n a ob hn hs => by
    have q := w.obj n a ob hn hs
    exact ObR.keep (Le.laid h) w (upd_ne fun z => by subst z; exact w.free h n hn) q

def put (μ : Mp) (n : Nat) (p : Addr) : Mp := fun m => if m = n then some p else μ m
theorem put_self {n : Nat} {p : Addr} : put μ n p n = some p := by unfold put; rw [if_pos rfl]
theorem put_ne {n m : Nat} {p : Addr} (h : m ≠ n) : put μ n p m = μ m := by unfold put; rw [if_neg h]
theorem Wd.none_at (w : Wd G μ H S) : μ S.length = none := by
  cases q : μ S.length with
  | none => rfl
  | some a => exact absurd (w.lt _ _ q) (Nat.lt_irrefl _)
theorem put_mono (w : Wd G μ H S) {p : Addr} (n : Nat) (a : Addr) (h : μ n = some a) : put μ S.length p n = some a := by
  rw [put_ne fun z => by subst z; rw [w.none_at] at h; cases h]; exact h
/-- an object that stands outside the store comes into it -/
theorem Wd.settle {p : Addr} {o : Ob} (w : Wd G μ H S) (hp : ∀ n, μ n ≠ some p) (ho : ObR G μ H p o) : Wd G (put μ S.length p) H (S ++ [o]) where
  dom := fun n hn => by
    by_cases e : n = S.length
    · subst e; exact ⟨p, put_self⟩
    · rw [put_ne e]
      rw [List.length_append, List.length_singleton] at hn
      exact w.dom n (by omega)
  lt := fun n a h => by
    rw [List.length_append, List.length_singleton]
    by_cases e : n = S.length
    · omega
    · rw [put_ne e] at h
      have := w.lt n a h
      omega
  inj := fun n m a h1 h2 => by
    by_cases e1 : n = S.length
    · by_cases e2 : m = S.length
      · omega
      · subst e1
        rw [put_self] at h1; cases h1
        rw [put_ne e2] at h2
        exact absurd h2 (hp m)
    · by_cases e2 : m = S.length
      · subst e2
        rw [put_self] at h2; cases h2
        rw [put_ne e1] at h1
        exact absurd h1 (hp n)
      · rw [put_ne e1] at h1
        rw [put_ne e2] at h2
        exact w.inj n m a h1 h2
  obj := fun n a ob h hs => by
    have mono : ∀ n a, μ n = some a → put μ S.length p n = some a := fun n a => put_mono w n a
    have key : ∀ {a : Addr} {ob : Ob}, ObR G μ H a ob → ObR G (put μ S.length p) H a ob := fun {a ob} q => q.move rfl fun _ _ r => r.mono mono (fun _ _ h => h) fun _ _ _ h => h
    by_cases e : n = S.length
    · subst e
      rw [put_self] at h; cases h
      rw [List.getElem?_append_right (Nat.le_refl _), Nat.sub_self] at hs
      cases hs
      exact key ho
    · rw [put_ne e] at h
      rw [List.getElem?_append_left (w.lt n a h)] at hs
      exact key (w.obj n a ob h hs)
theorem Le.settle {μ0 : Mp} {H0 : Hp} {p : Addr} (w : Wd G μ H S) (l : Le μ0 H0 μ H) (h : H0 p = none) : Le μ0 H0 (put μ S.length p) H where
  mono := fun n a q => put_mono w n a (l.mono n a q)
  new := fun n a q => by
    by_cases e : n = S.length
    · subst e
      rw [put_self] at q; cases q
      exact .inr h
    · rw [put_ne e] at q
      exact l.new n a q
  kept := l.kept
  frz := l.frz
  trk := l.trk
/-- an object of the store is changed -/
def stir : HO → Bool
  | .frz _ _ => false
  | _ => true
theorem Le.wr {n : Nat} {a : Addr} {o u : HO} (hn : μ n = some a) (h : H a = some o) (hs : stir o = true) : Le μ H μ (upd H a u) where
  mono := fun _ _ h => h
  new := fun _ _ h => .inl h
  kept := fun b x e q => by rw [upd_ne fun z => by subst z; exact q n hn]; exact e
  frz := fun b x y e => by rw [upd_ne fun z => by subst z; rw [h] at e; cases e; cases hs]; exact e
  trk := fun b x e => by
    by_cases z : b = a
    · subst z; exact ⟨_, upd_same⟩
    · exact ⟨x, by rw [upd_ne z]; exact e⟩
theorem Wd.wr {n : Nat} {a : Addr} {o u : HO} {ob : Ob} (w : Wd G μ H S) (hn : μ n = some a) (h : H a = some o) (hst : stir o = true) (r : ObR G μ (upd H a u) a ob) : Wd G μ (upd H a u) (S.set n ob) where
  dom := fun m hm => w.dom m (by simpa using hm)
  lt := fun m b q => by rw [List.length_set]; exact w.lt m b q
  inj := w.inj
  obj := fun m b ob hm hs => by
    have l : Le μ H μ (upd H a u) := Le.wr hn h hst
    by_cases e : m = n
    · subst e
      rw [hn] at hm; cases hm
      rw [List.getElem?_set_self (w.lt _ _ hn)] at hs
      cases hs
      exact r
    · rw [List.getElem?_set_ne (Ne.symm e)] at hs
      have ne : b ≠ a := fun z => by subst z; exact e (w.inj _ _ _ hm hn)
      exact ObR.keep l w (upd_ne ne) (w.obj m b ob hm hs)
/-- a list of the store is changed -/
theorem Le.write {n : Nat} {a : Addr} {vs ws : List V} (hn : μ n = some a) (h : H a = some (.lst vs)) : Le μ H μ (upd H a (.lst ws)) := Le.wr hn h rfl
theorem Wd.write {n : Nat} {a : Addr} {vs ws : List V} {ys : List D} (w : Wd G μ H S) (hn : μ n = some a) (h : H a = some (.lst vs)) (r : Rs G μ H ys ws) : Wd G μ (upd H a (.lst ws)) (S.set n (.lst ys)) :=
  w.wr hn h rfl ⟨ws, upd_same, (Le.write hn h).rs w r⟩
end

/-! ### outcomes -/
/-- an exception: its class, its fields -/
structure Exn where
  cls : Str
  fs : List D
inductive Res (α : Type) where
  | ok (a : α) (S : Sto) | exc (e : Exn) (S : Sto) | bad
def bnd {α β : Type} (r : Res α) (f : α → Sto → Res β) : Res β := match r with
  | .ok a S => f a S
  | .exc e S => .exc e S
  | .bad => .bad
def Post {α : Type} (r : Res α) (Q : α → Sto → Prop) (E : Exn → Sto → Prop) : Prop := match r with
  | .ok a S => Q a S
  | .exc e S => E e S
  | .bad => False
theorem post_bnd {α β : Type} {r : Res α} {f : α → Sto → Res β} {Q : β → Sto → Prop} {E : Exn → Sto → Prop} : Post (bnd r f) Q E ↔ Post r (fun a S => Post (f a S) Q E) E := by
  cases r <;> exact Iff.rfl
theorem Post.imp {α : Type} {r : Res α} {Q Q' : α → Sto → Prop} {E E' : Exn → Sto → Prop} (h : Post r Q E) (hq : ∀ a S, Q a S → Q' a S) (he : ∀ e S, E e S → E' e S) : Post r Q' E' := by
  cases r with
  | ok a S => exact hq a S h
  | exc e S => exact he e S h
  | bad => exact h

/-- a value, or a list just made that nothing else knows -/
inductive Rv where
  | val (d : D) | new (xs : List D) | newk (kvs : List (Key × D)) | newt (kvs : List (List Key × D))
abbrev Env := List (Option D)
abbrev ExM := Env → Sto → Res Rv
abbrev ArM := Env → Sto → Res (List D)
abbrev TsM := Env → Sto → Res Bool

def EnvR (G : Gm) (μ : Mp) (H : Hp) (env : Env) (σ : L2.St) : Prop := env.length = σ.length ∧ ∀ (i : Nat) (d : D), env[i]? = some (some d) → ∃ v, σ[i]? = some (some v) ∧ R G μ H d v
def Rx (G : Gm) (H0 : Hp) (μ : Mp) (H : Hp) : Rv → V → Prop
  | .val d, v => R G μ H d v
  | .new xs, v => ∃ a vs, v = .ref a ∧ H a = some (.lst vs) ∧ (∀ n, μ n ≠ some a) ∧ H0 a = none ∧ Rs G μ H xs vs
  | .newk kvs, v => ∃ a vs, v = .ref a ∧ H a = some (.dK vs) ∧ (∀ n, μ n ≠ some a) ∧ H0 a = none ∧ KvR G μ H kvs vs
  | .newt kvs, v => ∃ a vs, v = .ref a ∧ H a = some (.dT vs) ∧ (∀ n, μ n ≠ some a) ∧ H0 a = none ∧ KvR G μ H kvs vs
/-- how an exception of ours lies: its class's address, its dict's -/
def ExcR (G : Gm) (μ : Mp) (H : Hp) (e : Exn) (c : Value) (d : Option Addr) : Prop := False

section
variable {G : Gm} {μ μ' μ'' : Mp} {H H' H'' H0 : Hp} {S S' : Sto} {env : Env} {σ : L2.St}
theorem Le.envR (l : Le μ H μ' H') (w : Wd G μ H S) (h : EnvR G μ H env σ) : EnvR G μ' H' env σ :=
  ⟨h.1, fun i d e => let ⟨v, e', r⟩ := h.2 i d e; ⟨v, e', l.r w r⟩⟩
theorem Le.fresh (l : Le μ H μ' H') {a : Addr} {o : HO} (ha : H a = some o) (hn : ∀ n, μ n ≠ some a) (n : Nat) : μ' n ≠ some a := fun z => by
  rcases l.new n a z with q | q
  · exact hn n q
  · rw [q] at ha; cases ha
theorem Le.rx (l : Le μ H μ' H') (w : Wd G μ H S) {x : Rv} {v : V} (h : Rx G H0 μ H x v) : Rx G H0 μ' H' x v := by
  cases x with
  | val d => exact l.r w h
  | new xs =>
    obtain ⟨a, vs, e, ha, hn, h0, r⟩ := h
    exact ⟨a, vs, e, l.kept _ _ ha hn, l.fresh ha hn, h0, l.rs w r⟩
  | newk kvs =>
    obtain ⟨a, vs, e, ha, hn, h0, r⟩ := h
    exact ⟨a, vs, e, l.kept _ _ ha hn, l.fresh ha hn, h0, r.mono fun _ _ q => l.rs w q⟩
  | newt kvs =>
    obtain ⟨a, vs, e, ha, hn, h0, r⟩ := h
    exact ⟨a, vs, e, l.kept _ _ ha hn, l.fresh ha hn, h0, r.mono fun _ _ q => l.rs w q⟩
theorem Le.rx0 (l : Le μ H μ' H') {x : Rv} {v : V} (h : Rx G H' μ'' H'' x v) : Rx G H μ'' H'' x v := by
  cases x with
  | val d => exact h
  | new xs =>
    obtain ⟨a, vs, e, ha, hn, h0, r⟩ := h
    exact ⟨a, vs, e, ha, hn, l.free h0, r⟩
  | newk kvs =>
    obtain ⟨a, vs, e, ha, hn, h0, r⟩ := h
    exact ⟨a, vs, e, ha, hn, l.free h0, r⟩
  | newt kvs =>
    obtain ⟨a, vs, e, ha, hn, h0, r⟩ := h
    exact ⟨a, vs, e, ha, hn, l.free h0, r⟩
/-- what stands outside the store, no tuple, not still, may change -/
def soft : HO → Bool
  | .tup _ => false
  | .frz _ _ => false
  | _ => true
theorem soft_frz {p a : Addr} {o u x : HO} {b : Obj} (h : H p = some u) (hs : soft u = true) (q : H a = some (.frz b x)) : upd H p o a = some (.frz b x) := by
  rw [upd_ne fun z => by subst z; rw [q] at h; cases h; cases hs]
  exact q
theorem soft_tup {p a : Addr} {o u : HO} {xs : List V} (h : H p = some u) (hs : soft u = true) (q : H a = some (.tup xs)) : upd H p o a = some (.tup xs) := by
  rw [upd_ne fun z => by subst z; rw [q] at h; cases h; cases hs]
  exact q
theorem Rs.outs {p : Addr} {o u : HO} {ds : List D} {vs : List V} (h : H p = some u) (hs : soft u = true) (r : Rs G μ H ds vs) : Rs G μ (upd H p o) ds vs :=
  r.mono (fun _ _ h => h) (fun a xs q => soft_tup h hs q) fun a b x q => soft_frz h hs q
theorem R.outs {p : Addr} {o u : HO} {d : D} {v : V} (h : H p = some u) (hs : soft u = true) (r : R G μ H d v) : R G μ (upd H p o) d v :=
  r.mono (fun _ _ h => h) (fun a xs q => soft_tup h hs q) fun a b x q => soft_frz h hs q
theorem Wd.outs {p : Addr} {o u : HO} (w : Wd G μ H S) (h : H p = some u) (hs : soft u = true) (hn : ∀ n, μ n ≠ some p) : Wd G μ (upd H p o) S where
  dom := w.dom
  lt := w.lt
  inj := w.inj
  obj := fun n a ob e1 e2 => (w.obj n a ob e1 e2).move (upd_ne fun z => by subst z; exact hn n e1) fun _ _ r => r.outs h hs
theorem Le.outs {μ0 : Mp} {H0 : Hp} {p : Addr} {o : HO} (l : Le μ0 H0 μ H) (h0 : H0 p = none) : Le μ0 H0 μ (upd H p o) where
  mono := l.mono
  new := l.new
  kept := fun a u e q => by rw [upd_ne (ne_of_none e h0)]; exact l.kept a u e q
  frz := fun a u x e => by rw [upd_ne (ne_of_none e h0)]; exact l.frz a u x e
  trk := fun a u e => by rw [upd_ne (ne_of_none e h0)]; exact l.trk a u e
end
end Bz

set_option Elab.async false
set_option linter.all false
set_option maxRecDepth 100000
set_option maxHeartbeats 2000000
/-! Bz, second part: expressions. -/
namespace Bz
open PySem PySem.Spec PyProof.Rows L2

/-- texts, lists and tuples stay below this -/
def big : Nat := 1000000
theorem big_le {n : Nat} (h : n ≤ big) : n ≤ sizeLine := Nat.le_trans h (by decide)
theorem big_lt {n : Nat} (h : n < big) : n < sizeLine := Nat.lt_of_lt_of_le h (by decide)

section
variable (G : Gm) (E : XK)
def Gd (μ : Mp) (H : Hp) (Q : VK) : Rv → Sto → Prop := fun x S' => ∀ v H' μ', Le μ H μ' H' → Wd G μ' H' S' → Rx G H μ' H' x v → Q v H'
def Gds (μ : Mp) (H : Hp) (Q : List V → Hp → Prop) : List D → Sto → Prop := fun x S' => ∀ v H' μ', Le μ H μ' H' → Wd G μ' H' S' → Rs G μ' H' x v → Q v H'
def Gdt (μ : Mp) (H : Hp) (Q : Bool → Hp → Prop) : Bool → Sto → Prop := fun x S' => ∀ H' μ', Le μ H μ' H' → Wd G μ' H' S' → Q x H'
def ExP (μ : Mp) (H : Hp) : Exn → Sto → Prop := fun e S' => ∀ c d H' μ', Le μ H μ' H' → Wd G μ' H' S' → ExcR G μ' H' e c d → E c d H'
def tD (f : ExM) : TE := fun σ H Q => ∃ μ S env, Wd G μ H S ∧ EnvR G μ H env σ ∧ Post (f env S) (Gd G μ H Q) (ExP G E μ H)
def tAr (f : ArM) : TA := fun σ H Q => ∃ μ S env, Wd G μ H S ∧ EnvR G μ H env σ ∧ Post (f env S) (Gds G μ H Q) (ExP G E μ H)
def tTs (f : TsM) : TT := fun σ H Q => ∃ μ S env, Wd G μ H S ∧ EnvR G μ H env σ ∧ Post (f env S) (Gdt G μ H Q) (ExP G E μ H)
end
section
variable {G : Gm} {E : XK} {μ μ' μ1 : Mp} {H H' H1 : Hp} {S S' : Sto} {env : Env} {σ : L2.St}
theorem Gd.up {Q : VK} (l : Le μ H μ1 H1) {x : Rv} (h : Gd G μ H Q x S) : Gd G μ1 H1 Q x S := fun v H' μ' l' w r => h v H' μ' (l.trans l') w (l.rx0 r)
theorem Gds.up {Q : List V → Hp → Prop} (l : Le μ H μ1 H1) {x : List D} (h : Gds G μ H Q x S) : Gds G μ1 H1 Q x S := fun v H' μ' l' w r => h v H' μ' (l.trans l') w r
theorem Gdt.up {Q : Bool → Hp → Prop} (l : Le μ H μ1 H1) {x : Bool} (h : Gdt G μ H Q x S) : Gdt G μ1 H1 Q x S := fun H' μ' l' w => h H' μ' (l.trans l') w
theorem ExP.up (l : Le μ H μ1 H1) {e : Exn} (h : ExP G E μ H e S) : ExP G E μ1 H1 e S := fun c d H' μ' l' w r => h c d H' μ' (l.trans l') w r
/-- an expression goes on with what is asked of its value -/
theorem tD_go {f : ExM} {Q : VK} {P : Rv → Sto → Prop} (w : Wd G μ H S) (er : EnvR G μ H env σ) (h : Post (f env S) P (ExP G E μ H))
    (k : ∀ x S1 v H1 μ1, Le μ H μ1 H1 → Wd G μ1 H1 S1 → EnvR G μ1 H1 env σ → Rx G H μ1 H1 x v → P x S1 → Q v H1) : tD G E f σ H Q :=
  ⟨μ, S, env, w, er, h.imp (fun x S1 p v H1 μ1 l w1 r => k x S1 v H1 μ1 l w1 (l.envR w er) r p) fun _ _ z => z⟩
theorem tAr_go {f : ArM} {Q : List V → Hp → Prop} {P : List D → Sto → Prop} (w : Wd G μ H S) (er : EnvR G μ H env σ) (h : Post (f env S) P (ExP G E μ H))
    (k : ∀ x S1 v H1 μ1, Le μ H μ1 H1 → Wd G μ1 H1 S1 → EnvR G μ1 H1 env σ → Rs G μ1 H1 x v → P x S1 → Q v H1) : tAr G E f σ H Q :=
  ⟨μ, S, env, w, er, h.imp (fun x S1 p v H1 μ1 l w1 r => k x S1 v H1 μ1 l w1 (l.envR w er) r p) fun _ _ z => z⟩
theorem tTs_go {f : TsM} {Q : Bool → Hp → Prop} {P : Bool → Sto → Prop} (w : Wd G μ H S) (er : EnvR G μ H env σ) (h : Post (f env S) P (ExP G E μ H))
    (k : ∀ x S1 H1 μ1, Le μ H μ1 H1 → Wd G μ1 H1 S1 → EnvR G μ1 H1 env σ → P x S1 → Q x H1) : tTs G E f σ H Q :=
  ⟨μ, S, env, w, er, h.imp (fun x S1 p H1 μ1 l w1 => k x S1 H1 μ1 l w1 (l.envR w er) p) fun _ _ z => z⟩
theorem post_ex {α : Type} {r : Res α} {P P' : α → Sto → Prop} (l : Le μ H μ1 H1) (h : Post r P (ExP G E μ H)) (k : ∀ a S, P a S → P' a S) : Post r P' (ExP G E μ1 H1) := h.imp k fun _ _ z => z.up l
theorem PE.wk {X : Cx} {e : Expr} {t t' : TE} (h : PE X e t) (k : ∀ σ H Q, t' σ H Q → t σ H Q) : PE X e t' := ⟨fun pins s σ H Q I q => h.run pins s σ H Q I (k σ H Q q)⟩
theorem PT.wk {X : Cx} {e : Expr} {t t' : TT} (h : PT X e t) (k : ∀ σ H Q, t' σ H Q → t σ H Q) : PT X e t' := ⟨fun pins s σ H Q I q => h.run pins s σ H Q I (k σ H Q q)⟩
theorem PW.wk {X : Cx} {e : Expr} {t t' : TT} (h : PW X e t) (k : ∀ σ H Q, t' σ H Q → t σ H Q) : PW X e t' := ⟨fun wh pins s σ H Q I q => h.run wh pins s σ H Q I (k σ H Q q)⟩
theorem PA.wk {X : Cx} {e : List Expr} {t t' : TA} (h : PA X e t) (k : ∀ σ H Q, t' σ H Q → t σ H Q) : PA X e t' := ⟨fun pos pins s σ H Q I q => h.run pos pins s σ H Q I (k σ H Q q)⟩
end

/-! ### what stands behind a value -/
/-- a list, as it stands -/
def lstOf (x : Rv) (S : Sto) : Option (List D) := match x with
  | .new xs => some xs
  | .val (.loc n) => match S[n]? with
    | some (.lst xs) => some xs
    | _ => none
  | _ => none
/-- a list that is read, or a tuple -/
def seqOf (x : Rv) (S : Sto) : Option (List D) := match x with
  | .new xs => some xs
  | .val (.tup xs) => some xs
  | .val (.tuf xs) => some xs
  | .val (.rol xs) => some xs
  | .val (.loc n) => match S[n]? with
    | some (.lst xs) => some xs
    | _ => none
  | _ => none
section
variable {G : Gm} {E : XK} {μ μ' μ1 : Mp} {H H' H1 H0 : Hp} {S S' : Sto} {env : Env} {σ : L2.St} {x : Rv} {v : V} {xs : List D}
theorem lstOf_ok (w : Wd G μ H S) (r : Rx G H0 μ H x v) (h : lstOf x S = some xs) : ∃ a vs, v = .ref a ∧ H a = some (.lst vs) ∧ Rs G μ H xs vs := by
  unfold lstOf at h
  split at h
  · cases h
    obtain ⟨a, vs, e, ha, _, _, r⟩ := r
    exact ⟨a, vs, e, ha, r⟩
  · rename_i n
    cases r with
    | @loc n a hn =>
      split at h
      · rename_i ys e
        cases h
        obtain ⟨vs, ha, r⟩ := w.obj n a _ hn e
        exact ⟨a, vs, rfl, ha, r⟩
      · cases h
  · cases h
theorem seqOf_ok (w : Wd G μ H S) (r : Rx G H0 μ H x v) (h : seqOf x S = some xs) : ∃ a vs, v = .ref a ∧ (SqL G.K H a vs ∨ SqT G.K H a vs) ∧ Rs G μ H xs vs := by
  unfold seqOf at h
  split at h
  · cases h
    obtain ⟨a, vs, e, ha, _, _, r⟩ := r
    exact ⟨a, vs, e, .inl (.of ha), r⟩
  · cases h
    cases r with
    | tup hs r => exact ⟨_, _, rfl, .inr (SqT.of hs), r⟩
  · cases h
    cases r with
    | tuf hs r => obtain ⟨o, _, hs⟩ := hs; exact ⟨_, _, rfl, .inr (.inl (.inr ⟨o, hs⟩)), r⟩
  · cases h
    cases r with
    | rol hs r => exact ⟨_, _, rfl, .inl hs.l, r⟩
  · rename_i n
    cases r with
    | @loc n a hn =>
      split at h
      · rename_i ys e
        cases h
        obtain ⟨vs, ha, r⟩ := w.obj n a _ hn e
        exact ⟨a, vs, rfl, .inl (.of ha), r⟩
      · cases h
  · cases h
end

/-- a tuple -/
def tupX : Rv → Option (List D)
  | .val (.tup xs) => some xs
  | .val (.tuf xs) => some xs
  | _ => none
section
variable {G : Gm} {E : XK} {μ μ' μ1 : Mp} {H H' H1 H0 : Hp} {S S' : Sto} {x : Rv} {v : V} {xs : List D}
theorem tupX_ok (r : Rx G H0 μ H x v) (h : tupX x = some xs) : ∃ a vs, v = .ref a ∧ SqT G.K H a vs ∧ Rs G μ H xs vs := by
  unfold tupX at h
  split at h
  · cases h
    cases r with
    | tup hs r => exact ⟨_, _, rfl, SqT.of hs, r⟩
  · cases h
    cases r with
    | tuf hs r => obtain ⟨o, _, hs⟩ := hs; exact ⟨_, _, rfl, .inl (.inr ⟨o, hs⟩), r⟩
  · cases h
theorem tupX_val (h : tupX x = some xs) : x = .val (.tup xs) ∨ x = .val (.tuf xs) := by
  unfold tupX at h
  split at h
  · cases h; exact .inl rfl
  · cases h; exact .inr rfl
  · cases h
end
/-! ### dicts, as they stand -/
def kOf (x : Rv) (S : Sto) : Option (List (Key × D)) := match x with
  | .newk kvs => some kvs
  | .val (.rod ks ds) => some (ks.zip ds)
  | .val (.loc n) => match S[n]? with
    | some (.dk kvs) => some kvs
    | _ => none
  | _ => none
def tOf (x : Rv) (S : Sto) : Option (List (List Key × D)) := match x with
  | .newt kvs => some kvs
  | .val (.rot ks ds) => some (ks.zip ds)
  | .val (.loc n) => match S[n]? with
    | some (.dt kvs) => some kvs
    | _ => none
  | _ => none
section
variable {G : Gm} {E : XK} {μ μ' μ1 : Mp} {H H' H1 H0 : Hp} {S S' : Sto} {env : Env} {σ : L2.St} {x : Rv} {v : V}
theorem kvr_zip {κ : Type} {ks : List κ} {ds : List D} {vs : List (κ × V)} (e : ks = vs.map Prod.fst) (r : Rs G μ H ds (vs.map Prod.snd)) : KvR G μ H (ks.zip ds) vs := by
  have hl : ks.length = ds.length := by rw [e, List.length_map, r.length, List.length_map]
  refine ⟨?_, ?_⟩
  · rw [List.map_fst_zip (by omega), e]
  · rw [List.map_snd_zip (by omega)]; exact r
theorem kOf_ok {kvs : List (Key × D)} (w : Wd G μ H S) (r : Rx G H0 μ H x v) (h : kOf x S = some kvs) : ∃ a vs, v = .ref a ∧ Rd H a (.dK vs) ∧ KvR G μ H kvs vs := by
  unfold kOf at h
  split at h
  · cases h
    obtain ⟨a, vs, e, ha, _, _, r⟩ := r
    exact ⟨a, vs, e, .inl ha, r⟩
  · cases h
    cases r with
    | rod hs e r => exact ⟨_, _, rfl, .inr hs, kvr_zip e r⟩
  · rename_i n
    cases r with
    | @loc n a hn =>
      split at h
      · rename_i ys e
        cases h
        obtain ⟨vs, ha, r⟩ := w.obj n a _ hn e
        exact ⟨a, vs, rfl, .inl ha, r⟩
      · cases h
  · cases h
theorem tOf_ok {kvs : List (List Key × D)} (w : Wd G μ H S) (r : Rx G H0 μ H x v) (h : tOf x S = some kvs) : ∃ a vs, v = .ref a ∧ Rd H a (.dT vs) ∧ KvR G μ H kvs vs := by
  unfold tOf at h
  split at h
  · cases h
    obtain ⟨a, vs, e, ha, _, _, r⟩ := r
    exact ⟨a, vs, e, .inl ha, r⟩
  · cases h
    cases r with
    | rot hs e r => exact ⟨_, _, rfl, .inr hs, kvr_zip e r⟩
  · rename_i n
    cases r with
    | @loc n a hn =>
      split at h
      · rename_i ys e
        cases h
        obtain ⟨vs, ha, r⟩ := w.obj n a _ hn e
        exact ⟨a, vs, rfl, .inl ha, r⟩
      · cases h
  · cases h
end

/-! ### settling: what is kept comes into the store -/
def stl : Rv → Sto → Res D
  | .val d, S => .ok d S
  | .new xs, S => .ok (.loc S.length) (S ++ [.lst xs])
  | .newk kvs, S => .ok (.loc S.length) (S ++ [.dk kvs])
  | .newt kvs, S => .ok (.loc S.length) (S ++ [.dt kvs])
section
variable {G : Gm} {E : XK} {μ0 μ μ' μ1 : Mp} {H0 H H' H1 : Hp} {S S' : Sto} {env : Env} {σ : L2.St} {x : Rv} {v : V} {xs : List D}
theorem stl_ok (l : Le μ0 H0 μ H) (w : Wd G μ H S) (r : Rx G H0 μ H x v) : ∃ d S' μ', stl x S = .ok d S' ∧ Le μ0 H0 μ' H ∧ Wd G μ' H S' ∧ R G μ' H d v ∧ ∀ n a, μ n = some a → μ' n = some a := by
  cases x with
  | val d => exact ⟨d, S, μ, rfl, l, w, r, fun _ _ h => h⟩
  | new xs =>
    obtain ⟨a, vs, e, ha, hn, h0, rs⟩ := r
    subst e
    exact ⟨.loc S.length, S ++ [.lst xs], put μ S.length a, rfl, Le.settle w l h0, w.settle hn (o := .lst xs) ⟨vs, ha, rs⟩, .loc put_self, put_mono w⟩
  | newk kvs =>
    obtain ⟨a, vs, e, ha, hn, h0, rs⟩ := r
    subst e
    exact ⟨.loc S.length, S ++ [.dk kvs], put μ S.length a, rfl, Le.settle w l h0, w.settle hn (o := .dk kvs) ⟨vs, ha, rs⟩, .loc put_self, put_mono w⟩
  | newt kvs =>
    obtain ⟨a, vs, e, ha, hn, h0, rs⟩ := r
    subst e
    exact ⟨.loc S.length, S ++ [.dt kvs], put μ S.length a, rfl, Le.settle w l h0, w.settle hn (o := .dt kvs) ⟨vs, ha, rs⟩, .loc put_self, put_mono w⟩
/-! ### frozen: what is new becomes a value -/
def fzN : Rv → Rv
  | .new xs => .val (.rol xs)
  | .newk kvs => .val (.rod (kvs.map Prod.fst) (kvs.map Prod.snd))
  | .newt kvs => .val (.rot (kvs.map Prod.fst) (kvs.map Prod.snd))
  | x => x
def eFz (fa : ExM) : ExM := fun env S => bnd (fa env S) fun x S1 => .ok (fzN x) S1
/-- what stands in the store becomes a value, too -/
def fzL (x : Rv) (S : Sto) : Res Rv := match fzN x with
  | .val (.loc n) => (match S[n]? with
    | some (.lst xs) => .ok (.val (.rol xs)) (S.set n .dead)
    | some (.dk kvs) => .ok (.val (.rod (kvs.map Prod.fst) (kvs.map Prod.snd))) (S.set n .dead)
    | some (.dt kvs) => .ok (.val (.rot (kvs.map Prod.fst) (kvs.map Prod.snd))) (S.set n .dead)
    | _ => .ok x S)
  | y => .ok y S
def eFzL (fa : ExM) : ExM := fun env S => bnd (fa env S) fzL
/-- the value is locked, or not -/
def tLk (td : TE) : TE := fun σ H Q => td σ H fun x H1 => Q x H1 ∨ ∃ d u, x = .ref d ∧ H1 d = some u ∧ Mut (some u) ∧ ∀ od, Q x (upd H1 d (.frz od u))
theorem pe_lk {X : Cx} {e : Expr} {td : TE} (he : PE X e td) : PE X e (tLk td) := ⟨fun pins s σ H Q I h => thn (he.run pins s σ H _ I h) fun v s1 ⟨x, H1, I1, r, q⟩ => by
  rcases q with q | ⟨d, u, ex, hd, mu, q⟩
  · exact ⟨x, _, I1, r, q⟩
  · obtain ⟨od, I2⟩ := I1.lock hd mu
    exact ⟨x, _, I2, r, q od⟩⟩
theorem Rx.out (r : Rx G H0 μ H x v) {p : Addr} {u o : HO} (h : H p = some u) (hs : soft u = true) (hp : ∀ a, v = .ref a → a ≠ p) : Rx G H0 μ (upd H p o) x v := by
  cases x with
  | val d => exact R.outs h hs r
  | new xs =>
    obtain ⟨a, vs, e, ha, hn, h0, rs⟩ := r
    exact ⟨a, vs, e, by rw [upd_ne (hp a e)]; exact ha, hn, h0, rs.outs h hs⟩
  | newk xs =>
    obtain ⟨a, vs, e, ha, hn, h0, rs⟩ := r
    exact ⟨a, vs, e, by rw [upd_ne (hp a e)]; exact ha, hn, h0, rs.mono fun _ _ q => q.outs h hs⟩
  | newt xs =>
    obtain ⟨a, vs, e, ha, hn, h0, rs⟩ := r
    exact ⟨a, vs, e, by rw [upd_ne (hp a e)]; exact ha, hn, h0, rs.mono fun _ _ q => q.outs h hs⟩
theorem fzN_ok {Q : VK} (w : Wd G μ H S) (l : Le μ0 H0 μ H) (r : Rx G H0 μ H x v) (h : Gd G μ0 H0 Q (fzN x) S) : Q v H ∨ ∃ d u, v = .ref d ∧ H d = some u ∧ Mut (some u) ∧ ∀ od, Q v (upd H d (.frz od u)) := by
  cases x with
  | val d => exact .inl (h v H μ l w r)
  | new xs =>
    obtain ⟨a, vs, e, ha, hn, h0, rs⟩ := r
    subst e
    exact .inr ⟨a, _, rfl, ha, trivial, fun od => h _ _ μ (l.outs h0) (w.outs ha rfl hn) (.rol (.inl ⟨od, upd_same⟩) (rs.outs ha rfl))⟩
  | newk xs =>
    obtain ⟨a, vs, e, ha, hn, h0, rs⟩ := r
    subst e
    exact .inr ⟨a, _, rfl, ha, trivial, fun od => h _ _ μ (l.outs h0) (w.outs ha rfl hn) (.rod ⟨od, upd_same⟩ rs.1 (rs.2.outs ha rfl))⟩
  | newt xs =>
    obtain ⟨a, vs, e, ha, hn, h0, rs⟩ := r
    subst e
    exact .inr ⟨a, _, rfl, ha, trivial, fun od => h _ _ μ (l.outs h0) (w.outs ha rfl hn) (.rot ⟨od, upd_same⟩ rs.1 (rs.2.outs ha rfl))⟩
theorem fzL_ok {Q : VK} (w : Wd G μ H S) (l : Le μ0 H0 μ H) (r : Rx G H0 μ H x v) (h : Post (fzL x S) (Gd G μ0 H0 Q) (ExP G E μ0 H0)) : Q v H ∨ ∃ d u, v = .ref d ∧ H d = some u ∧ Mut (some u) ∧ ∀ od, Q v (upd H d (.frz od u)) := by
  unfold fzL at h
  split at h
  · rename_i n ex
    have ex' : x = .val (.loc n) := by cases x <;> first | exact ex | cases ex
    subst ex'
    have r' := r
    cases r with
    | @loc _ a hn =>
      split at h
      · rename_i xs e
        obtain ⟨vs, ha, rs⟩ := w.obj n a _ hn e
        exact .inr ⟨a, _, rfl, ha, trivial, fun od => h _ _ μ (l.trans (Le.wr hn ha rfl)) (w.wr hn ha rfl (ob := .dead) ⟨od, _, upd_same⟩) (.rol (.inl ⟨od, upd_same⟩) (rs.outs ha rfl))⟩
      · rename_i xs e
        obtain ⟨vs, ha, rs⟩ := w.obj n a _ hn e
        exact .inr ⟨a, _, rfl, ha, trivial, fun od => h _ _ μ (l.trans (Le.wr hn ha rfl)) (w.wr hn ha rfl (ob := .dead) ⟨od, _, upd_same⟩) (.rod ⟨od, upd_same⟩ rs.1 (rs.2.outs ha rfl))⟩
      · rename_i xs e
        obtain ⟨vs, ha, rs⟩ := w.obj n a _ hn e
        exact .inr ⟨a, _, rfl, ha, trivial, fun od => h _ _ μ (l.trans (Le.wr hn ha rfl)) (w.wr hn ha rfl (ob := .dead) ⟨od, _, upd_same⟩) (.rot ⟨od, upd_same⟩ rs.1 (rs.2.outs ha rfl))⟩
      · exact .inl (h _ H μ l w r')
  · exact fzN_ok w l r h
theorem de_fz {X : Cx} {e : Expr} {fa : ExM} (he : PE X e (tD G E fa)) : PE X e (tD G E (eFz fa)) := PE.wk (pe_lk he) fun σ H Q ⟨μ, S, env, w, er, h⟩ =>
  tD_go w er (post_bnd.1 h) fun x S1 v H1 μ1 l1 w1 er1 rx h1 => fzN_ok w1 l1 rx h1
theorem de_fzL {X : Cx} {e : Expr} {fa : ExM} (he : PE X e (tD G E fa)) : PE X e (tD G E (eFzL fa)) := PE.wk (pe_lk he) fun σ H Q ⟨μ, S, env, w, er, h⟩ =>
  tD_go w er (post_bnd.1 h) fun x S1 v H1 μ1 l1 w1 er1 rx h1 => fzL_ok w1 l1 rx h1
end

/-! ### names, constants, operators -/
def eNm (i : Nat) : ExM := fun env S => match env[i]? with
  | some (some d) => .ok (.val d) S
  | _ => .bad
def eC (d : D) : ExM := fun _ S => .ok (.val d) S
def eUn (g : Rv → Sto → Res Rv) (fa : ExM) : ExM := fun env S => bnd (fa env S) g
def eBin (g : Rv → Rv → Sto → Res Rv) (fa fb : ExM) : ExM := fun env S => bnd (fa env S) fun x S1 => bnd (fb env S1) fun y S2 => g x y S2
def eChain (g g' : Rv → Rv → Sto → Res Rv) (fa fb fc : ExM) : ExM := fun env S => bnd (fa env S) fun x S1 => bnd (fb env S1) fun y S2 => bnd (g x y S2) fun z S3 => match z with
  | .val (.bl true) => bnd (fc env S3) fun u S4 => g' y u S4
  | .val (.bl false) => .ok (.val (.bl false)) S3
  | _ => .bad
/-- an operation on values keeps what a rule of the layer asks -/
def OkOp (G : Gm) (E : XK) (r : R2) (g : Rv → Rv → Sto → Res Rv) : Prop :=
  ∀ (x y : Rv) (S : Sto) (v u : V) (μ : Mp) (H H0 : Hp) (Q : VK) (QE : Exn → Sto → Prop), Wd G μ H S → Rx G H0 μ H x v → Rx G H0 μ H y u → Post (g x y S) (Gd G μ H Q) QE → r v u H Q
def OkUn (G : Gm) (E : XK) (r : V → Hp → VK → Prop) (g : Rv → Sto → Res Rv) : Prop :=
  ∀ (x : Rv) (S : Sto) (v : V) (μ : Mp) (H H0 : Hp) (Q : VK) (QE : Exn → Sto → Prop), Wd G μ H S → Rx G H0 μ H x v → Post (g x S) (Gd G μ H Q) QE → r v H Q
section
variable {G : Gm} {E : XK} {X : Cx} {a b c : Expr} {pos : Pos} {fa fb fc : ExM}
theorem de_nm {i : Nat} {x : Str} (hN : X.N[i]? = some x) (hv : Vis X.env.scope x) (hd : (x == ("__debug__" : Str)) = false) (hcd : (x == ("__classdict__" : Str)) = false) : PE X (.Name x pos) (tD G E (eNm i)) := by
  refine PE.wk (pe_var hN hv hd hcd) fun σ H Q h => ?_
  obtain ⟨μ, S, env, w, er, h⟩ := h
  unfold eNm at h
  split at h
  · rename_i d e
    obtain ⟨v, e', r⟩ := er.2 i d e
    exact ⟨v, e', h v H μ Le.refl w r⟩
  · exact h.elim
theorem de_c {v : V} {d : D} {e : Expr} (h : PE X e (tC v)) (r : ∀ μ H, R G μ H d v) : PE X e (tD G E (eC d)) :=
  PE.wk h fun σ H Q ⟨μ, S, env, w, er, h⟩ => h v H μ Le.refl w (r μ H)
theorem de_int {i : Int} {j : Nat} : PE X (.Constant (.int i) j pos) (tD G E (eC (.int i))) := de_c pe_int fun _ _ => .int i
theorem de_bl {i : Bool} {j : Nat} : PE X (.Constant (.bool i) j pos) (tD G E (eC (.bl i))) := de_c pe_bl fun _ _ => .bl i
theorem de_str {i : Str} {j : Nat} : PE X (.Constant (.str i) j pos) (tD G E (eC (.str i))) := de_c pe_str fun _ _ => .str i
theorem de_non {j : Nat} : PE X (.Constant .none j pos) (tD G E (eC .non)) := de_c pe_non fun _ _ => .non
theorem tD_un {r : V → Hp → VK → Prop} {g : Rv → Sto → Res Rv} (o : OkUn G E r g) {σ : L2.St} {H : Hp} {Q : VK} (h : tD G E (eUn g fa) σ H Q) : tUn r (tD G E fa) σ H Q := by
  obtain ⟨μ, S, env, w, er, h⟩ := h
  refine tD_go w er (post_bnd.1 h) fun x S1 v H1 μ1 l1 w1 er1 rx h1 => ?_
  exact o x S1 v μ1 H1 H Q _ w1 rx (h1.imp (fun _ _ z => z.up l1) fun _ _ z => z)
theorem tD_bin {r : R2} {g : Rv → Rv → Sto → Res Rv} (o : OkOp G E r g) {σ : L2.St} {H : Hp} {Q : VK} (h : tD G E (eBin g fa fb) σ H Q) : tOp r (tD G E fa) (tD G E fb) σ H Q := by
  obtain ⟨μ, S, env, w, er, h⟩ := h
  refine tD_go w er (post_bnd.1 h) fun x S1 v H1 μ1 l1 w1 er1 rx h1 => ?_
  refine tD_go w1 er1 (post_ex l1 (post_bnd.1 h1) fun _ _ z => z) fun y S2 u H2 μ2 l2 w2 er2 ry h2 => ?_
  exact o x y S2 v u μ2 H2 H Q _ w2 (l2.rx w1 rx) (l1.rx0 ry) (h2.imp (fun _ _ z => z.up (l1.trans l2)) fun _ _ z => z)
theorem de_bin {op : Operator} {r : R2} {g : Rv → Rv → Sto → Res Rv} (ho : OpR X (binaryOp op) r) (o : OkOp G E r g) (ha : PE X a (tD G E fa)) (hb : PE X b (tD G E fb)) : PE X (.BinOp a op b pos) (tD G E (eBin g fa fb)) :=
  PE.wk (pe_op ho ha hb) fun _ _ _ h => tD_bin o h
theorem de_cmp {op : CmpOp} {r : R2} {g : Rv → Rv → Sto → Res Rv} (ho : OpR X (compareOp op) r) (o : OkOp G E r g) (hm : behindInMarks op b = false) (ha : PE X a (tD G E fa)) (hb : PE X b (tD G E fb)) : PE X (.Compare a [op] [b] pos) (tD G E (eBin g fa fb)) :=
  PE.wk (pe_cmpR ho ha hb hm) fun _ _ _ h => tD_bin o h
theorem tD_chain {r r' : R2} {g g' : Rv → Rv → Sto → Res Rv} (o : OkOp G E r g) (o' : OkOp G E r' g') {σ : L2.St} {H : Hp} {Q : VK} (h : tD G E (eChain g g' fa fb fc) σ H Q) : tChain r r' (tD G E fa) (tD G E fb) (tD G E fc) σ H Q := by
  obtain ⟨μ, S, env, w, er, h⟩ := h
  refine tD_go w er (post_bnd.1 h) fun x S1 v H1 μ1 l1 w1 er1 rx h1 => ?_
  refine tD_go w1 er1 (post_ex l1 (post_bnd.1 h1) fun _ _ z => z) fun y S2 u H2 μ2 l2 w2 er2 ry h2 => ?_
  refine o x y S2 v u μ2 H2 H _ _ w2 (l2.rx w1 rx) (l1.rx0 ry) ((post_bnd.1 h2).imp (fun z S3 h3 z' H3 μ3 l3 w3 rz => ?_) fun _ _ z => z)
  have l := (l1.trans l2).trans l3
  match z, rz, h3 with
  | .val (.bl true), rz, h3 =>
    cases rz
    refine ⟨true, rfl, iteT ?_⟩
    refine tD_go w3 (l3.envR w2 er2) (post_ex l (post_bnd.1 h3) fun _ _ z => z) fun t S4 t' H4 μ4 l4 w4 er4 rt h4 => ?_
    exact o' y t S4 u t' μ4 H4 H Q _ w4 ((l3.trans l4).rx w2 (l1.rx0 ry)) (l.rx0 rt) (h4.imp (fun _ _ z => z.up (l.trans l4)) fun _ _ z => z)
  | .val (.bl false), rz, h3 =>
    cases rz
    exact ⟨false, rfl, iteF (h3 _ H3 μ3 l w3 (.bl false))⟩
theorem de_chain {op op' : CmpOp} {r r' : R2} {g g' : Rv → Rv → Sto → Res Rv} (ho : OpR X (compareOp op) r) (ho' : OpR X (compareOp op') r') (o : OkOp G E r g) (o' : OkOp G E r' g') (hm : lastMarks [op, op'] [b, c] = false)
    (ha : PE X a (tD G E fa)) (hb : PE X b (tD G E fb)) (hc : PE X c (tD G E fc)) : PE X (.Compare a [op, op'] [b, c] pos) (tD G E (eChain g g' fa fb fc)) :=
  PE.wk (pe_chain ho ho' ha hb hc hm) fun _ _ _ h => tD_chain o o' h

/-! ### tests -/
/-- a value that is a truth -/
def asB (f : ExM) : TsM := fun env S => bnd (f env S) fun x S1 => match x with
  | .val (.bl b) => .ok b S1
  | _ => .bad
theorem tTest_of {f : ExM} {t : TE} (k : ∀ σ H Q, tD G E f σ H Q → t σ H Q) {σ : L2.St} {H : Hp} {Q : Bool → Hp → Prop} (h : tTs G E (asB f) σ H Q) : tTest t σ H Q := by
  obtain ⟨μ, S, env, w, er, h⟩ := h
  refine k σ H _ ?_
  refine tD_go w er (post_bnd.1 h) fun x S1 v H1 μ1 l1 w1 er1 rx h1 => ?_
  match x, rx, h1 with
  | .val (.bl b), rx, h1 =>
    cases rx
    exact ⟨b, rfl, h1 H1 μ1 l1 w1⟩
theorem dt_cmp {op : CmpOp} {r : R2} {g : Rv → Rv → Sto → Res Rv} (ho : OpR X (compareOp op) r) (o : OkOp G E r g) (hm : behindInMarks op b = false) (ha : PE X a (tD G E fa)) (hb : PE X b (tD G E fb)) : PT X (.Compare a [op] [b] pos) (tTs G E (asB (eBin g fa fb))) :=
  PT.wk (pt_cmpR ho ha hb hm) fun _ _ _ h => tTest_of (fun _ _ _ q => tD_bin o q) h
theorem dt_chain {op op' : CmpOp} {r r' : R2} {g g' : Rv → Rv → Sto → Res Rv} (ho : OpR X (compareOp op) r) (ho' : OpR X (compareOp op') r') (o : OkOp G E r g) (o' : OkOp G E r' g') (hm : lastMarks [op, op'] [b, c] = false)
    (ha : PE X a (tD G E fa)) (hb : PE X b (tD G E fb)) (hc : PE X c (tD G E fc)) : PT X (.Compare a [op, op'] [b, c] pos) (tTs G E (asB (eChain g g' fa fb fc))) :=
  PT.wk (pt_chain ho ho' ha hb hc hm) fun _ _ _ h => tTest_of (fun _ _ _ q => tD_chain o o' q) h
/-- truth of a value -/
def truOf (x : Rv) (S : Sto) : Option Bool := match x with
  | .val .non => some false
  | .val (.bl b) => some b
  | .val (.int i) => some (i != 0)
  | .val (.str y) => if y.length ≤ big then some ((y.length : Int) != 0) else none
  | x => (seqOf x S).map fun xs => !xs.isEmpty
theorem isEmpty_rs {μ : Mp} {H : Hp} {ds : List D} {vs : List V} (r : Rs G μ H ds vs) : (!ds.isEmpty) = !vs.isEmpty := by cases r <;> rfl
theorem truOf_ok {μ : Mp} {H H0 : Hp} {S : Sto} {x : Rv} {v : V} {k : Bool} (w : Wd G μ H S) (r : Rx G H0 μ H x v) (h : truOf x S = some k) : TruV G.K v H k := by
  unfold truOf at h
  split at h
  · cases h; cases r; exact rfl
  · cases h; cases r; exact rfl
  · cases h; cases r; exact rfl
  · split at h
    · rename_i hz
      cases h; cases r; exact ⟨big_le hz, rfl⟩
    · cases h
  · obtain ⟨xs, q, e⟩ := Option.map_eq_some_iff.mp h
    subst e
    obtain ⟨a, vs, rfl, hs, rs⟩ := seqOf_ok w r q
    rcases hs with hs | hs
    · exact .inl ⟨vs, hs, isEmpty_rs rs⟩
    · exact .inr (.inl ⟨vs, hs, isEmpty_rs rs⟩)
def tru (f : ExM) : TsM := fun env S => bnd (f env S) fun x S1 => match truOf x S1 with
  | some b => .ok b S1
  | none => .bad
def tTru (K : PySem.W.Frag) (t : TE) : TT := fun σ H Q => t σ H fun x H1 => ∃ k, TruV K x H1 k ∧ Q k H1
theorem pt_truV {e : Expr} {t : TE} (h : PE X e t) (he : ∀ whole, isTrue e X.env whole = (do let v ← whole; standAt e.pos; holding [v] (truthy v))) : PT X e (tTru X.K t) := by
  refine ⟨fun pins s σ H Q I hw => ?_⟩
  refine isTrue_plain (thn (h.run pins s σ H _ I hw) fun v s1 ⟨x, H1, I1, r1, q1⟩ => ?_) (he _)
  obtain ⟨d, k, q⟩ := q1
  exact tru_ok pins s1 σ H1 x v Q I1 r1 ⟨d, k, q⟩
theorem dt_tru {e : Expr} (hK : X.K = G.K) (he : ∀ whole, isTrue e X.env whole = (do let v ← whole; standAt e.pos; holding [v] (truthy v))) (ha : PE X e (tD G E fa)) : PT X e (tTs G E (tru fa)) := by
  refine PT.wk (pt_truV ha he) fun σ H Q h => ?_
  obtain ⟨μ, S, env, w, er, h⟩ := h
  refine tD_go w er (post_bnd.1 h) fun x S1 v H1 μ1 l1 w1 er1 rx h1 => ?_
  split at h1
  · rename_i b e
    exact ⟨b, by rw [hK]; exact truOf_ok w1 rx e, h1 H1 μ1 l1 w1⟩
  · exact h1.elim
/-- and, or, not -/
def tsAnd (f g : TsM) : TsM := fun env S => bnd (f env S) fun b S1 => if b = true then g env S1 else .ok false S1
def tsOr (f g : TsM) : TsM := fun env S => bnd (f env S) fun b S1 => if b = true then .ok true S1 else g env S1
def tsNot (f : TsM) : TsM := fun env S => bnd (f env S) fun b S1 => .ok (!b) S1
variable {ta tb : TsM} {rest : List Expr}
theorem dw_and1 (h : PT X a (tTs G E ta)) : PW X (.BoolOp .And [a] pos) (tTs G E ta) := pw_and1 h
theorem dw_or1 (h : PT X a (tTs G E ta)) : PW X (.BoolOp .Or [a] pos) (tTs G E ta) := pw_or1 h
theorem dw_and (ha : PT X a (tTs G E ta)) (hb : PW X (.BoolOp .And (b :: rest) pos) (tTs G E tb)) : PW X (.BoolOp .And (a :: b :: rest) pos) (tTs G E (tsAnd ta tb)) :=
  PW.wk (pw_and ha hb) fun σ H Q ⟨μ, S, env, w, er, h⟩ => tTs_go w er (post_bnd.1 h) fun k S1 H1 μ1 l1 w1 er1 h1 => by
    cases k with
    | true => exact iteT ⟨μ1, S1, env, w1, er1, post_ex l1 h1 fun _ _ z => z.up l1⟩
    | false => exact iteF (h1 H1 μ1 l1 w1)
theorem dw_or (ha : PT X a (tTs G E ta)) (hb : PW X (.BoolOp .Or (b :: rest) pos) (tTs G E tb)) : PW X (.BoolOp .Or (a :: b :: rest) pos) (tTs G E (tsOr ta tb)) :=
  PW.wk (pw_or ha hb) fun σ H Q ⟨μ, S, env, w, er, h⟩ => tTs_go w er (post_bnd.1 h) fun k S1 H1 μ1 l1 w1 er1 h1 => by
    cases k with
    | true => exact iteT (h1 H1 μ1 l1 w1)
    | false => exact iteF ⟨μ1, S1, env, w1, er1, post_ex l1 h1 fun _ _ z => z.up l1⟩
theorem dt_not (ha : PT X a (tTs G E ta)) : PT X (.UnaryOp .Not a pos) (tTs G E (tsNot ta)) :=
  PT.wk (pt_not ha) fun σ H Q ⟨μ, S, env, w, er, h⟩ => tTs_go w er (post_bnd.1 h) fun k S1 H1 μ1 l1 w1 er1 h1 => h1 H1 μ1 l1 w1
/-- .. as values -/
def eAnd (fa fb : ExM) : ExM := fun env S => bnd (fa env S) fun x S1 => match truOf x S1 with
  | some true => fb env S1
  | some false => .ok x S1
  | none => .bad
def eOr (fa fb : ExM) : ExM := fun env S => bnd (fa env S) fun x S1 => match truOf x S1 with
  | some true => .ok x S1
  | some false => fb env S1
  | none => .bad
def eNot (fa : ExM) : ExM := fun env S => bnd (fa env S) fun x S1 => match truOf x S1 with
  | some k => .ok (.val (.bl (!k))) S1
  | none => .bad
theorem de_and (hK : X.K = G.K) (ha : PE X a (tD G E fa)) (hb : PE X (.BoolOp .And (b :: rest) pos) (tD G E fb)) : PE X (.BoolOp .And (a :: b :: rest) pos) (tD G E (eAnd fa fb)) :=
  PE.wk (pe_andT ha hb) fun σ H Q ⟨μ, S, env, w, er, h⟩ => tD_go w er (post_bnd.1 h) fun x S1 v H1 μ1 l1 w1 er1 rx h1 => by
    split at h1
    · rename_i e
      exact ⟨true, by rw [hK]; exact truOf_ok w1 rx e, iteT ⟨μ1, S1, env, w1, er1, post_ex l1 h1 fun _ _ z => z.up l1⟩⟩
    · rename_i e
      exact ⟨false, by rw [hK]; exact truOf_ok w1 rx e, iteF (h1 v H1 μ1 l1 w1 rx)⟩
    · exact h1.elim
theorem de_or (hK : X.K = G.K) (ha : PE X a (tD G E fa)) (hb : PE X (.BoolOp .Or (b :: rest) pos) (tD G E fb)) : PE X (.BoolOp .Or (a :: b :: rest) pos) (tD G E (eOr fa fb)) :=
  PE.wk (pe_orT ha hb) fun σ H Q ⟨μ, S, env, w, er, h⟩ => tD_go w er (post_bnd.1 h) fun x S1 v H1 μ1 l1 w1 er1 rx h1 => by
    split at h1
    · rename_i e
      exact ⟨true, by rw [hK]; exact truOf_ok w1 rx e, iteT (h1 v H1 μ1 l1 w1 rx)⟩
    · rename_i e
      exact ⟨false, by rw [hK]; exact truOf_ok w1 rx e, iteF ⟨μ1, S1, env, w1, er1, post_ex l1 h1 fun _ _ z => z.up l1⟩⟩
    · exact h1.elim
theorem de_one {op : BoolOp} (ha : PE X a (tD G E fa)) : PE X (.BoolOp op [a] pos) (tD G E fa) := pe_one ha
theorem de_not (hK : X.K = G.K) (ha : PE X a (tD G E fa)) : PE X (.UnaryOp .Not a pos) (tD G E (eNot fa)) :=
  PE.wk (pe_notT ha) fun σ H Q ⟨μ, S, env, w, er, h⟩ => tD_go w er (post_bnd.1 h) fun x S1 v H1 μ1 l1 w1 er1 rx h1 => by
    split at h1
    · rename_i k e
      exact ⟨k, by rw [hK]; exact truOf_ok w1 rx e, h1 _ H1 μ1 l1 w1 (.bl _)⟩
    · exact h1.elim
def eIf (t : TsM) (fa fb : ExM) : ExM := fun env S => bnd (t env S) fun k S1 => if k = true then fa env S1 else fb env S1
theorem de_if (hc : PT X c (tTs G E ta)) (ha : PE X a (tD G E fa)) (hb : PE X b (tD G E fb)) : PE X (.IfExp c a b pos) (tD G E (eIf ta fa fb)) :=
  PE.wk (pe_ifExp hc ha hb) fun σ H Q ⟨μ, S, env, w, er, h⟩ => tTs_go w er (post_bnd.1 h) fun k S1 H1 μ1 l1 w1 er1 h1 => by
    cases k with
    | true => exact iteT ⟨μ1, S1, env, w1, er1, post_ex l1 h1 fun _ _ z => z.up l1⟩
    | false => exact iteF ⟨μ1, S1, env, w1, er1, post_ex l1 h1 fun _ _ z => z.up l1⟩
theorem de_neg (ha : PE X a (tD G E fa)) : PE X (.UnaryOp .USub a pos) (tD G E (eUn (fun x S => match x with
  | .val (.int i) => .ok (.val (.int (-i))) S
  | _ => .bad) fa)) := PE.wk (pe_un un_neg ha) fun σ H Q h => tD_un (fun x S v μ H H0 Q QE w r q => by
    split at q
    · cases r
      exact ⟨_, rfl, q _ H μ Le.refl w (.int _)⟩
    · exact q.elim) h

/-! ### argument lists, displays -/
def aNil : ArM := fun _ S => .ok [] S
def aCons (f : ExM) (g : ArM) : ArM := fun env S => bnd (f env S) fun x S1 => bnd (stl x S1) fun d S2 => bnd (g env S2) fun ds S3 => .ok (d :: ds) S3
variable {e : Expr} {es : List Expr} {ga : ArM}
theorem da_nil : PA X [] (tAr G E aNil) := PA.wk pa_nil fun σ H Q ⟨μ, S, env, w, er, h⟩ => h [] H μ Le.refl w .nil
theorem da_cons (hs : starEach (e :: es) X.env = (false, eval e X.env) :: starEach es X.env) (ha : PE X e (tD G E fa)) (hr : PA X es (tAr G E ga)) : PA X (e :: es) (tAr G E (aCons fa ga)) :=
  PA.wk (pa_cons ha hr hs) fun σ H Q ⟨μ, S, env, w, er, h⟩ => tD_go w er (post_bnd.1 h) fun x S1 v H1 μ1 l1 w1 er1 rx h1 => by
    obtain ⟨d, S2, μ2, e2, l2, w2, r2, m2⟩ := stl_ok l1 w1 rx
    rw [e2] at h1
    have er2 : EnvR G μ2 H1 env σ := l2.envR w er
    refine tAr_go w2 er2 (post_ex l2 (post_bnd.1 (show Post (bnd (ga env S2) _) _ _ from h1)) fun _ _ z => z) fun ds S3 vs H3 μ3 l3 w3 er3 rs h3 => ?_
    exact h3 (v :: vs) H3 μ3 (l2.trans l3) w3 (.cons (l3.r w2 r2) rs)
def eTup (f : ArM) : ExM := fun env S => bnd (f env S) fun ds S1 => if ds.length ≤ big then .ok (.val (.tup ds)) S1 else .bad
def eTuf (f : ArM) : ExM := fun env S => bnd (f env S) fun ds S1 => if ds.length ≤ big then .ok (.val (.tuf ds)) S1 else .bad
def eLst (f : ArM) : ExM := fun env S => bnd (f env S) fun ds S1 => if ds.length ≤ big then .ok (.new ds) S1 else .bad
theorem Rx.fresh {μ : Mp} {H H0 : Hp} {S : Sto} {p : Addr} {ds : List D} {vs : List V} (w : Wd G μ H S) (hp : H p = none) (h0 : H0 p = none) (r : Rs G μ H ds vs) : Rx G H0 μ (upd H p (.lst vs)) (.new ds) (.ref p) :=
  ⟨p, vs, rfl, upd_same, w.free hp, h0, (Le.laid hp).rs w r⟩
theorem R.fresh {μ : Mp} {H : Hp} {S : Sto} {p : Addr} {ds : List D} {vs : List V} (w : Wd G μ H S) (hp : H p = none) (r : Rs G μ H ds vs) : R G μ (upd H p (.tup vs)) (.tup ds) (.ref p) :=
  .tup upd_same ((Le.laid hp).rs w r)
theorem de_tup {k : Nat} (ha : PA X es (tAr G E ga)) : PE X (.Tuple es k pos) (tD G E (eTup ga)) :=
  PE.wk (pe_tup ha) fun σ H Q ⟨μ, S, env, w, er, h⟩ => tAr_go w er (post_bnd.1 h) fun ds S1 vs H1 μ1 l1 w1 er1 rs h1 => by
    split at h1
    · rename_i hz
      refine ⟨big_le (by rw [← rs.length]; exact hz), fun p hp => h1 _ _ μ1 (l1.trans (Le.laid hp)) (w1.laid hp) (R.fresh w1 hp rs)⟩
    · exact h1.elim
theorem Rs.laid {μ : Mp} {H : Hp} {S : Sto} {p : Addr} {o : HO} {ds : List D} {vs : List V} (w : Wd G μ H S) (hp : H p = none) (r : Rs G μ H ds vs) : Rs G μ (upd H p o) ds vs := (Le.laid hp).rs w r
theorem R.freshF {μ : Mp} {H : Hp} {S : Sto} {p : Addr} {ds : List D} {vs : List V} {o : Obj} (w : Wd G μ H S) (hp : H p = none) (ho : o.dict = none) (r : Rs G μ H ds vs) : R G μ (upd H p (.frz o (.tup vs))) (.tuf ds) (.ref p) :=
  .tuf ⟨o, ho, upd_same⟩ ((Le.laid hp).rs w r)
def tTuf (t : TA) : TE := fun σ H Q => t σ H fun xs H1 => xs.length ≤ sizeLine ∧ ∀ p o, H1 p = none → o.dict = none → Q (.ref p) (upd H1 p (.frz o (.tup xs)))
theorem pe_tuf {X : Cx} {es : List Expr} {t : TA} {x1 : Nat} {pos : Pos} (h : PA X es t) : PE X (.Tuple es x1 pos) (tTuf t) := by
  refine ⟨fun pins s σ H Q I hq => ?_⟩
  refine wpAny_Tuple_spliced (thn (h.run pos pins s σ H _ I hq) fun us s1 ⟨xs, H1, I1, r, z, q⟩ => ⟨by rw [← r.length]; exact z, ?_⟩)
  have hf : H1 s1.heap.objs.size = none := I1.hok.fresh (Nat.le_refl _)
  refine ⟨.ref s1.heap.objs.size, upd H1 s1.heap.objs.size (.frz { cls := .type "tuple", data := .seq us.toArray } (.tup xs)), I1.laid (t' := s1.toks) (fun b u e => Heap.get?_push_of_some _ e) (Nat.le_refl _) ?_, rfl, q _ _ hf rfl⟩
  exact ⟨Heap.get?_push_size _ rfl, z, us, r, ⟨_, Heap.get?_push_size _ rfl, rfl, _, rfl⟩⟩
theorem de_tuf {k : Nat} (ha : PA X es (tAr G E ga)) : PE X (.Tuple es k pos) (tD G E (eTuf ga)) :=
  PE.wk (pe_tuf ha) fun σ H Q ⟨μ, S, env, w, er, h⟩ => tAr_go w er (post_bnd.1 h) fun ds S1 vs H1 μ1 l1 w1 er1 rs h1 => by
    split at h1
    · rename_i hz
      refine ⟨big_le (by rw [← rs.length]; exact hz), fun p o hp ho => h1 _ _ μ1 (l1.trans (Le.laid hp)) (w1.laid hp) (R.freshF w1 hp ho rs)⟩
    · exact h1.elim
theorem de_lst (ha : PA X es (tAr G E ga)) : PE X (.List es pos) (tD G E (eLst ga)) :=
  PE.wk (pe_lst ha) fun σ H Q ⟨μ, S, env, w, er, h⟩ => tAr_go w er (post_bnd.1 h) fun ds S1 vs H1 μ1 l1 w1 er1 rs h1 => by
    split at h1
    · rename_i hz
      refine ⟨big_le (by rw [← rs.length]; exact hz), fun p hp => h1 _ _ μ1 (l1.trans (Le.laid hp)) (w1.laid hp) (Rx.fresh w1 hp (l1.free hp) rs)⟩
    · exact h1.elim
end
end Bz

set_option Elab.async false
set_option linter.all false
set_option maxRecDepth 100000
set_option maxHeartbeats 2000000
/-! Bz, third part: operations on values. -/
namespace Bz
open PySem PySem.Spec PyProof.Rows L2

theorem OpR.or {X : Cx} {f : Value → Value → Sem Value} {r r' : R2} (h : OpR X f r) (h' : OpR X f r') : OpR X f (fun x y H Q => r x y H Q ∨ r' x y H Q) := by
  intro pins s σ H x y v u Q I rx ry q
  rcases q with q | q
  · exact h pins s σ H x y v u Q I rx ry q
  · exact h' pins s σ H x y v u Q I rx ry q
/-- two ints -/
def intI (C : Int → Int → Bool) (h : Int → Int → Int) : Rv → Rv → Sto → Res Rv := fun x y S => match x, y with
  | .val (.int i), .val (.int j) => if C i j = true then .ok (.val (.int (h i j))) S else .bad
  | _, _ => .bad
def cMul (i j : Int) : Bool := (decide (-(2 ^ 64) < i) && decide (i < 2 ^ 64)) || (decide (-(2 ^ 64) < j) && decide (j < 2 ^ 64))
def cDiv (_ j : Int) : Bool := decide (0 < j) && decide (j < 2 ^ 200)
def cMod (_ j : Int) : Bool := decide (0 < j)
def cPow (i j : Int) : Bool := decide (0 ≤ j) && decide (j ≤ 1000) && decide (i.natAbs < 2 ^ 64)
section
variable {G : Gm} {E : XK}
theorem ok_intI {C : Int → Int → Bool} {C' : Int → Int → Prop} {h : Int → Int → Int} (hc : ∀ i j, C i j = true → C' i j) : OkOp G E (rI C' fun i j => .int (h i j)) (intI C h) := by
  intro x y S v u μ H H0 Q QE w rx ry q
  unfold intI at q
  split at q
  · split at q
    · rename_i c
      cases rx; cases ry
      exact ⟨_, _, rfl, rfl, hc _ _ c, q _ H μ Le.refl w (.int _)⟩
    · exact q.elim
  · exact q.elim
theorem cMul_ok (i j : Int) (h : cMul i j = true) : CMul i j := by
  unfold cMul at h
  simp only [Bool.or_eq_true, Bool.and_eq_true, decide_eq_true_eq] at h
  exact h
theorem cDiv_ok (i j : Int) (h : cDiv i j = true) : CDivW i j := by
  unfold cDiv at h
  simp only [Bool.and_eq_true, decide_eq_true_eq] at h
  exact wide_div (b := 200) h.1 (by omega) (by decide) (by decide)
theorem cMod_ok (i j : Int) (h : cMod i j = true) : (0 : Int) < j := of_decide_eq_true h
theorem cPow_ok (i j : Int) (h : cPow i j = true) : CPow i j := by
  unfold cPow at h
  simp only [Bool.and_eq_true, decide_eq_true_eq] at h
  exact ⟨h.1.1, by omega, h.2⟩
def subV : Rv → Rv → Sto → Res Rv := intI (fun _ _ => true) fun i j => i - j
def mulV : Rv → Rv → Sto → Res Rv := intI cMul fun i j => i * j
def divV : Rv → Rv → Sto → Res Rv := intI cDiv fun i j => i / j
def modV : Rv → Rv → Sto → Res Rv := intI cMod fun i j => i % j
def powV : Rv → Rv → Sto → Res Rv := intI cPow fun i j => i ^ j.toNat
theorem ok_sub {X : Cx} : ∃ r, OpR X (binaryOp .Sub) r ∧ OkOp G E r subV := by
  refine ⟨rI (fun _ _ => True) fun i j => .int (i - j), ?_, ok_intI fun _ _ _ => trivial⟩
  intro pins s σ H x y v u Q I rx ry ⟨i, j, e1, e2, _, q⟩
  exact op_sub pins s σ H x y v u Q I rx ry ⟨i, j, e1, e2, q⟩
theorem ok_mul {X : Cx} : ∃ r, OpR X (binaryOp .Mult) r ∧ OkOp G E r mulV := ⟨_, op_mul, ok_intI cMul_ok⟩
theorem ok_div {X : Cx} : ∃ r, OpR X (binaryOp .FloorDiv) r ∧ OkOp G E r divV := ⟨_, op_fdivW, ok_intI cDiv_ok⟩
theorem ok_mod {X : Cx} : ∃ r, OpR X (binaryOp .Mod) r ∧ OkOp G E r modV := ⟨_, op_mod, ok_intI cMod_ok⟩
theorem ok_pow {X : Cx} : ∃ r, OpR X (binaryOp .Pow) r ∧ OkOp G E r powV := ⟨_, op_pow, ok_intI cPow_ok⟩

/-- a list that is read -/
def lrdOf (x : Rv) (S : Sto) : Option (List D) := match x with
  | .new xs => some xs
  | .val (.rol xs) => some xs
  | .val (.loc n) => match S[n]? with
    | some (.lst xs) => some xs
    | _ => none
  | _ => none
theorem lrdOf_ok {G : Gm} {μ : Mp} {H H0 : Hp} {S : Sto} {x : Rv} {v : V} {xs : List D} (w : Wd G μ H S) (r : Rx G H0 μ H x v) (h : lrdOf x S = some xs) : ∃ a vs, v = .ref a ∧ SqL G.K H a vs ∧ Rs G μ H xs vs := by
  unfold lrdOf at h
  split at h
  · cases h
    obtain ⟨a, vs, e, ha, _, _, r⟩ := r
    exact ⟨a, vs, e, .of ha, r⟩
  · cases h
    cases r with
    | rol hs r => exact ⟨_, _, rfl, hs.l, r⟩
  · rename_i n
    cases r with
    | @loc n a hn =>
      split at h
      · rename_i ys e
        cases h
        obtain ⟨vs, ha, r⟩ := w.obj n a _ hn e
        exact ⟨a, vs, rfl, .of ha, r⟩
      · cases h
  · cases h
/-! ### + -/
def addV : Rv → Rv → Sto → Res Rv := fun x y S => match x, y with
  | .val (.int i), .val (.int j) => .ok (.val (.int (i + j))) S
  | .val (.bl b), .val (.int j) => .ok (.val (.int (b2i b + j))) S
  | .val (.str i), .val (.str j) => if i.length + j.length ≤ big then .ok (.val (.str (i ++ j))) S else .bad
  | .val (.tup xs), .val (.tup ys) => if xs.length + ys.length ≤ big then .ok (.val (.tup (xs ++ ys))) S else .bad
  | x, y => match lrdOf x S, lrdOf y S with
    | some xs, some ys => if xs.length + ys.length ≤ big then .ok (.new (xs ++ ys)) S else .bad
    | _, _ => match tupX x, tupX y with
      | some xs, some ys => if xs.length + ys.length ≤ big then .ok (if xs.isEmpty = true then y else if ys.isEmpty = true then x else .val (.tup (xs ++ ys))) S else .bad
      | _, _ => .bad
theorem op_add_bi {X : Cx} : OpR X (binaryOp .Add) (fun x y H Q => ∃ k i, x = .bl k ∧ y = .int i ∧ Q (.int (b2i k + i)) H) := fun pins s σ H x y v u Q I rx ry h => by
  obtain ⟨k, i, rfl, rfl, q⟩ := h
  obtain ⟨t, rfl⟩ := ry
  cases rx
  refine IntBool.add_bool_int ⟨.int (b2i k + i), H, I.tok _, ⟨_, rfl⟩, q⟩
def rCatL (K : PySem.W.Frag) : R2 := fun x y H Q => ∃ l b xs zs, x = .ref l ∧ y = .ref b ∧ SqL K H l xs ∧ SqL K H b zs ∧ xs.length + zs.length ≤ sizeLine ∧ ∀ p, H p = none → Q (.ref p) (upd H p (.lst (xs ++ zs)))
theorem op_catL {X : Cx} : OpR X (binaryOp .Add) (rCatL X.K) := by
  intro pins s σ H x y v u Q I rx ry h
  obtain ⟨l, b, xs, zs, rfl, rfl, hH, hB, hz, q⟩ := h
  cases rx
  cases ry
  obtain ⟨its, r, e, hl⟩ := I.list hH
  obtain ⟨its2, r2, e2, hl2⟩ := I.list hB
  obtain ⟨⟨cls, dd, data, sl⟩, n, ho, hc, hdd, hd⟩ := e
  obtain ⟨⟨cls2, dd2, data2, sl2⟩, n2, ho2, hc2, hdd2, hd2⟩ := e2
  simp only at hc hd hc2 hd2
  subst hc hd hc2 hd2
  have l1 := r.length
  have l2 := r2.length
  have ea : its.toArray ++ its2.toArray = (its ++ its2).toArray := by simp
  refine concat_meets ⟨_, ho, rfl⟩ ⟨_, ho2, rfl⟩ noFill_list_add seq_list_add PySem.F.slot_list_add PySem.F.entry_list_add (PySem.F.args_list_add_2 _ _) (list_addW l b its.toArray its2.toArray n n2 dd dd2 sl sl2 (by simp; omega)) ⟨ho, ho2, ?_⟩
  rw [ea]
  exact ⟨.ref _, _, I.lnew (t' := s.toks) (r.append r2) (by rw [List.length_append]; omega), rfl, q _ I.fresh⟩
theorem ok_add {X : Cx} (hK : X.K = G.K) : ∃ r, OpR X (binaryOp .Add) r ∧ OkOp G E r addV := by
  refine ⟨_, OpR.or op_add (OpR.or op_add_bi (OpR.or op_add_str (OpR.or op_catA op_catL))), ?_⟩
  intro x y S v u μ H H0 Q QE w rx ry q
  unfold addV at q
  split at q
  · cases rx; cases ry
    exact .inl ⟨_, _, rfl, rfl, q _ H μ Le.refl w (.int _)⟩
  · cases rx; cases ry
    exact .inr (.inl ⟨_, _, rfl, rfl, q _ H μ Le.refl w (.int _)⟩)
  · split at q
    · rename_i hz
      cases rx; cases ry
      exact .inr (.inr (.inl ⟨_, _, rfl, rfl, big_le hz, q _ H μ Le.refl w (.str _)⟩))
    · exact q.elim
  · split at q
    · rename_i xs ys hz
      cases rx with
      | @tup _ a vs hx r1 =>
      cases ry with
      | @tup _ b ws hy r2 =>
      have hx1 := hx
      have hy1 := hy
      have hx := SqT.of (K := G.K) hx
      have hy := SqT.of (K := G.K) hy
      have e1 := r1.length
      have e2 := r2.length
      refine .inr (.inr (.inr (.inl ⟨a, b, vs, ws, rfl, rfl, by rw [hK]; exact hx, by rw [hK]; exact hy, big_le (by rw [← e1, ← e2]; exact hz), fun e => ?_, fun _ e => ?_, fun _ _ p hp => ?_⟩)))
      · subst e
        have : xs = [] := List.eq_nil_of_length_eq_zero e1
        subst this
        exact q _ H μ Le.refl w (.tup hy1 r2)
      · subst e
        have : ys = [] := List.eq_nil_of_length_eq_zero e2
        subst this
        rw [List.append_nil] at q
        exact q _ H μ Le.refl w (.tup hx1 r1)
      · exact q _ _ μ (Le.laid hp) (w.laid hp) (R.fresh w hp (r1.append r2))
    · exact q.elim
  · split at q
    · rename_i xs ys e1 e2
      split at q
      · rename_i hz
        obtain ⟨a, vs, rfl, ha, r1⟩ := lrdOf_ok w rx e1
        obtain ⟨b, ws, rfl, hb, r2⟩ := lrdOf_ok w ry e2
        refine .inr (.inr (.inr (.inr ⟨a, b, vs, ws, rfl, rfl, by rw [hK]; exact ha, by rw [hK]; exact hb, big_le (by rw [← r1.length, ← r2.length]; exact hz), fun p hp => ?_⟩)))
        exact q _ _ μ (Le.laid hp) (w.laid hp) (Rx.fresh w hp hp (r1.append r2))
      · exact q.elim
    · split at q
      · rename_i xs ys e1 e2
        split at q
        · rename_i hz
          obtain ⟨a, vs, rfl, hx, r1⟩ := tupX_ok rx e1
          obtain ⟨b, ws, rfl, hy, r2⟩ := tupX_ok ry e2
          have g1 := r1.length
          have g2 := r2.length
          have rx' : R G μ H (match x with | .val d => d | _ => .non) (.ref a) := by rcases tupX_val e1 with rfl | rfl <;> exact rx
          refine .inr (.inr (.inr (.inl ⟨a, b, vs, ws, rfl, rfl, by rw [hK]; exact hx, by rw [hK]; exact hy, big_le (by rw [← g1, ← g2]; exact hz), fun e => ?_, fun n1 e => ?_, fun n1 n2 p hp => ?_⟩)))
          · subst e
            have : xs = [] := List.eq_nil_of_length_eq_zero g1
            subst this
            refine q _ H μ Le.refl w ?_
            rcases tupX_val e2 with rfl | rfl <;> exact ry
          · subst e
            have : ys = [] := List.eq_nil_of_length_eq_zero g2
            subst this
            have hx0 : xs.isEmpty = false := by
              cases xs with
              | nil => cases vs with
                | nil => exact absurd rfl n1
                | cons _ _ => cases g1
              | cons _ _ => rfl
            rw [hx0] at q
            refine q _ H μ Le.refl w ?_
            rcases tupX_val e1 with rfl | rfl <;> exact rx
          · have hx0 : xs.isEmpty = false := by
              cases xs with
              | nil => cases vs with
                | nil => exact absurd rfl n1
                | cons _ _ => cases g1
              | cons _ _ => rfl
            have hy0 : ys.isEmpty = false := by
              cases ys with
              | nil => cases ws with
                | nil => exact absurd rfl n2
                | cons _ _ => cases g2
              | cons _ _ => rfl
            rw [hx0, hy0] at q
            exact q _ _ μ (Le.laid hp) (w.laid hp) (R.fresh w hp (r1.append r2))
        · exact q.elim
      · exact q.elim

/-! ### equality -/
mutual
/-- the data that stands under a value; lk: what stands under a place of the store -/
def rfd (lk : Nat → Option PyData) : D → Option PyData
  | .non => some .none
  | .bl b => some (.bool b)
  | .int i => some (.int i)
  | .str x => some (.str x)
  | .tup xs => (rfds lk xs).map .tuple
  | .tuf xs => (rfds lk xs).map .tuple
  | .rol xs => (rfds lk xs).map .list
  | .loc m => lk m
  | .fn _ => none
  | .rod _ _ => none
  | .rot _ _ => none
def rfds (lk : Nat → Option PyData) : List D → Option (List PyData)
  | [] => some []
  | x :: xs => match rfd lk x, rfds lk xs with
    | some d, some ds => some (d :: ds)
    | _, _ => none
end
def lkS (S : Sto) : Nat → Nat → Option PyData
  | 0, _ => none
  | n + 1, m => match S[m]? with
    | some (.lst xs) => (rfds (lkS S n) xs).map .list
    | _ => none
def rfx (x : Rv) (S : Sto) : Option PyData := match x with
  | .val d => rfd (lkS S 12) d
  | .new xs => (rfds (lkS S 12) xs).map .list
  | _ => none
section
variable {μ : Mp} {H : Hp} {S : Sto} {lk : Nat → Option PyData}
mutual
theorem rfd_ok (hl : ∀ m a p, μ m = some a → lk m = some p → Dp G.K H (.ref a) p) : ∀ (d : D) (v : V) (p : PyData), R G μ H d v → rfd lk d = some p → Dp G.K H v p
  | .non, _, _, r, e => by cases r; cases e; exact .non
  | .bl b, _, _, r, e => by cases r; cases e; exact .bl b
  | .int b, _, _, r, e => by cases r; cases e; exact .int b
  | .str b, _, _, r, e => by cases r; cases e; exact .str b
  | .loc m, _, _, r, e => by
    cases r with
    | loc h => exact hl _ _ _ h e
  | .fn _, _, _, r, e => by cases e
  | .rod _ _, _, _, r, e => by cases e
  | .rot _ _, _, _, r, e => by cases e
  | .tup ds, _, _, r, e => by
    cases r with
    | tup h r =>
      obtain ⟨ps, e1, e2⟩ := Option.map_eq_some_iff.mp (show (rfds lk ds).map PyData.tuple = some _ from e)
      subst e2
      exact .tup (SqT.of h) (rfds_ok hl ds _ ps r e1)
  | .tuf ds, _, _, r, e => by
    cases r with
    | tuf h r =>
      obtain ⟨o, _, h⟩ := h
      obtain ⟨ps, e1, e2⟩ := Option.map_eq_some_iff.mp (show (rfds lk ds).map PyData.tuple = some _ from e)
      subst e2
      exact .tup (.inl (.inr ⟨o, h⟩)) (rfds_ok hl ds _ ps r e1)
  | .rol ds, _, _, r, e => by
    cases r with
    | rol h r =>
      obtain ⟨ps, e1, e2⟩ := Option.map_eq_some_iff.mp (show (rfds lk ds).map PyData.list = some _ from e)
      subst e2
      exact .lst h.l (rfds_ok hl ds _ ps r e1)
theorem rfds_ok (hl : ∀ m a p, μ m = some a → lk m = some p → Dp G.K H (.ref a) p) : ∀ (ds : List D) (vs : List V) (ps : List PyData), Rs G μ H ds vs → rfds lk ds = some ps → DpAll G.K H vs ps
  | [], _, _, r, e => by cases r; cases e; exact .nil
  | d :: ds, _, _, r, e => by
    cases r with
    | cons h t =>
      have e : (match rfd lk d, rfds lk ds with
        | some d, some ds => some (d :: ds)
        | _, _ => none) = some _ := e
      split at e
      · rename_i p ps e1 e2
        cases e
        exact .cons (rfd_ok hl d _ p h e1) (rfds_ok hl ds _ ps t e2)
      · cases e
end
theorem lkS_ok (w : Wd G μ H S) : ∀ (n m : Nat) (a : Addr) (p : PyData), μ m = some a → lkS S n m = some p → Dp G.K H (.ref a) p
  | 0, _, _, _, _, e => by cases e
  | n + 1, m, a, p, h, e => by
    unfold lkS at e
    split at e
    · rename_i ys es
      obtain ⟨ps, e1, e2⟩ := Option.map_eq_some_iff.mp e
      subst e2
      obtain ⟨vs, ha, rs⟩ := w.obj m a _ h es
      exact .lst (.of ha) (rfds_ok (lkS_ok w n) _ _ _ rs e1)
    · cases e
end
theorem rfx_ok {μ : Mp} {H H0 : Hp} {S : Sto} {x : Rv} {v : V} {p : PyData} (w : Wd G μ H S) (r : Rx G H0 μ H x v) (e : rfx x S = some p) : Dp G.K H v p := by
  cases x with
  | val d => exact rfd_ok (lkS_ok w 12) d v p r e
  | new xs =>
    obtain ⟨a, vs, e1, ha, _, _, rs⟩ := r
    subst e1
    obtain ⟨ps, e1, e2⟩ := Option.map_eq_some_iff.mp (show (rfds (lkS S 12) xs).map PyData.list = some p from e)
    subst e2
    exact .lst (.of ha) (rfds_ok (lkS_ok w 12) _ _ _ rs e1)
  | newk kvs => cases e
  | newt kvs => cases e
/-- == -/
def eqOf (x y : Rv) (S : Sto) : Option Bool := match x, y with
  | .val (.str i), .val (.str j) => some (i == j)
  | .val (.int i), .val (.int j) => some (i == j)
  | x, y => match rfx x S, rfx y S with
    | some p, some q => if SeqAt.shaped p && SeqAt.shaped q then some (PyData.eqv p q) else none
    | _, _ => none
def eqV' : Rv → Rv → Sto → Res Rv := fun x y S => match eqOf x y S with
  | some b => .ok (.val (.bl b)) S
  | none => .bad
def neV' : Rv → Rv → Sto → Res Rv := fun x y S => match eqOf x y S with
  | some b => .ok (.val (.bl (!b))) S
  | none => .bad
theorem eqOf_ok {μ : Mp} {H H0 : Hp} {S : Sto} {x y : Rv} {v u : V} {b : Bool} (w : Wd G μ H S) (rx : Rx G H0 μ H x v) (ry : Rx G H0 μ H y u) (h : eqOf x y S = some b) :
    (scal v u = true ∧ decide (v = u) = b) ∨ ∃ p q, Dp G.K H v p ∧ Dp G.K H u q ∧ SeqAt.shaped p = true ∧ SeqAt.shaped q = true ∧ PyData.eqv p q = b := by
  unfold eqOf at h
  split at h
  · cases h; cases rx; cases ry
    exact .inl ⟨rfl, dec_str⟩
  · cases h; cases rx; cases ry
    exact .inl ⟨rfl, dec_int⟩
  · split at h
    · rename_i p q e1 e2
      split at h
      · rename_i c
        cases h
        rw [Bool.and_eq_true] at c
        exact .inr ⟨p, q, rfx_ok w rx e1, rfx_ok w ry e2, c.1, c.2, rfl⟩
      · cases h
    · cases h
theorem ok_eq {X : Cx} (hK : X.K = G.K) (hu : X.A.units + 64 < cLine) : ∃ r, OpR X (compareOp .Eq) r ∧ OkOp G E r eqV' := by
  refine ⟨_, OpR.or op_eq (op_eqD hu), ?_⟩
  intro x y S v u μ H H0 Q QE w rx ry q
  unfold eqV' at q
  split at q
  · rename_i b e
    have q := q _ H μ Le.refl w (.bl b)
    rcases eqOf_ok w rx ry e with ⟨h1, h2⟩ | ⟨p, p', h1, h2, h3, h4, h5⟩
    · exact .inl ⟨h1, by rw [h2]; exact q⟩
    · exact .inr ⟨p, p', by rw [hK]; exact h1, by rw [hK]; exact h2, h3, h4, by rw [h5]; exact q⟩
  · exact q.elim
theorem ok_ne {X : Cx} (hK : X.K = G.K) (hu : X.A.units + 64 < cLine) : ∃ r, OpR X (compareOp .NotEq) r ∧ OkOp G E r neV' := by
  refine ⟨_, OpR.or op_ne (op_neD hu), ?_⟩
  intro x y S v u μ H H0 Q QE w rx ry q
  unfold neV' at q
  split at q
  · rename_i b e
    have q := q _ H μ Le.refl w (.bl _)
    rcases eqOf_ok w rx ry e with ⟨h1, h2⟩ | ⟨p, p', h1, h2, h3, h4, h5⟩
    · exact .inl ⟨h1, by rw [h2]; exact q⟩
    · exact .inr ⟨p, p', by rw [hK]; exact h1, by rw [hK]; exact h2, h3, h4, by rw [h5]; exact q⟩
  · exact q.elim

/-! ### is, in -/
def isNonX : Rv → Bool
  | .val .non => true
  | _ => false
def isOf (x y : Rv) : Option Bool := match x, y with
  | x, .val .non => some (isNonX x)
  | .val (.bl a), .val (.bl b) => some (decide (a = b))
  | _, _ => none
def isV' : Rv → Rv → Sto → Res Rv := fun x y S => match isOf x y with
  | some b => .ok (.val (.bl b)) S
  | none => .bad
def isNotV' : Rv → Rv → Sto → Res Rv := fun x y S => match isOf x y with
  | some b => .ok (.val (.bl (!b))) S
  | none => .bad
theorem isNonX_ok {μ : Mp} {H H0 : Hp} {x : Rv} {v : V} (r : Rx G H0 μ H x v) : decide (v = .non) = isNonX x := by
  cases x with
  | val d => cases r <;> rfl
  | new xs => obtain ⟨a, vs, e, _⟩ := r; subst e; rfl
  | newk xs => obtain ⟨a, vs, e, _⟩ := r; subst e; rfl
  | newt xs => obtain ⟨a, vs, e, _⟩ := r; subst e; rfl
theorem ok_is {X : Cx} : ∃ r, OpR X (compareOp .Is) r ∧ OkOp G E r isV' := by
  refine ⟨_, OpR.or op_isN op_isBl, ?_⟩
  intro x y S v u μ H H0 Q QE w rx ry q
  unfold isV' at q
  split at q
  · rename_i b e
    have q := q _ H μ Le.refl w (.bl b)
    unfold isOf at e
    split at e
    · cases e; cases ry
      exact .inl ⟨rfl, by rw [isNonX_ok rx]; exact q⟩
    · cases e; cases rx; cases ry
      exact .inr ⟨_, _, rfl, rfl, q⟩
    · cases e
  · exact q.elim
theorem ok_isnot {X : Cx} : ∃ r, OpR X (compareOp .IsNot) r ∧ OkOp G E r isNotV' := by
  refine ⟨_, OpR.or op_notN op_notBl, ?_⟩
  intro x y S v u μ H H0 Q QE w rx ry q
  unfold isNotV' at q
  split at q
  · rename_i b e
    have q := q _ H μ Le.refl w (.bl _)
    unfold isOf at e
    split at e
    · cases e; cases ry
      exact .inl ⟨rfl, by rw [isNonX_ok rx]; exact q⟩
    · cases e; cases rx; cases ry
      exact .inr ⟨_, _, rfl, rfl, q⟩
    · cases e
  · exact q.elim
end
/-! ### order -/
/-- data that < can tell apart -/
def ltOk (p q : PyData) : Bool := PySem.W.alike p q && (match p with
  | .none => false
  | _ => true) && decide (p.depth ≤ 32)
theorem ltOk_ok {p q : PyData} (h : ltOk p q = true) : PySem.W.alike p q = true ∧ p ≠ .none ∧ p.depth ≤ 32 := by
  unfold ltOk at h
  rw [Bool.and_eq_true, Bool.and_eq_true] at h
  refine ⟨h.1.1, fun e => ?_, of_decide_eq_true h.2⟩
  subst e
  exact absurd h.1.2 Bool.false_ne_true
def cmpV (p : Int → Int → Bool) (ps : Str → Str → Bool) (pd : PyData → PyData → Bool) : Rv → Rv → Sto → Res Rv := fun x y S => match x, y with
  | .val (.int i), .val (.int j) => .ok (.val (.bl (p i j))) S
  | .val (.str i), .val (.str j) => .ok (.val (.bl (ps i j))) S
  | x, y => match rfx x S, rfx y S with
    | some a, some b => if ltOk a b = true then .ok (.val (.bl (pd a b))) S else .bad
    | _, _ => .bad
def ltS (i j : Str) : Bool := decide (i.cps.toList < j.cps.toList)
def ltV := cmpV (fun i j => decide (i < j)) ltS PySem.W.dataLt
def leV := cmpV (fun i j => decide (i ≤ j)) (fun i j => !ltS j i) fun a b => !PySem.W.dataLt b a
def gtV := cmpV (fun i j => decide (j < i)) (fun i j => ltS j i) fun a b => PySem.W.dataLt b a
def geV := cmpV (fun i j => decide (j ≤ i)) (fun i j => !ltS i j) fun a b => !PySem.W.dataLt a b
def rCmpD (K : PySem.W.Frag) (pd : PyData → PyData → Bool) : R2 := fun x y H Q => ∃ d e, Dp K H x d ∧ Dp K H y e ∧ ltOk d e = true ∧ Q (.bl (pd d e)) H
section
variable {X : Cx}
theorem op_ltD (hu : X.A.units + 64 < cLine) : OpR X (compareOp .Lt) (rCmpD X.K PySem.W.dataLt) := fun pins s σ H x y v u Q I rx ry ⟨d, e, hd, he, hk, q⟩ => by
  obtain ⟨h1, h2, h3⟩ := ltOk_ok hk
  obtain ⟨as, r1⟩ := Dp.reads I d x v hd rx
  obtain ⟨bs, r2⟩ := Dp.reads I e y u he ry
  exact PySem.W.lt_data r1 r2 h1 h2 (by have := Nat.min_le_left d.depth e.depth; omega) ⟨.bl _, H, I, rfl, q⟩
theorem op_leD (hu : X.A.units + 64 < cLine) : OpR X (compareOp .LtE) (rCmpD X.K fun a b => !PySem.W.dataLt b a) := fun pins s σ H x y v u Q I rx ry ⟨d, e, hd, he, hk, q⟩ => by
  obtain ⟨h1, h2, h3⟩ := ltOk_ok hk
  obtain ⟨as, r1⟩ := Dp.reads I d x v hd rx
  obtain ⟨bs, r2⟩ := Dp.reads I e y u he ry
  exact PySem.W.le_data r1 r2 h1 h2 (by have := Nat.min_le_left d.depth e.depth; omega) ⟨.bl _, H, I, rfl, q⟩
theorem op_gtD (hu : X.A.units + 64 < cLine) : OpR X (compareOp .Gt) (rCmpD X.K fun a b => PySem.W.dataLt b a) := fun pins s σ H x y v u Q I rx ry ⟨d, e, hd, he, hk, q⟩ => by
  obtain ⟨h1, h2, h3⟩ := ltOk_ok hk
  obtain ⟨as, r1⟩ := Dp.reads I d x v hd rx
  obtain ⟨bs, r2⟩ := Dp.reads I e y u he ry
  exact PySem.W.gt_data r1 r2 h1 h2 (by have := Nat.min_le_left d.depth e.depth; omega) ⟨.bl _, H, I, rfl, q⟩
theorem op_geD (hu : X.A.units + 64 < cLine) : OpR X (compareOp .GtE) (rCmpD X.K fun a b => !PySem.W.dataLt a b) := fun pins s σ H x y v u Q I rx ry ⟨d, e, hd, he, hk, q⟩ => by
  obtain ⟨h1, h2, h3⟩ := ltOk_ok hk
  obtain ⟨as, r1⟩ := Dp.reads I d x v hd rx
  obtain ⟨bs, r2⟩ := Dp.reads I e y u he ry
  exact PySem.W.ge_data r1 r2 h1 h2 (by have := Nat.min_le_left d.depth e.depth; omega) ⟨.bl _, H, I, rfl, q⟩
end
theorem ok_cmpV {K : PySem.W.Frag} {p : Int → Int → Bool} {ps : Str → Str → Bool} {pd : PyData → PyData → Bool} {r r' : R2} (hK : K = G.K) (h1 : ∀ i j H Q, Q (.bl (p i j)) H → r (.int i) (.int j) H Q) (h2 : ∀ i j H Q, Q (.bl (ps i j)) H → r' (.str i) (.str j) H Q) : OkOp G E (fun x y H Q => r x y H Q ∨ r' x y H Q ∨ rCmpD K pd x y H Q) (cmpV p ps pd) := by
  intro x y S v u μ H H0 Q QE w rx ry q
  unfold cmpV at q
  split at q
  · cases rx; cases ry
    exact .inl (h1 _ _ H Q (q _ H μ Le.refl w (.bl _)))
  · cases rx; cases ry
    exact .inr (.inl (h2 _ _ H Q (q _ H μ Le.refl w (.bl _))))
  · split at q
    · rename_i a b e1 e2
      split at q
      · rename_i hk
        exact .inr (.inr ⟨a, b, by rw [hK]; exact rfx_ok w rx e1, by rw [hK]; exact rfx_ok w ry e2, hk, q _ H μ Le.refl w (.bl _)⟩)
      · exact q.elim
    · exact q.elim
theorem ok_lt {X : Cx} (hK : X.K = G.K) (hu : X.A.units + 64 < cLine) : ∃ r, OpR X (compareOp .Lt) r ∧ OkOp G E r ltV := ⟨_, OpR.or op_lt (OpR.or op_lt_str (op_ltD hu)), ok_cmpV hK (fun _ _ _ _ q => ⟨_, _, rfl, rfl, q⟩) fun _ _ _ _ q => ⟨_, _, rfl, rfl, q⟩⟩
theorem ok_le {X : Cx} (hK : X.K = G.K) (hu : X.A.units + 64 < cLine) : ∃ r, OpR X (compareOp .LtE) r ∧ OkOp G E r leV := ⟨_, OpR.or op_le (OpR.or op_le_str (op_leD hu)), ok_cmpV hK (fun _ _ _ _ q => ⟨_, _, rfl, rfl, q⟩) fun _ _ _ _ q => ⟨_, _, rfl, rfl, q⟩⟩
theorem ok_gt {X : Cx} (hK : X.K = G.K) (hu : X.A.units + 64 < cLine) : ∃ r, OpR X (compareOp .Gt) r ∧ OkOp G E r gtV := ⟨_, OpR.or op_gt (OpR.or op_gt_str (op_gtD hu)), ok_cmpV hK (fun _ _ _ _ q => ⟨_, _, rfl, rfl, q⟩) fun _ _ _ _ q => ⟨_, _, rfl, rfl, q⟩⟩
theorem ok_ge {X : Cx} (hK : X.K = G.K) (hu : X.A.units + 64 < cLine) : ∃ r, OpR X (compareOp .GtE) r ∧ OkOp G E r geV := ⟨_, OpR.or op_ge (OpR.or op_ge_str (op_geD hu)), ok_cmpV hK (fun _ _ _ _ q => ⟨_, _, rfl, rfl, q⟩) fun _ _ _ _ q => ⟨_, _, rfl, rfl, q⟩⟩
end Bz

set_option Elab.async false
set_option linter.all false
set_option maxRecDepth 100000
set_option maxHeartbeats 2000000
/-! Bz, dicts: keys, tables, what a dict of the store holds. -/
namespace Bz
open PySem PySem.Spec PyProof.Rows L2
/-! ### tables -/
section
variable {κ α β : Type} [DecidableEq κ]
def getA (kvs : List (κ × α)) (k : κ) : Option α := (kvs.find? fun kv => decide (kv.1 = k)).map Prod.snd
def putA (kvs : List (κ × α)) (k : κ) (v : α) : List (κ × α) := if (kvs.any fun kv => decide (kv.1 = k)) = true then kvs.map (fun kv => if kv.1 = k then (kv.1, v) else kv) else kvs ++ [(k, v)]
def dropA (kvs : List (κ × α)) (k : κ) : List (κ × α) := kvs.filter fun kv => decide (kv.1 ≠ k)
theorem getA_valV (kvs : List (κ × V)) (k : κ) : getA kvs k = valV kvs k := rfl
theorem putA_putK (kvs : List (κ × V)) (k : κ) (v : V) : putA kvs k v = putK kvs k v := rfl
theorem dropA_dropK (kvs : List (κ × V)) (k : κ) : dropA kvs k = dropK kvs k := rfl
end
section
variable {G : Gm} {μ μ' : Mp} {H H' : Hp} {κ : Type} [DecidableEq κ]
theorem KvR.nil : KvR G μ H ([] : List (κ × D)) [] := ⟨rfl, .nil⟩
theorem KvR.cons {k : κ} {d : D} {v : V} {kvs : List (κ × D)} {vs : List (κ × V)} (r : R G μ H d v) (h : KvR G μ H kvs vs) : KvR G μ H ((k, d) :: kvs) ((k, v) :: vs) := ⟨by rw [List.map_cons, List.map_cons, h.1], .cons r h.2⟩
theorem KvR.inv {k : κ} {d : D} {kvs : List (κ × D)} {vs : List (κ × V)} (h : KvR G μ H ((k, d) :: kvs) vs) : ∃ v us, vs = (k, v) :: us ∧ R G μ H d v ∧ KvR G μ H kvs us := by
  obtain ⟨h1, h2⟩ := h
  cases vs with
  | nil => cases h1
  | cons p us =>
    obtain ⟨k', v⟩ := p
    rw [List.map_cons, List.map_cons, List.cons.injEq] at h1
    obtain ⟨e1, e2⟩ := h1
    have e1 : k = k' := e1
    subst e1
    cases h2 with
    | cons r t => exact ⟨v, us, rfl, r, e2, t⟩
theorem KvR.len {kvs : List (κ × D)} {vs : List (κ × V)} (h : KvR G μ H kvs vs) : kvs.length = vs.length := by
  have := congrArg List.length h.1
  rwa [List.length_map, List.length_map] at this
/-- entry by entry -/
theorem KvR.rec' {P : List (κ × D) → List (κ × V) → Prop} (h0 : P [] []) (hs : ∀ k d v kvs vs, R G μ H d v → KvR G μ H kvs vs → P kvs vs → P ((k, d) :: kvs) ((k, v) :: vs)) : ∀ {kvs : List (κ × D)} {vs : List (κ × V)}, KvR G μ H kvs vs → P kvs vs
  | [], vs, h => by
    have := h.len
    cases vs with
    | nil => exact h0
    | cons p us => cases this
  | (k, d) :: kvs, vs, h => by
    obtain ⟨v, us, rfl, r, t⟩ := h.inv
    exact hs k d v kvs us r t (KvR.rec' h0 hs t)
theorem KvR.get {kvs : List (κ × D)} {vs : List (κ × V)} (h : KvR G μ H kvs vs) (k : κ) : (getA kvs k = none ∧ valV vs k = none) ∨ ∃ d v, getA kvs k = some d ∧ valV vs k = some v ∧ R G μ H d v := by
  refine KvR.rec' (P := fun kvs vs => (getA kvs k = none ∧ valV vs k = none) ∨ ∃ d v, getA kvs k = some d ∧ valV vs k = some v ∧ R G μ H d v) (.inl ⟨rfl, rfl⟩) (fun k' d v kvs vs r _ ih => ?_) h
  by_cases e : k' = k
  · exact .inr ⟨d, v, by simp [getA, List.find?_cons, e], by simp [valV, List.find?_cons, e], r⟩
  · have e1 : getA ((k', d) :: kvs) k = getA kvs k := by simp [getA, List.find?_cons, e]
    have e2 : valV ((k', v) :: vs) k = valV vs k := by simp [valV, List.find?_cons, e]
    rw [e1, e2]
    exact ih
theorem KvR.any {kvs : List (κ × D)} {vs : List (κ × V)} (h : KvR G μ H kvs vs) (k : κ) : (kvs.any fun kv => decide (kv.1 = k)) = (vs.any fun kv => decide (kv.1 = k)) :=
  KvR.rec' (P := fun kvs vs => (kvs.any fun kv => decide (kv.1 = k)) = (vs.any fun kv => decide (kv.1 = k))) rfl (fun k' d v kvs vs _ _ ih => by rw [List.any_cons, List.any_cons, ih]) h
theorem KvR.append {kvs es : List (κ × D)} {vs us : List (κ × V)} (h : KvR G μ H kvs vs) (t : KvR G μ H es us) : KvR G μ H (kvs ++ es) (vs ++ us) := ⟨by rw [List.map_append, List.map_append, h.1, t.1], by rw [List.map_append, List.map_append]; exact h.2.append t.2⟩
theorem KvR.put {kvs : List (κ × D)} {vs : List (κ × V)} (h : KvR G μ H kvs vs) {d : D} {v : V} (r : R G μ H d v) (k : κ) : KvR G μ H (putA kvs k d) (putK vs k v) := by
  unfold putA putK
  rw [h.any k]
  split
  · refine KvR.rec' (P := fun kvs vs => KvR G μ H (kvs.map fun kv => if kv.1 = k then (kv.1, d) else kv) (vs.map fun kv => if kv.1 = k then (kv.1, v) else kv)) .nil (fun k' d' v' kvs vs r' _ ih => ?_) h
    rw [List.map_cons, List.map_cons]
    by_cases e : k' = k
    · rw [if_pos e, if_pos e]; exact .cons r ih
    · rw [if_neg e, if_neg e]; exact .cons r' ih
  · exact h.append (.cons r .nil)
theorem KvR.drop {kvs : List (κ × D)} {vs : List (κ × V)} (h : KvR G μ H kvs vs) (k : κ) : KvR G μ H (dropA kvs k) (dropK vs k) := by
  refine KvR.rec' (P := fun kvs vs => KvR G μ H (dropA kvs k) (dropK vs k)) .nil (fun k' d v kvs vs r _ ih => ?_) h
  unfold dropA dropK at ih ⊢
  rw [List.filter_cons, List.filter_cons]
  by_cases e : k' = k
  · rw [if_neg (by simp [e]), if_neg (by simp [e])]; exact ih
  · rw [if_pos (by simp [e]), if_pos (by simp [e])]; exact .cons r ih
end
/-! ### keys -/
def keyOf : D → Option Key
  | .int i => some (.inl i)
  | .str x => some (.inr x)
  | _ => none
def keysOfs : List D → Option (List Key)
  | [] => some []
  | d :: ds => match keyOf d, keysOfs ds with
    | some k, some ks => some (k :: ks)
    | _, _ => none
def keysOf : D → Option (List Key)
  | .tup ds => keysOfs ds
  | _ => none
section
variable {G : Gm} {μ : Mp} {H : Hp}
theorem keyOf_ok {d : D} {v : V} {k : Key} (r : R G μ H d v) (h : keyOf d = some k) : v = kV k := by
  unfold keyOf at h
  split at h <;> cases h <;> cases r <;> rfl
theorem keysOfs_ok : ∀ {ds : List D} {vs : List V} {ks : List Key}, Rs G μ H ds vs → keysOfs ds = some ks → vs = ks.map kV
  | [], vs, ks, r, h => by cases h; cases r; rfl
  | d :: ds, vs, ks, r, h => by
    have h : (match keyOf d, keysOfs ds with
      | some k, some ks => some (k :: ks)
      | _, _ => none) = some ks := h
    cases r with
    | cons r1 r2 =>
      split at h
      · rename_i k ks' e1 e2
        cases h
        rw [List.map_cons, keyOf_ok r1 e1, keysOfs_ok r2 e2]
      · cases h
theorem keysOf_ok {d : D} {v : V} {ks : List Key} (r : R G μ H d v) (h : keysOf d = some ks) : ∃ b, v = .ref b ∧ H b = some (.tup (ks.map kV)) := by
  unfold keysOf at h
  split at h
  · cases r with
    | @tup _ b vs hs rs => exact ⟨b, rfl, by rw [hs, keysOfs_ok rs h]⟩
  · cases h
def keyD : Key → D
  | .inl i => .int i
  | .inr x => .str x
theorem keyD_r (k : Key) : R G μ H (keyD k) (kV k) := by cases k <;> constructor
/-- what a dict holds at a key: none where there is no such dict, no such key -/
def lookD (x y : Rv) (S : Sto) : Option (Option D) := match y with
  | .val d => (match kOf x S with
    | some kvs => (keyOf d).map (getA kvs)
    | none => match tOf x S with
      | some kvs => (keysOf d).map (getA kvs)
      | none => none)
  | _ => none
theorem lookD_ok {x y : Rv} {v u : V} {S : Sto} {H0 H00 : Hp} {o : Option D} (w : Wd G μ H S) (rx : Rx G H0 μ H x v) (ry : Rx G H00 μ H y u) (h : lookD x y S = some o) :
    ∃ a ov, v = .ref a ∧ DGet H a u ov ∧ ((o = none ∧ ov = none) ∨ ∃ d v', o = some d ∧ ov = some v' ∧ R G μ H d v') := by
  unfold lookD at h
  split at h
  · rename_i d
    split at h
    · rename_i kvs e
      obtain ⟨a, vs, rfl, hx, kv⟩ := kOf_ok w rx e
      obtain ⟨k, e1, e2⟩ := Option.map_eq_some_iff.mp h
      have hu := keyOf_ok ry e1
      subst hu
      refine ⟨a, valV vs k, rfl, .inl ⟨vs, k, hx, rfl, rfl⟩, ?_⟩
      rcases kv.get k with ⟨g1, g2⟩ | ⟨d', v', g1, g2, r⟩
      · exact .inl ⟨e2.symm.trans g1, g2⟩
      · exact .inr ⟨d', v', e2.symm.trans g1, g2, r⟩
    · split at h
      · rename_i kvs e
        obtain ⟨a, vs, rfl, hx, kv⟩ := tOf_ok w rx e
        obtain ⟨k, e1, e2⟩ := Option.map_eq_some_iff.mp h
        obtain ⟨b, rfl, hb⟩ := keysOf_ok ry e1
        refine ⟨a, valV vs k, rfl, .inr ⟨vs, k, b, hx, rfl, hb, rfl⟩, ?_⟩
        rcases kv.get k with ⟨g1, g2⟩ | ⟨d', v', g1, g2, r⟩
        · exact .inl ⟨e2.symm.trans g1, g2⟩
        · exact .inr ⟨d', v', e2.symm.trans g1, g2, r⟩
      · cases h
  · cases h
theorem lookD_isD {x y : Rv} {v : V} {S : Sto} {H0 : Hp} {o : Option D} (w : Wd G μ H S) (rx : Rx G H0 μ H x v) (h : lookD x y S = some o) : ∃ a, v = .ref a ∧ ((∃ kvs, Rd H a (.dK kvs)) ∨ ∃ kvs, Rd H a (.dT kvs)) := by
  unfold lookD at h
  split at h
  · split at h
    · rename_i kvs e
      obtain ⟨a, vs, rfl, hx, kv⟩ := kOf_ok w rx e
      exact ⟨a, rfl, .inl ⟨_, hx⟩⟩
    · split at h
      · rename_i kvs e
        obtain ⟨a, vs, rfl, hx, kv⟩ := tOf_ok w rx e
        exact ⟨a, rfl, .inr ⟨_, hx⟩⟩
      · cases h
  · cases h
/-- d[k] = v -/
def putD (x : Rv) (k : D) (v : D) (S : Sto) : Option Sto := match x with
  | .val (.loc n) => (match S[n]? with
    | some (.dk kvs) => if kvs.length < big then (keyOf k).map fun k => S.set n (.dk (putA kvs k v)) else none
    | some (.dt kvs) => if kvs.length < big then (keysOf k).map fun k => S.set n (.dt (putA kvs k v)) else none
    | _ => none)
  | _ => none
theorem putD_ok {x : Rv} {k d : D} {v u z : V} {S S' : Sto} {H0 : Hp} (w : Wd G μ H S) (rx : Rx G H0 μ H x v) (rk : R G μ H k u) (rd : R G μ H d z) (h : putD x k d S = some S') :
    ∃ a H', v = .ref a ∧ DPut H a u z H' ∧ Le μ H μ H' ∧ Wd G μ H' S' := by
  unfold putD at h
  split at h
  · rename_i n
    cases rx with
    | @loc _ a hn =>
      split at h
      · rename_i kvs e
        split at h
        · rename_i hz
          obtain ⟨k', e1, e2⟩ := Option.map_eq_some_iff.mp h
          obtain ⟨vs, hx, kv⟩ := w.obj _ _ _ hn e
          have hu := keyOf_ok rk e1
          subst hu e2
          have l : Le μ H μ (upd H a (.dK (putK vs k' z))) := Le.wr hn hx rfl
          exact ⟨a, _, rfl, .inl ⟨vs, k', hx, rfl, big_lt (by rw [← kv.len]; exact hz), rfl⟩, l, w.wr hn hx rfl ⟨_, upd_same, (kv.mono fun _ _ q => l.rs w q).put (l.r w rd) k'⟩⟩
        · cases h
      · rename_i kvs e
        split at h
        · rename_i hz
          obtain ⟨k', e1, e2⟩ := Option.map_eq_some_iff.mp h
          obtain ⟨vs, hx, kv⟩ := w.obj _ _ _ hn e
          obtain ⟨b, rfl, hb⟩ := keysOf_ok rk e1
          subst e2
          have l : Le μ H μ (upd H a (.dT (putK vs k' z))) := Le.wr hn hx rfl
          exact ⟨a, _, rfl, .inr ⟨vs, k', b, hx, rfl, hb, big_lt (by rw [← kv.len]; exact hz), rfl⟩, l, w.wr hn hx rfl ⟨_, upd_same, (kv.mono fun _ _ q => l.rs w q).put (l.r w rd) k'⟩⟩
        · cases h
      · cases h
  · cases h
end
end Bz

set_option Elab.async false
set_option linter.all false
set_option maxRecDepth 100000
set_option maxHeartbeats 2000000
/-! Bz, fourth part: subscripts, slices, built-ins, methods, calls. -/
namespace Bz
open PySem PySem.Spec PyProof.Rows L2

/-! ### syntax that is plain -/
def plainE : Expr → Bool
  | .Starred .. => false
  | .Slice .. => false
  | _ => true
theorem star_plain {e : Expr} (h : plainE e = true) (es : List Expr) (env : PySem.Env) : starEach (e :: es) env = (false, eval e env) :: starEach es env := by
  cases e <;> first | rfl | (simp [plainE] at h)
theorem star_any (pos : Pos) (env : PySem.Env) : ∀ {es : List Expr}, es.all plainE = true → (backTo pos (starEach es env)).any (·.1) = false
  | [], _ => rfl
  | e :: es, h => by
    rw [List.all_cons, Bool.and_eq_true] at h
    rw [star_plain h.1]
    have := star_any pos env h.2
    show (false || (backTo pos (starEach es env)).any (·.1)) = false
    rw [this]
    rfl
theorem star_all (pos : Pos) (env : PySem.Env) : ∀ {es : List Expr}, es.all plainE = true → (backTo pos (starEach es env)).all (fun x => !x.1) = true
  | [], _ => rfl
  | e :: es, h => by
    rw [List.all_cons, Bool.and_eq_true] at h
    rw [star_plain h.1]
    have := star_all pos env h.2
    show (true && (backTo pos (starEach es env)).all (fun x => !x.1)) = true
    rw [this]
    rfl
theorem plain_ix {e : Expr} (h : plainE e = true) : PlainIx e := by
  intro o i
  cases e <;> first | rfl | (simp [plainE] at h)
def baseOk : Expr → Bool
  | .Call (.Name _ _) [] [] _ => false
  | _ => true
theorem base_plain {o : Expr} (h : baseOk o = true) (m : Str) (env : PySem.Env) (whole : Sem Value) : attributeBase o m env whole = whole := by
  unfold attributeBase
  split
  · simp [baseOk] at h
  · rfl
theorem few_ok {cpos : Pos} {env : PySem.Env} {es : List Expr} (h : es.all plainE = true) (h2 : es.length < 20) : ((backTo cpos (starEach es env)).all (fun x => !x.1) && (backToKw cpos (keywordEach [] env)).all (fun x => x.1.isSome)
      && decide (es.length + ([] : List Keyword).length + (if ([] : List Keyword).isEmpty then 0 else 1) < 30)) = true := by
  rw [star_all cpos env h]
  show (true && true && decide (es.length + 0 + 0 < 30)) = true
  rw [decide_eq_true (by omega)]
  rfl
def testPlain : Expr → Bool
  | .UnaryOp .Not _ _ => false
  | .BoolOp .. => false
  | .IfExp .. => false
  | .Compare .. => false
  | _ => true
theorem isTrue_of {e : Expr} (h : testPlain e = true) (env : PySem.Env) (whole : Sem Value) : isTrue e env whole = (do let v ← whole; standAt e.pos; holding [v] (truthy v)) := by
  cases e with
  | UnaryOp op x p => cases op <;> first | rfl | (simp [testPlain] at h)
  | _ => first | rfl | (simp [testPlain] at h)

/-! ### flat values -/
def toV : D → Option V
  | .non => some .non
  | .bl b => some (.bl b)
  | .int i => some (.int i)
  | .str x => some (.str x)
  | _ => none
def toVs : List D → Option (List V)
  | [] => some []
  | x :: xs => match toV x, toVs xs with
    | some v, some vs => some (v :: vs)
    | _, _ => none
section
variable {G : Gm} {E : XK} {μ : Mp} {H H0 : Hp} {S : Sto}
theorem toV_ok {d : D} {v z : V} (r : R G μ H d v) (h : toV d = some z) : v = z ∧ flatV z = true := by
  cases r <;> first | (cases h; exact ⟨rfl, rfl⟩) | (cases h)
theorem toVs_ok : ∀ {ds : List D} {vs zs : List V}, Rs G μ H ds vs → toVs ds = some zs → vs = zs ∧ zs.all flatV = true
  | _, _, _, .nil, h => by cases h; exact ⟨rfl, rfl⟩
  | d :: ds, v :: vs, zs, .cons r t, h => by
    have h : (match toV d, toVs ds with
      | some v, some vs => some (v :: vs)
      | _, _ => none) = some zs := h
    split at h
    · rename_i a as e1 e2
      cases h
      obtain ⟨h1, h2⟩ := toV_ok r e1
      obtain ⟨h3, h4⟩ := toVs_ok t e2
      subst h1 h3
      exact ⟨rfl, by rw [List.all_cons, h2, h4]; rfl⟩
    · cases h
def toVx : Rv → Option V
  | .val d => toV d
  | _ => none
theorem toVx_ok {x : Rv} {v z : V} (r : Rx G H0 μ H x v) (h : toVx x = some z) : v = z ∧ flatV z = true := by
  cases x with
  | val d => exact toV_ok r h
  | _ => cases h

/-! ### in -/
/-- data without dicts, not deep -/
def inOk (p : PyData) : Bool := p.plain && decide (p.depth ≤ 32)
def anyEq (p : PyData) : PyData → Option Bool
  | .list qs => some (qs.any fun q => PyData.eqv q p)
  | .tuple qs => some (qs.any fun q => PyData.eqv q p)
  | _ => none
def inOf (x y : Rv) (S : Sto) : Option Bool := match y with
  | .val (.str z) => match x with
    | .val (.str ⟨⟨[c]⟩⟩) => some (decide (c ∈ z.cps.toList))
    | _ => none
  | y => match seqOf y S with
    | some ys => match toVx x, toVs ys with
      | some v, some vs => some (inV v vs)
      | _, _ => (match rfx x S, rfx y S with
        | some p, some q => if inOk p && inOk q then anyEq p q else none
        | _, _ => none)
    | none => (lookD y x S).map Option.isSome
def inV' : Rv → Rv → Sto → Res Rv := fun x y S => match inOf x y S with
  | some b => .ok (.val (.bl b)) S
  | none => .bad
def notInV' : Rv → Rv → Sto → Res Rv := fun x y S => match inOf x y S with
  | some b => .ok (.val (.bl (!b))) S
  | none => .bad
def rInD (K : PySem.W.Frag) (f : Bool → Bool) : R2 := fun x y H Q => ∃ p q b, Dp K H x p ∧ Dp K H y q ∧ inOk p = true ∧ inOk q = true ∧ anyEq p q = some b ∧ Q (.bl (f b)) H
theorem op_inD {X : Cx} (hu : X.A.units + 64 < cLine) : OpR X (compareOp .In) (rInD X.K fun b => b) := fun pins s σ H x y v u Q I rx ry ⟨p, q, b, hp, hq, k1, k2, e, h⟩ => by
  unfold inOk at k1 k2
  rw [Bool.and_eq_true] at k1 k2
  have d1 := of_decide_eq_true k1.2
  have d2 := of_decide_eq_true k2.2
  obtain ⟨as, r1⟩ := Dp.reads I p x v hp rx
  obtain ⟨bs, r2⟩ := Dp.reads I q y u hq ry
  cases q with
  | list qs =>
    cases e
    have k3 : PyData.plainAll qs = true := by have := k2.1; rwa [PyData.plain] at this
    exact SeqAt.in_list_data r2 r1 k3 k1.1 (by have := Nat.min_le_right (PyData.depthAll qs) p.depth; omega) ⟨.bl _, H, I, rfl, h⟩
  | tuple qs =>
    cases e
    have k3 : PyData.plainAll qs = true := by have := k2.1; rwa [PyData.plain] at this
    exact SeqAt.in_tuple_data r2 r1 k3 k1.1 (by have := Nat.min_le_right (PyData.depthAll qs) p.depth; omega) ⟨.bl _, H, I, rfl, h⟩
  | _ => cases e
theorem op_notInD {X : Cx} (hu : X.A.units + 64 < cLine) : OpR X (compareOp .NotIn) (rInD X.K fun b => !b) := fun pins s σ H x y v u Q I rx ry ⟨p, q, b, hp, hq, k1, k2, e, h⟩ => by
  unfold inOk at k1 k2
  rw [Bool.and_eq_true] at k1 k2
  have d1 := of_decide_eq_true k1.2
  have d2 := of_decide_eq_true k2.2
  obtain ⟨as, r1⟩ := Dp.reads I p x v hp rx
  obtain ⟨bs, r2⟩ := Dp.reads I q y u hq ry
  cases q with
  | list qs =>
    cases e
    have k3 : PyData.plainAll qs = true := by have := k2.1; rwa [PyData.plain] at this
    exact SeqAt.notIn_list_data r2 r1 k3 k1.1 (by have := Nat.min_le_right (PyData.depthAll qs) p.depth; omega) ⟨.bl _, H, I, rfl, h⟩
  | tuple qs =>
    cases e
    have k3 : PyData.plainAll qs = true := by have := k2.1; rwa [PyData.plain] at this
    exact SeqAt.notIn_tuple_data r2 r1 k3 k1.1 (by have := Nat.min_le_right (PyData.depthAll qs) p.depth; omega) ⟨.bl _, H, I, rfl, h⟩
  | _ => cases e
theorem inOf_ok {x y : Rv} {v u : V} {b : Bool} (w : Wd G μ H S) (rx : Rx G H0 μ H x v) (ry : Rx G H0 μ H y u) (h : inOf x y S = some b) :
    (∃ c z, v = .str ⟨#[c]⟩ ∧ u = .str z ∧ decide (c ∈ z.cps.toList) = b) ∨ (∃ p xs, u = .ref p ∧ (SqL G.K H p xs ∨ SqT G.K H p xs) ∧ flatV v = true ∧ xs.all flatV = true ∧ inV v xs = b) ∨ (∃ p q, Dp G.K H v p ∧ Dp G.K H u q ∧ inOk p = true ∧ inOk q = true ∧ anyEq p q = some b) ∨ ∃ a o, u = .ref a ∧ DGet H a v o ∧ o.isSome = b := by
  unfold inOf at h
  split at h
  · split at h
    · cases h; cases rx; cases ry
      exact .inl ⟨_, _, rfl, rfl, rfl⟩
    · cases h
  · split at h
    · rename_i ys e
      split at h
      · rename_i z zs e1 e2
        cases h
        obtain ⟨a, vs, e3, hs, rs⟩ := seqOf_ok w ry e
        obtain ⟨h1, h2⟩ := toVx_ok rx e1
        obtain ⟨h3, h4⟩ := toVs_ok rs e2
        subst h1 h3
        exact .inr (.inl ⟨a, vs, e3, hs, h2, h4, rfl⟩)
      · split at h
        · rename_i p q e1 e2
          split at h
          · rename_i hk
            rw [Bool.and_eq_true] at hk
            exact .inr (.inr (.inl ⟨p, q, rfx_ok w rx e1, rfx_ok w ry e2, hk.1, hk.2, h⟩))
          · cases h
        · cases h
    · obtain ⟨o, e1, e2⟩ := Option.map_eq_some_iff.mp h
      obtain ⟨a, ov, e3, g, h4⟩ := lookD_ok w ry rx e1
      refine .inr (.inr (.inr ⟨a, ov, e3, g, ?_⟩))
      rcases h4 with ⟨h5, h6⟩ | ⟨d', v', h5, h6, _⟩
      · rw [h6, ← e2, h5]; rfl
      · rw [h6, ← e2, h5]; rfl
def rInDict (f : Bool → Bool) : R2 := fun x y H Q => ∃ a o, y = .ref a ∧ DGet H a x o ∧ Q (.bl (f o.isSome)) H
theorem op_inDict {X : Cx} (hu : X.A.units + 64 < cLine) : OpR X (compareOp .In) (rInDict fun b => b) := fun pins s σ H x y v u Q I rx ry ⟨a, o, e, g, q⟩ => by
  subst e
  cases ry
  exact d_in (by omega) I g rx fun s3 I3 => ⟨.bl o.isSome, H, I3, rfl, q⟩
theorem op_notInDict {X : Cx} (hu : X.A.units + 64 < cLine) : OpR X (compareOp .NotIn) (rInDict fun b => !b) := fun pins s σ H x y v u Q I rx ry ⟨a, o, e, g, q⟩ => by
  subst e
  cases ry
  exact d_notIn (by omega) I g rx fun s3 I3 => ⟨.bl (!o.isSome), H, I3, rfl, q⟩
theorem ok_in {X : Cx} (hK : X.K = G.K) (hu : X.A.units + 64 < cLine) : ∃ r, OpR X (compareOp .In) r ∧ OkOp G E r inV' := by
  refine ⟨_, OpR.or op_in_sign (OpR.or op_in_seq (OpR.or (op_inD hu) (op_inDict hu))), ?_⟩
  intro x y S v u μ H H0 Q QE w rx ry q
  unfold inV' at q
  split at q
  · rename_i b e
    have q := q _ H μ Le.refl w (.bl b)
    rcases inOf_ok w rx ry e with ⟨c, z, h1, h2, h3⟩ | ⟨p, xs, h1, h2, h3, h4, h5⟩ | ⟨p, r, h1, h2, h3, h4, h5⟩ | ⟨a, o, h1, h2, h3⟩
    · exact .inl ⟨c, z, h1, h2, by rw [h3]; exact q⟩
    · exact .inr (.inl ⟨p, xs, h1, by rw [hK]; exact h2, h3, h4, by rw [if_neg Bool.false_ne_true, h5]; exact q⟩)
    · exact .inr (.inr (.inl ⟨p, r, b, by rw [hK]; exact h1, by rw [hK]; exact h2, h3, h4, h5, q⟩))
    · exact .inr (.inr (.inr ⟨a, o, h1, h2, by rw [h3]; exact q⟩))
  · exact q.elim
theorem ok_notin {X : Cx} (hK : X.K = G.K) (hu : X.A.units + 64 < cLine) : ∃ r, OpR X (compareOp .NotIn) r ∧ OkOp G E r notInV' := by
  refine ⟨_, OpR.or op_notIn_sign (OpR.or op_notIn_seq (OpR.or (op_notInD hu) (op_notInDict hu))), ?_⟩
  intro x y S v u μ H H0 Q QE w rx ry q
  unfold notInV' at q
  split at q
  · rename_i b e
    have q := q _ H μ Le.refl w (.bl _)
    rcases inOf_ok w rx ry e with ⟨c, z, h1, h2, h3⟩ | ⟨p, xs, h1, h2, h3, h4, h5⟩ | ⟨p, r, h1, h2, h3, h4, h5⟩ | ⟨a, o, h1, h2, h3⟩
    · exact .inl ⟨c, z, h1, h2, by rw [h3]; exact q⟩
    · exact .inr (.inl ⟨p, xs, h1, by rw [hK]; exact h2, h3, h4, by rw [if_pos rfl, h5]; exact q⟩)
    · exact .inr (.inr (.inl ⟨p, r, b, by rw [hK]; exact h1, by rw [hK]; exact h2, h3, h4, h5, q⟩))
    · exact .inr (.inr (.inr ⟨a, o, h1, h2, by rw [h3]; exact q⟩))
  · exact q.elim

/-! ### subscripts -/
theorem Rs.atI {ds : List D} {vs : List V} {i : Int} {d : D} (r : Rs G μ H ds vs) (h : atI ds i = some d) : ∃ v, L2.atI vs i = some v ∧ R G μ H d v := by
  unfold L2.atI at h ⊢
  rw [← r.length]
  cases e : ixN ds.length i with
  | none => rw [e] at h; cases h
  | some j =>
    rw [e] at h
    exact r.get h
/-- an item of a dict -/
def getR (x y : Rv) (S : Sto) : Res Rv := match lookD x y S with
  | some (some d) => .ok (.val d) S
  | _ => .bad
def ixV : Rv → Rv → Sto → Res Rv := fun x y S => match y with
  | .val (.int i) => match x with
    | .val (.str z) => if z.length ≤ big then (match atI z.cps.toList i with
      | some c => .ok (.val (.str ⟨#[c]⟩)) S
      | none => .bad) else .bad
    | x => match seqOf x S with
      | some xs => (match atI xs i with
        | some d => .ok (.val d) S
        | none => .bad)
      | none => getR x y S
  | _ => getR x y S
theorem IxR.or {X : Cx} {r r' : R2} (h : IxR X r) (h' : IxR X r') : IxR X (fun x y H Q => r x y H Q ∨ r' x y H Q) := fun value slice pins s σ H x y v u Q I rx ry q hs => by
  rcases q with q | q
  · exact h value slice pins s σ H x y v u Q I rx ry q hs
  · exact h' value slice pins s σ H x y v u Q I rx ry q hs
def rIxD : R2 := fun x y H Q => ∃ a v, x = .ref a ∧ DGet H a y (some v) ∧ Q v H
theorem ix_dict {X : Cx} (hu : X.A.units + 64 < cLine) : IxR X rIxD := fun value slice pins s σ H x y v u Q I rx ry ⟨a, z, e, g, q⟩ hs => by
  subst e
  cases rx
  exact tail_any (ops := [.ref a, u]) (dict_typeIs I g) PySem.F.slot_dict_getitem.lookup (d_getItem (by omega) I g ry fun w' s3 I3 rw' => ⟨z, H, I3, rw', q⟩) hs
theorem getR_ok {x y : Rv} {v u : V} {Q : VK} {QE : Exn → Sto → Prop} (w : Wd G μ H S) (rx : Rx G H0 μ H x v) (ry : Rx G H0 μ H y u) (q : Post (getR x y S) (Gd G μ H Q) QE) : rIxD v u H Q := by
  unfold getR at q
  split at q
  · rename_i d e
    obtain ⟨a, ov, e1, g, h⟩ := lookD_ok w rx ry e
    rcases h with ⟨h, _⟩ | ⟨d', v', h1, h2, r⟩
    · cases h
    · cases h1
      subst h2
      exact ⟨a, v', e1, g, q _ H μ Le.refl w r⟩
  · exact q.elim
theorem ok_ix {X : Cx} (hK : X.K = G.K) (hu : X.A.units + 64 < cLine) : ∃ r, IxR X r ∧ OkOp G E r ixV := by
  refine ⟨_, IxR.or ix_seq (ix_dict hu), ?_⟩
  intro x y S v u μ H H0 Q QE w rx ry q
  unfold ixV at q
  split at q
  · rename_i i
    have ry' := ry
    cases ry
    split at q
    · split at q
      · rename_i z hz
        split at q
        · rename_i c e
          cases rx
          exact .inl (.inr (.inr ⟨_, _, c, rfl, rfl, big_le hz, e, q _ H μ Le.refl w (.str _)⟩))
        · exact q.elim
      · exact q.elim
    · split at q
      · rename_i xs e
        split at q
        · rename_i d e2
          obtain ⟨a, vs, e3, hs, rs⟩ := seqOf_ok w rx e
          obtain ⟨v', h1, h2⟩ := rs.atI e2
          have q := q v' H μ Le.refl w h2
          rcases hs with hs | hs
          · exact .inl (.inl ⟨a, vs, i, v', e3, rfl, by rw [hK]; exact hs, h1, q⟩)
          · exact .inl (.inr (.inl ⟨a, vs, i, v', e3, rfl, by rw [hK]; exact hs, h1, q⟩))
        · exact q.elim
      · exact .inr (getR_ok w rx ry' q)
  · exact .inr (getR_ok w rx ry q)
/-- a part of a slice -/
def ptNo : Env → Sto → Res (Option Int) := fun _ S => .ok none S
def ptI (f : ExM) : Env → Sto → Res (Option Int) := fun env S => bnd (f env S) fun x S1 => match x with
  | .val (.int i) => .ok (some i) S1
  | _ => .bad
def tPt (G : Gm) (E : XK) (f : Env → Sto → Res (Option Int)) : TO := fun σ H Q => ∃ μ S env, Wd G μ H S ∧ EnvR G μ H env σ ∧ Post (f env S) (fun o S' => ∀ H' μ', Le μ H μ' H' → Wd G μ' H' S' → Q o H') (ExP G E μ H)
theorem PO.wk {X : Cx} {e : Option Expr} {t t' : TO} (h : PO X e t) (k : ∀ σ H Q, t' σ H Q → t σ H Q) : PO X e t' := ⟨fun pins s σ H Q I q => h.run pins s σ H Q I (k σ H Q q)⟩
theorem dp_none {X : Cx} : PO X none (tPt G E ptNo) := PO.wk po_none fun σ H Q ⟨μ, S, env, w, er, h⟩ => h H μ Le.refl w
theorem dp_some {X : Cx} {e : Expr} {fa : ExM} (he : PE X e (tD G E fa)) : PO X (some e) (tPt G E (ptI fa)) := PO.wk (po_some he) fun σ H Q ⟨μ, S, env, w, er, h⟩ =>
  tD_go w er (post_bnd.1 h) fun x S1 v H1 μ1 l1 w1 er1 rx h1 => by
    split at h1
    · cases rx
      exact ⟨_, rfl, h1 H1 μ1 l1 w1⟩
    · exact h1.elim
def cutD (xs : List D) (lo hi : Option Int) : List D := (xs.drop (HT.sIx xs.length 0 lo)).take (HT.sIx xs.length xs.length hi - HT.sIx xs.length 0 lo)
theorem Rs.cut {ds : List D} {vs : List V} (r : Rs G μ H ds vs) (lo hi : Option Int) : Rs G μ H (cutD ds lo hi) (cutV vs lo hi) := by
  unfold cutD cutV
  rw [← r.length]
  exact (r.drop _).take _
def slV (x : Rv) (lo hi : Option Int) (S : Sto) : Res Rv := match x with
  | .val (.str z) => if z.length ≤ big then .ok (.val (.str (cutS z lo hi))) S else .bad
  | .val (.tup xs) => .ok (.val (.tup (cutD xs lo hi))) S
  | .val (.tuf xs) => .ok (.val (if HT.sIx xs.length 0 lo = 0 ∧ HT.sIx xs.length xs.length hi = xs.length then .tuf xs else .tup (cutD xs lo hi))) S
  | x => match lrdOf x S with
    | some xs => .ok (.new (cutD xs lo hi)) S
    | none => .bad
def eSl (fa : ExM) (p1 p2 : Env → Sto → Res (Option Int)) : ExM := fun env S => bnd (fa env S) fun x S1 => bnd (p1 env S1) fun lo S2 => bnd (p2 env S2) fun hi S3 => slV x lo hi S3
theorem cut_whole {ds : List D} {lo hi : Option Int} (h : HT.sIx ds.length 0 lo = 0 ∧ HT.sIx ds.length ds.length hi = ds.length) : cutD ds lo hi = ds := by
  unfold cutD
  rw [h.1, h.2, List.drop_zero, Nat.sub_zero, List.take_length]
theorem de_sl {X : Cx} {a : Expr} {lo hi : Option Expr} {p2 pos : Pos} {fa : ExM} {f1 f2 : Env → Sto → Res (Option Int)} (hK : X.K = G.K) (ha : PE X a (tD G E fa)) (h1 : PO X lo (tPt G E f1)) (h2 : PO X hi (tPt G E f2)) :
    PE X (.Subscript a (.Slice lo hi none p2) pos) (tD G E (eSl fa f1 f2)) :=
  PE.wk (pe_slice (SlR.or sl_str (SlR.or sl_tupA sl_list)) ha h1 h2) fun σ H Q ⟨μ, S, env, w, er, h⟩ => tD_go w er (post_bnd.1 h) fun x S1 v H1 μ1 l1 w1 er1 rx h1 =>
    ⟨μ1, S1, env, w1, er1, post_ex l1 (post_bnd.1 h1) fun o1 S2 h2 H2 μ2 l2 w2 => ⟨μ2, S2, env, w2, l2.envR w1 er1, post_ex (l1.trans l2) (post_bnd.1 h2) fun o2 S3 h3 H3 μ3 l3 w3 => by
      have l := (l1.trans l2).trans l3
      have rx := (l2.trans l3).rx w1 rx
      unfold slV at h3
      split at h3
      · split at h3
        · rename_i z hz
          cases rx
          exact .inl ⟨_, rfl, big_le hz, h3 _ H3 μ3 l w3 (.str _)⟩
        · exact h3.elim
      · rename_i xs
        cases rx with
        | @tup _ b vs hs1 rs =>
          have hs := SqT.of (K := G.K) hs1
          refine .inr (.inl ⟨b, vs, rfl, by rw [hK]; exact hs, fun hw => ?_, fun hw p hp => ?_⟩)
          · rw [← rs.length] at hw
            rw [cut_whole hw] at h3
            exact h3 _ H3 μ3 l w3 (.tup hs1 rs)
          · exact h3 _ _ μ3 (l.trans (Le.laid hp)) (w3.laid hp) (R.fresh w3 hp (rs.cut o1 o2))
      · rename_i xs
        have rx' := rx
        cases rx with
        | @tuf _ b vs hs1 rs =>
          obtain ⟨ob, hd, hs1⟩ := hs1
          have hs : SqT G.K H3 b vs := .inl (.inr ⟨ob, hs1⟩)
          refine .inr (.inl ⟨b, vs, rfl, by rw [hK]; exact hs, fun hw => ?_, fun hw p hp => ?_⟩)
          · rw [← rs.length] at hw
            rw [if_pos hw] at h3
            exact h3 _ H3 μ3 l w3 rx'
          · rw [← rs.length] at hw
            rw [if_neg hw] at h3
            exact h3 _ _ μ3 (l.trans (Le.laid hp)) (w3.laid hp) (R.fresh w3 hp (rs.cut o1 o2))
      · split at h3
        · rename_i xs e
          obtain ⟨b, vs, e3, hs, rs⟩ := lrdOf_ok w3 rx e
          exact .inr (.inr ⟨b, vs, e3, by rw [hK]; exact hs, fun p hp => h3 _ _ μ3 (l.trans (Le.laid hp)) (w3.laid hp) (Rx.fresh w3 hp (l.free hp) (rs.cut o1 o2))⟩)
        · exact h3.elim⟩⟩

/-! ### built-ins -/
def OkB1 (G : Gm) (r : List V → Hp → VK → Prop) (g : Rv → Sto → Res Rv) : Prop :=
  ∀ (x : Rv) (S : Sto) (v : V) (μ : Mp) (H H0 : Hp) (Q : VK) (QE : Exn → Sto → Prop), Wd G μ H S → Rx G H0 μ H x v → Post (g x S) (Gd G μ H Q) QE → r [v] H Q
def OkB2 (G : Gm) (r : List V → Hp → VK → Prop) (g : Rv → Rv → Sto → Res Rv) : Prop :=
  ∀ (x y : Rv) (S : Sto) (v u : V) (μ : Mp) (H H0 : Hp) (Q : VK) (QE : Exn → Sto → Prop), Wd G μ H S → Rx G H0 μ H x v → Rx G H0 μ H y u → Post (g x y S) (Gd G μ H Q) QE → r [v, u] H Q
section
variable {X : Cx} {a b : Expr} {fa fb : ExM} {id T : String} {x : Str} {r : List V → Hp → VK → Prop} {p pos : Pos} {g : Rv → Sto → Res Rv} {g2 : Rv → Rv → Sto → Res Rv}
theorem star1 (h : plainE a = true) (env : PySem.Env) : starEach [a] env = (false, eval a env) :: starEach [] env := star_plain h _ env
theorem tB1 (o : OkB1 G r g) {σ : L2.St} {H : Hp} {Q : VK} (h : tD G E (eUn g fa) σ H Q) : tCB r (tCons (tD G E fa) tNil) σ H Q := by
  obtain ⟨μ, S, env, w, er, h⟩ := h
  exact tD_go w er (post_bnd.1 h) fun x S1 v H1 μ1 l1 w1 er1 rx h1 => o x S1 v μ1 H1 H Q _ w1 rx (h1.imp (fun _ _ z => z.up l1) fun _ _ z => z)
theorem tB2 (o : OkB2 G r g2) {σ : L2.St} {H : Hp} {Q : VK} (h : tD G E (eBin g2 fa fb) σ H Q) : tCB r (tCons (tD G E fa) (tCons (tD G E fb) tNil)) σ H Q := by
  obtain ⟨μ, S, env, w, er, h⟩ := h
  refine tD_go w er (post_bnd.1 h) fun x S1 v H1 μ1 l1 w1 er1 rx h1 => ?_
  refine tD_go w1 er1 (post_ex l1 (post_bnd.1 h1) fun _ _ z => z) fun y S2 u H2 μ2 l2 w2 er2 ry h2 => ?_
  exact o x y S2 v u μ2 H2 H Q _ w2 (l2.rx w1 rx) (l1.rx0 ry) (h2.imp (fun _ _ z => z.up (l1.trans l2)) fun _ _ z => z)
theorem de_b1 (hc : CallR X (.builtin id) r) (o : OkB1 G r g) (hg : Gl X x) (hm : X.mg x = none) (hv : bootBuiltins x = some (.builtin id)) (hn : x ≠ "__name__") (hd : (x == ("__debug__" : Str)) = false) (hp : plainE a = true) (ha : PE X a (tD G E fa)) :
    PE X (.Call (.Name x p) [a] [] pos) (tD G E (eUn g fa)) :=
  PE.wk (pe_callB hc hg hm hv (pa_cons ha pa_nil (star_plain hp _ _)) hn hd (star_plain hp _ _) rfl) fun _ _ _ h => tB1 o h
theorem de_t1 (hc : CallR X (.type T) r) (o : OkB1 G r g) (hg : Gl X x) (hm : X.mg x = none) (hv : bootBuiltins x = some (.type T)) (hn : x ≠ "__name__") (hd : (x == ("__debug__" : Str)) = false) (hp : plainE a = true) (ha : PE X a (tD G E fa)) :
    PE X (.Call (.Name x p) [a] [] pos) (tD G E (eUn g fa)) :=
  PE.wk (pe_callTy hc hg hm hv (pa_cons ha pa_nil (star_plain hp _ _)) hn hd (star_plain hp _ _) rfl) fun _ _ _ h => tB1 o h
theorem de_b2 (hc : CallR X (.builtin id) r) (o : OkB2 G r g2) (hg : Gl X x) (hm : X.mg x = none) (hv : bootBuiltins x = some (.builtin id)) (hn : x ≠ "__name__") (hd : (x == ("__debug__" : Str)) = false) (hp : plainE a = true) (hp2 : plainE b = true) (ha : PE X a (tD G E fa)) (hb : PE X b (tD G E fb)) :
    PE X (.Call (.Name x p) [a, b] [] pos) (tD G E (eBin g2 fa fb)) :=
  PE.wk (pe_callB hc hg hm hv (pa_cons ha (pa_cons hb pa_nil (star_plain hp2 _ _)) (star_plain hp _ _)) hn hd (star_plain hp _ _) (star_any pos _ (es := [b]) (by simp [hp2]))) fun _ _ _ h => tB2 o h
end
def lenV (x : Rv) (S : Sto) : Res Rv := match x with
  | .val (.str z) => if z.length ≤ big then .ok (.val (.int z.length)) S else .bad
  | x => match seqOf x S with
    | some xs => .ok (.val (.int xs.length)) S
    | none => match kOf x S with
      | some kvs => .ok (.val (.int kvs.length)) S
      | none => .bad
theorem CallR.or {X : Cx} {c : Value} {r r' : List V → Hp → VK → Prop} (h : CallR X c r) (h' : CallR X c r') : CallR X c (fun x H Q => r x H Q ∨ r' x H Q) := by
  intro pins s σ H xs us Q I rx q
  rcases q with q | q
  · exact h pins s σ H xs us Q I rx q
  · exact h' pins s σ H xs us Q I rx q
theorem call_lenD {X : Cx} : CallR X (.builtin "len") (fun xs H Q => ∃ (a : Addr) (kvs : List (Key × V)), xs = [.ref a] ∧ Rd H a (.dK kvs) ∧ Q (.int kvs.length) H) := by
  intro pins s σ H xs us Q I r h
  obtain ⟨a, kvs, rfl, ha, q⟩ := h
  rw [Vals.ref1 r]
  exact d_len I ha fun t s' I' => ⟨.int kvs.length, H, I', ⟨t, rfl⟩, q⟩
theorem ok_len {X : Cx} (hK : X.K = G.K) : ∃ r, CallR X (.builtin "len") r ∧ OkB1 G r lenV := by
  refine ⟨_, CallR.or call_len call_lenD, ?_⟩
  intro x S v μ H H0 Q QE w rx q
  unfold lenV at q
  split at q
  · split at q
    · rename_i z hz
      cases rx
      exact .inl ⟨_, _, rfl, ⟨big_le hz, rfl⟩, q _ H μ Le.refl w (.int _)⟩
    · exact q.elim
  · split at q
    · rename_i xs e
      obtain ⟨b, vs, e3, hs, rs⟩ := seqOf_ok w rx e
      subst e3
      have q := q _ H μ Le.refl w (.int _)
      rw [rs.length] at q
      rw [hK]
      rcases hs with hs | hs
      · exact .inl ⟨_, _, rfl, .inl ⟨vs, hs, rfl⟩, q⟩
      · exact .inl ⟨_, _, rfl, .inr ⟨vs, hs, rfl⟩, q⟩
    · split at q
      · rename_i kvs e
        obtain ⟨a, vs, rfl, hx, kv⟩ := kOf_ok w rx e
        have q := q _ H μ Le.refl w (.int _)
        rw [kv.len] at q
        exact .inr ⟨a, vs, rfl, hx, q⟩
      · exact q.elim
def absI (x : Rv) (S : Sto) : Res Rv := match x with
  | .val (.int i) => .ok (.val (.int (if i < 0 then -i else i))) S
  | _ => .bad
theorem ok_abs {X : Cx} : ∃ r, CallR X (.builtin "abs") r ∧ OkB1 G r absI := by
  refine ⟨_, call_abs, ?_⟩
  intro x S v μ H H0 Q QE w rx q
  unfold absI at q
  split at q
  · cases rx
    exact ⟨_, rfl, q _ H μ Le.refl w (.int _)⟩
  · exact q.elim
def maxV : Rv → Rv → Sto → Res Rv := intI (fun _ _ => true) fun i j => if j > i then j else i
def minV : Rv → Rv → Sto → Res Rv := intI (fun _ _ => true) fun i j => if j < i then j else i
theorem ok_max {X : Cx} (hc : X.calm = true) : ∃ r, CallR X (.builtin "max") r ∧ OkB2 G r maxV := by
  refine ⟨_, call_max2 hc, ?_⟩
  intro x y S v u μ H H0 Q QE w rx ry q
  unfold maxV intI at q
  split at q
  · split at q
    · cases rx; cases ry
      exact ⟨_, _, rfl, q _ H μ Le.refl w (.int _)⟩
    · exact q.elim
  · exact q.elim
theorem ok_min {X : Cx} (hc : X.calm = true) : ∃ r, CallR X (.builtin "min") r ∧ OkB2 G r minV := by
  refine ⟨_, call_min2 hc, ?_⟩
  intro x y S v u μ H H0 Q QE w rx ry q
  unfold minV intI at q
  split at q
  · split at q
    · cases rx; cases ry
      exact ⟨_, _, rfl, q _ H μ Le.refl w (.int _)⟩
    · exact q.elim
  · exact q.elim
def intsOf : List D → Option (List Int)
  | [] => some []
  | .int i :: ds => (intsOf ds).map (i :: ·)
  | _ :: _ => none
theorem intsOf_ok : ∀ {ds : List D} {ns : List Int} {vs : List V}, intsOf ds = some ns → Rs G μ H ds vs → vs = ns.map V.int
  | [], _, _, e, r => by cases e; cases r; rfl
  | d :: ds, ns, _, e, r => by
    cases r with
    | cons h t =>
      cases d with
      | int i =>
        obtain ⟨ms, e1, e2⟩ := Option.map_eq_some_iff.mp (show (intsOf ds).map (i :: ·) = some ns from e)
        subst e2
        cases h
        rw [intsOf_ok e1 t]
        rfl
      | _ => cases e
def blsOf : List D → Option (List Bool)
  | [] => some []
  | .bl i :: ds => (blsOf ds).map (i :: ·)
  | _ :: _ => none
theorem blsOf_ok : ∀ {ds : List D} {ns : List Bool} {vs : List V}, blsOf ds = some ns → Rs G μ H ds vs → vs = ns.map V.bl
  | [], _, _, e, r => by cases e; cases r; rfl
  | d :: ds, ns, _, e, r => by
    cases r with
    | cons h t =>
      cases d with
      | bl i =>
        obtain ⟨ms, e1, e2⟩ := Option.map_eq_some_iff.mp (show (blsOf ds).map (i :: ·) = some ns from e)
        subst e2
        cases h
        rw [blsOf_ok e1 t]
        rfl
      | _ => cases e
def sumV (x : Rv) (S : Sto) : Res Rv := match (lrdOf x S).bind intsOf with
  | some ns => .ok (.val (.int ns.sum)) S
  | none => .bad
theorem ok_sum {X : Cx} (hK : X.K = G.K) (hc : X.calm = true) : ∃ r, CallR X (.builtin "sum") r ∧ OkB1 G r sumV := by
  refine ⟨_, cr_sum hc, ?_⟩
  intro x S v μ H H0 Q QE w rx q
  unfold sumV at q
  split at q
  · rename_i ns e
    obtain ⟨xs, e1, e2⟩ := Option.bind_eq_some_iff.mp e
    obtain ⟨b, vs, e3, hs, rs⟩ := lrdOf_ok w rx e1
    subst e3
    have := intsOf_ok e2 rs
    subst this
    exact ⟨b, ns, rfl, by rw [hK]; exact hs, q _ H μ Le.refl w (.int _)⟩
  · exact q.elim
def allV (x : Rv) (S : Sto) : Res Rv := match (lrdOf x S).bind blsOf with
  | some ns => .ok (.val (.bl (ns.all id))) S
  | none => .bad
theorem ok_all {X : Cx} (hK : X.K = G.K) (hc : X.calm = true) : ∃ r, CallR X (.builtin "all") r ∧ OkB1 G r allV := by
  refine ⟨_, cr_all hc, ?_⟩
  intro x S v μ H H0 Q QE w rx q
  unfold allV at q
  split at q
  · rename_i ns e
    obtain ⟨xs, e1, e2⟩ := Option.bind_eq_some_iff.mp e
    obtain ⟨b, vs, e3, hs, rs⟩ := lrdOf_ok w rx e1
    subst e3
    have := blsOf_ok e2 rs
    subst this
    exact ⟨b, ns, rfl, by rw [hK]; exact hs, q _ H μ Le.refl w (.bl _)⟩
  · exact q.elim
def listV (x : Rv) (S : Sto) : Res Rv := match seqOf x S with
  | some xs => .ok (.new xs) S
  | none => .bad
theorem ok_list {X : Cx} (hK : X.K = G.K) : ∃ r, CallR X (.type "list") r ∧ OkB1 G r listV := by
  refine ⟨_, call_list_of, ?_⟩
  intro x S v μ H H0 Q QE w rx q
  unfold listV at q
  split at q
  · rename_i xs e
    obtain ⟨b, vs, e3, hs, rs⟩ := seqOf_ok w rx e
    subst e3
    exact ⟨b, vs, rfl, by rw [hK]; exact hs, fun p hp => q _ _ μ (Le.laid hp) (w.laid hp) (Rx.fresh w hp hp rs)⟩
  · exact q.elim
def tupleV (x : Rv) (S : Sto) : Res Rv := match x with
  | .val (.tup xs) => .ok (.val (.tup xs)) S
  | .val (.tuf xs) => .ok (.val (.tuf xs)) S
  | x => match lrdOf x S with
    | some xs => .ok (.val (.tup xs)) S
    | none => .bad
/-- tuple(xs), known to have no dict -/
def tufV (x : Rv) (S : Sto) : Res Rv := match x with
  | .val (.tup xs) => .ok (.val (.tup xs)) S
  | .val (.tuf xs) => .ok (.val (.tuf xs)) S
  | x => match lrdOf x S with
    | some xs => .ok (.val (.tuf xs)) S
    | none => .bad
theorem call_tuf {X : Cx} : CallR X (.type "tuple") (fun xs H Q => ∃ p ys, xs = [.ref p] ∧ ((SqL X.K H p ys ∧ ∀ l o, H l = none → o.dict = none → Q (.ref l) (upd H l (.frz o (.tup ys)))) ∨ (SqT X.K H p ys ∧ Q (.ref p) H))) := by
  intro pins s σ H xs us Q I r h
  obtain ⟨p, ys, rfl, h⟩ := h
  obtain ⟨u, rfl, rx⟩ := vals1 r
  cases rx
  rcases h with ⟨hq, q⟩ | ⟨hq, q⟩
  · obtain ⟨its, r', pl, hz⟩ := I.list hq
    have hlen := r'.length
    refine call_tuple_list pl.isList (fun h' kp => ?_) (by simp only [List.size_toArray] <;> omega)
    have I1 : Inv X pins σ H { s with heap := h' } := I.kept (t' := s.toks) kp
    have I2 : Inv X pins σ (upd H h'.objs.size (.frz { cls := .type "tuple", data := .seq its.toArray } (.tup ys))) { s with heap := h'.push { cls := .type "tuple", data := .seq its.toArray } } :=
      I1.laid (t' := s.toks) (fun b o e => Heap.get?_push_of_some _ e) (Nat.le_refl _) (show ObjOk X.prog X.w _ _ _ (.frz _ (.tup ys)) from ⟨Heap.get?_push_size _ rfl, hz, its, r', IsTup.new _ _⟩)
    exact ⟨.ref h'.objs.size, _, I2, rfl, q _ _ (I1.hok.fresh (Nat.le_refl _)) rfl⟩
  · obtain ⟨its, r', pl, hz⟩ := I.tuple hq
    exact call_tuple_same pl ⟨.ref p, H, I, rfl, q⟩
theorem ok_tuf {X : Cx} (hK : X.K = G.K) : ∃ r, CallR X (.type "tuple") r ∧ OkB1 G r tufV := by
  refine ⟨_, call_tuf, ?_⟩
  intro x S v μ H H0 Q QE w rx q
  unfold tufV at q
  split at q
  · cases rx with
    | @tup _ b vs hs rs => exact ⟨b, vs, rfl, .inr ⟨by rw [hK]; exact SqT.of hs, q _ H μ Le.refl w (.tup hs rs)⟩⟩
  · have rx' := rx
    cases rx with
    | @tuf _ b vs hs rs => obtain ⟨o, hd, hs⟩ := hs; exact ⟨b, vs, rfl, .inr ⟨by rw [hK]; exact .inl (.inr ⟨o, hs⟩), q _ H μ Le.refl w rx'⟩⟩
  · split at q
    · rename_i xs e
      obtain ⟨b, vs, e3, hs, rs⟩ := lrdOf_ok w rx e
      subst e3
      exact ⟨b, vs, rfl, .inl ⟨by rw [hK]; exact hs, fun p o hp ho => q _ _ μ (Le.laid hp) (w.laid hp) (R.freshF w hp ho rs)⟩⟩
    · exact q.elim
theorem ok_tuple {X : Cx} (hK : X.K = G.K) : ∃ r, CallR X (.type "tuple") r ∧ OkB1 G r tupleV := by
  refine ⟨_, call_tuple_of, ?_⟩
  intro x S v μ H H0 Q QE w rx q
  unfold tupleV at q
  split at q
  · cases rx with
    | @tup _ b vs hs rs => exact ⟨b, vs, rfl, .inr ⟨by rw [hK]; exact SqT.of hs, q _ H μ Le.refl w (.tup hs rs)⟩⟩
  · have rx' := rx
    cases rx with
    | @tuf _ b vs hs rs => obtain ⟨o, hd, hs⟩ := hs; exact ⟨b, vs, rfl, .inr ⟨by rw [hK]; exact .inl (.inr ⟨o, hs⟩), q _ H μ Le.refl w rx'⟩⟩
  · split at q
    · rename_i xs e
      obtain ⟨b, vs, e3, hs, rs⟩ := lrdOf_ok w rx e
      subst e3
      exact ⟨b, vs, rfl, .inl ⟨by rw [hK]; exact hs, fun p hp => q _ _ μ (Le.laid hp) (w.laid hp) (R.fresh w hp rs)⟩⟩
    · exact q.elim

/-! ### isinstance -/
inductive Ty where
  | none | bool | int | str | tuple | list | dict
  deriving DecidableEq
def Ty.nm : Ty → String
  | .none => "NoneType" | .bool => "bool" | .int => "int" | .str => "str" | .tuple => "tuple" | .list => "list" | .dict => "dict"
def isi (t T : Ty) : Bool := t == T || (t == .bool && T == .int)
theorem isi_ok : ∀ t T : Ty, T ≠ .none → kitB t.nm T.nm = some (isi t T) := by
  intro t T h
  cases t <;> cases T <;> first | (exact absurd rfl h) | decide +kernel
def tyOf (x : Rv) (S : Sto) : Option Ty := match x with
  | .val .non => some .none
  | .val (.bl _) => some .bool
  | .val (.int _) => some .int
  | .val (.str _) => some .str
  | .val (.tup _) => some .tuple
  | .val (.tuf _) => some .tuple
  | .val (.rol _) => some .list
  | .val (.loc n) => match S[n]? with
    | some (.lst _) => some .list
    | _ => none
  | .new _ => some .list
  | _ => none
theorem SqT.tyX {K : PySem.W.Frag} {a : Addr} {vs : List V} (h : SqT K H a vs) : TyX K H (.ref a) (.type "tuple") := by
  rcases h with (h | ⟨o, h⟩) | ⟨o, its, n, hk, hc, _⟩
  · exact .base (.tup h)
  · exact .fTuple h
  · exact .kTuple hk hc
theorem SqF.tyX {K : PySem.W.Frag} {a : Addr} {vs : List V} (h : SqF K H a vs) : TyX K H (.ref a) (.type "list") := by
  rcases h with ⟨o, h⟩ | ⟨o, its, n, hk, hc, _⟩
  · exact .base (.frz h)
  · exact .kList hk hc
theorem tyOf_ok {x : Rv} {v : V} {t : Ty} (w : Wd G μ H S) (r : Rx G H0 μ H x v) (h : tyOf x S = some t) : TyX G.K H v (.type t.nm) := by
  unfold tyOf at h
  split at h
  · cases h; cases r; exact .base .non
  · cases h; cases r; exact .base (.bl _)
  · cases h; cases r; exact .base (.int _)
  · cases h; cases r; exact .base (.str _)
  · cases h
    cases r with
    | tup hs rs => exact SqT.tyX (SqT.of hs)
  · cases h
    cases r with
    | tuf hs rs => obtain ⟨o, _, hs⟩ := hs; exact SqT.tyX (.inl (.inr ⟨o, hs⟩))
  · cases h
    cases r with
    | rol hs rs => exact SqF.tyX hs
  · rename_i n
    cases r with
    | @loc n a hn =>
      split at h
      · rename_i ys e
        cases h
        obtain ⟨vs, ha, r⟩ := w.obj n a _ hn e
        exact .base (.lst ha)
      · cases h
  · cases h
    obtain ⟨a, vs, e, ha, _⟩ := r
    subst e
    exact .base (.lst ha)
  · cases h
def isiV (T : Ty) (x : Rv) (S : Sto) : Res Rv := match tyOf x S with
  | some t => .ok (.val (.bl (isi t T))) S
  | none => .bad
section
variable {X : Cx} {a : Expr} {fa : ExM} {p p2 pos : Pos} {n : Str}
theorem de_isi (hK : X.K = G.K) {T : Ty} (hT : T ≠ .none) (hg : Gl X "isinstance") (hm : X.mg "isinstance" = none) (hg2 : Gl X n) (hm2 : X.mg n = none) (hv : bootBuiltins n = some (.type T.nm)) (hn : n ≠ "__name__") (hd : (n == ("__debug__" : Str)) = false) (hp : plainE a = true) (ha : PE X a (tD G E fa)) :
    PE X (.Call (.Name "isinstance" p) [a, .Name n p2] [] pos) (tD G E (eUn (isiV T) fa)) := by
  have hb : PE X (.Name n p2) (tC (.ty T.nm)) := pe_bltn hg2 hm2 hv rfl hn hd
  refine PE.wk (pe_callB call_isi hg hm (by decide +kernel) (pa_cons ha (pa_cons hb pa_nil rfl) (star_plain hp _ _)) (by decide) (by decide) (star_plain hp _ _) rfl) fun σ H Q h => ?_
  obtain ⟨μ, S, env, w, er, h⟩ := h
  refine tD_go w er (post_bnd.1 h) fun x S1 v H1 μ1 l1 w1 er1 rx h1 => ?_
  unfold isiV at h1
  split at h1
  · rename_i t e
    exact ⟨v, .ty T.nm, .type t.nm, .type T.nm, isi t T, rfl, .ty _, by rw [hK]; exact tyOf_ok w1 rx e, kit_ty (isi_ok t T hT), h1 _ H1 μ1 l1 w1 (.bl _)⟩
  · exact h1.elim
end

/-! ### a def's call -/
abbrev FnM := List D → Sto → Res D
def spF (G : Gm) (np : Nat) (g : FnM) : Sp := fun vs H Q E => vs.length = np ∧ ∃ μ S ds, Wd G μ H S ∧ Rs G μ H ds vs ∧ Post (g ds S) (fun d S' => ∀ v H' μ', Le μ H μ' H' → Wd G μ' H' S' → R G μ' H' d v → Q v H') (ExP G E μ H)
def eCall (g : FnM) (fa : ArM) : ExM := fun env S => bnd (fa env S) fun ds S1 => bnd (g ds S1) fun d S2 => .ok (.val d) S2
theorem tCall_of {np : Nat} {g : FnM} {fa : ArM} (hn : ∀ ds S, ds.length ≠ np → g ds S = .bad) {σ : L2.St} {H : Hp} {Q : VK} (h : tD G E (eCall g fa) σ H Q) : tCall (spF G np g) [] E (tAr G E fa) σ H Q := by
  obtain ⟨μ, S, env, w, er, h⟩ := h
  refine tAr_go w er (post_bnd.1 h) fun ds S1 vs H1 μ1 l1 w1 er1 rs h1 => ?_
  show spF G np g (vs ++ []) H1 Q E
  rw [List.append_nil]
  have h1 := post_bnd.1 h1
  refine ⟨?_, μ1, S1, ds, w1, rs, post_ex l1 h1 fun d S2 q v H2 μ2 l2 w2 r => q v H2 μ2 (l1.trans l2) w2 r⟩
  rw [← rs.length]
  refine Classical.byContradiction fun z => ?_
  rw [hn ds S1 z] at h1
  exact h1
end
end Bz

set_option Elab.async false
set_option linter.all false
set_option maxRecDepth 100000
set_option maxHeartbeats 2000000
/-! Bz, fifth part: methods, what is walked, comprehensions. -/
namespace Bz
open PySem PySem.Spec PyProof.Rows L2

mutual
def D.same : D → D → Bool
  | .non, .non => true
  | .bl a, .bl b => a == b
  | .int a, .int b => a == b
  | .str a, .str b => decide (a = b)
  | .tup a, .tup b => Ds.same a b
  | .tuf a, .tuf b => Ds.same a b
  | .rol a, .rol b => Ds.same a b
  | .rod ks a, .rod js b => decide (ks = js) && Ds.same a b
  | .rot ks a, .rot js b => decide (ks = js) && Ds.same a b
  | .loc a, .loc b => a == b
  | .fn a, .fn b => decide (a = b)
  | _, _ => false
def Ds.same : List D → List D → Bool
  | [], [] => true
  | a :: as, b :: bs => D.same a b && Ds.same as bs
  | _, _ => false
end
mutual
theorem D.same_eq : ∀ (a b : D), D.same a b = true → a = b
  | .non, b, h => by cases b <;> first | rfl | (simp [D.same] at h)
  | .bl _, b, h => by cases b <;> first | (simp [D.same] at h; rw [h]) | (simp [D.same] at h)
  | .int _, b, h => by cases b <;> first | (simp [D.same] at h; rw [h]) | (simp [D.same] at h)
  | .str _, b, h => by cases b <;> first | (simp [D.same] at h; rw [h]) | (simp [D.same] at h)
  | .loc _, b, h => by cases b <;> first | (simp [D.same] at h; rw [h]) | (simp [D.same] at h)
  | .fn _, b, h => by cases b <;> first | (simp [D.same] at h; rw [h]) | (simp [D.same] at h)
  | .tup x, b, h => by
    cases b with
    | tup y => rw [Ds.same_eq x y (by simpa [D.same] using h)]
    | _ => simp [D.same] at h
  | .tuf x, b, h => by
    cases b with
    | tuf y => rw [Ds.same_eq x y (by simpa [D.same] using h)]
    | _ => simp [D.same] at h
  | .rol x, b, h => by
    cases b with
    | rol y => rw [Ds.same_eq x y (by simpa [D.same] using h)]
    | _ => simp [D.same] at h
  | .rod k x, b, h => by
    cases b with
    | rod j y =>
      have h : (decide (k = j) && Ds.same x y) = true := by simpa [D.same] using h
      rw [Bool.and_eq_true] at h
      rw [of_decide_eq_true h.1, Ds.same_eq x y h.2]
    | _ => simp [D.same] at h
  | .rot k x, b, h => by
    cases b with
    | rot j y =>
      have h : (decide (k = j) && Ds.same x y) = true := by simpa [D.same] using h
      rw [Bool.and_eq_true] at h
      rw [of_decide_eq_true h.1, Ds.same_eq x y h.2]
    | _ => simp [D.same] at h
theorem Ds.same_eq : ∀ (a b : List D), Ds.same a b = true → a = b
  | [], b, h => by cases b <;> first | rfl | (simp [Ds.same] at h)
  | x :: xs, b, h => by
    cases b with
    | nil => simp [Ds.same] at h
    | cons y ys =>
      have h : (D.same x y && Ds.same xs ys) = true := by simpa [Ds.same] using h
      rw [Bool.and_eq_true] at h
      rw [D.same_eq x y h.1, Ds.same_eq xs ys h.2]
end
mutual
theorem D.same_refl : ∀ (a : D), D.same a a = true
  | .non => by simp [D.same]
  | .bl _ => by simp [D.same]
  | .int _ => by simp [D.same]
  | .str _ => by simp [D.same]
  | .loc _ => by simp [D.same]
  | .fn _ => by simp [D.same]
  | .tup x => by simp [D.same, Ds.same_refl x]
  | .tuf x => by simp [D.same, Ds.same_refl x]
  | .rol x => by simp [D.same, Ds.same_refl x]
  | .rod k x => by simp [D.same, Ds.same_refl x]
  | .rot k x => by simp [D.same, Ds.same_refl x]
theorem Ds.same_refl : ∀ (a : List D), Ds.same a a = true
  | [] => by simp [Ds.same]
  | x :: xs => by simp [Ds.same, D.same_refl x, Ds.same_refl xs]
end
instance : DecidableEq D := fun a b => if h : D.same a b = true then .isTrue (D.same_eq a b h) else .isFalse fun e => h (by rw [e]; exact D.same_refl b)
instance : DecidableEq Ob := fun a b => match a, b with
  | .lst x, .lst y => if h : x = y then .isTrue (by rw [h]) else .isFalse fun e => h (Ob.lst.inj e)
  | .dk x, .dk y => if h : x = y then .isTrue (by rw [h]) else .isFalse fun e => h (Ob.dk.inj e)
  | .dt x, .dt y => if h : x = y then .isTrue (by rw [h]) else .isFalse fun e => h (Ob.dt.inj e)
  | .dead, .dead => .isTrue rfl
  | .lst _, .dk _ => .isFalse fun e => nomatch e
  | .lst _, .dt _ => .isFalse fun e => nomatch e
  | .lst _, .dead => .isFalse fun e => nomatch e
  | .dk _, .lst _ => .isFalse fun e => nomatch e
  | .dk _, .dt _ => .isFalse fun e => nomatch e
  | .dk _, .dead => .isFalse fun e => nomatch e
  | .dt _, .lst _ => .isFalse fun e => nomatch e
  | .dt _, .dk _ => .isFalse fun e => nomatch e
  | .dt _, .dead => .isFalse fun e => nomatch e
  | .dead, .lst _ => .isFalse fun e => nomatch e
  | .dead, .dk _ => .isFalse fun e => nomatch e
  | .dead, .dt _ => .isFalse fun e => nomatch e

/-! ### methods of lists -/
def eM1 (t : Ty) (g : Rv → D → Sto → Res Rv) (fo fa : ExM) : ExM := fun env S => bnd (fo env S) fun x S1 => if tyOf x S1 = some t then bnd (fa env S1) fun y S2 => bnd (stl y S2) fun d S3 => g x d S3 else .bad
def eM0 (t : Ty) (g : Rv → Sto → Res Rv) (fo : ExM) : ExM := fun env S => bnd (fo env S) fun x S1 => if tyOf x S1 = some t then g x S1 else .bad
def eM2 (t : Ty) (g : Rv → D → D → Sto → Res Rv) (fo fa fb : ExM) : ExM := fun env S => bnd (fo env S) fun x S1 => if tyOf x S1 = some t then bnd (fa env S1) fun y S2 => bnd (stl y S2) fun d S3 => bnd (fb env S3) fun z S4 => bnd (stl z S4) fun e S5 => g x d e S5 else .bad
section
variable {G : Gm} {E : XK} {μ : Mp} {H H0 : Hp} {S : Sto} {X : Cx}
theorem tyV_list {x : Rv} {v : V} (w : Wd G μ H S) (r : Rx G H0 μ H x v) (h : tyOf x S = some .list) : tyV G.K "list" v H := by
  unfold tyOf at h
  split at h <;> try cases h
  · cases r with
    | rol hs rs => exact .inl ⟨rfl, _, hs.l⟩
  · rename_i n
    cases r with
    | @loc n a hn =>
      split at h
      · rename_i ys e
        obtain ⟨vs, ha, r⟩ := w.obj n a _ hn e
        exact .inl ⟨rfl, vs, .of ha⟩
      · cases h
  · obtain ⟨a, vs, e, ha, _⟩ := r
    subst e
    exact .inl ⟨rfl, vs, .of ha⟩
def OkM (G : Gm) (r : V → List V → Hp → VK → Prop) (g : Rv → List D → Sto → Res Rv) : Prop :=
  ∀ (x : Rv) (ds : List D) (S : Sto) (v : V) (vs : List V) (μ : Mp) (H H0 : Hp) (Q : VK) (QE : Exn → Sto → Prop), Wd G μ H S → Rx G H0 μ H x v → Rs G μ H ds vs → Post (g x ds S) (Gd G μ H Q) QE → r v vs H Q
variable {o a b : Expr} {fo fa fb : ExM} {name : Str} {id : String} {r : V → List V → Hp → VK → Prop} {apos cpos : Pos}
theorem de_lm0 {g : Rv → List D → Sto → Res Rv} (hK : X.K = G.K) (slot : Slot "list" name id) (hty : typeOf (.builtin id) = pure (.type "method_descriptor")) (hm : MtR X id r) (ok : OkM G r g) (hb : baseOk o = true) (hl : (apos.endLine == cpos.line) = true) (ho : PE X o (tD G E fo)) :
    PE X (.Call (.Attribute o name apos) [] [] cpos) (tD G E (eM0 .list (fun x S => g x [] S) fo)) :=
  PE.wk (pe_bm0 PySem.F.plainAttrs_list slot hty hm ho (base_plain hb _ _ _) hl) fun σ H Q ⟨μ, S, env, w, er, h⟩ => tD_go w er (post_bnd.1 h) fun x S1 v H1 μ1 l1 w1 er1 rx h1 => by
    split at h1
    · rename_i e
      exact ⟨by rw [hK]; exact tyV_list w1 rx e, ok x [] S1 v [] μ1 H1 H Q _ w1 rx .nil (h1.imp (fun _ _ z => z.up l1) fun _ _ z => z)⟩
    · exact h1.elim
theorem de_lm1 {g : Rv → List D → Sto → Res Rv} (hK : X.K = G.K) (slot : Slot "list" name id) (hty : typeOf (.builtin id) = pure (.type "method_descriptor")) (hm : MtR X id r) (ok : OkM G r g) (hb : baseOk o = true) (hl : (apos.endLine == cpos.line) = true) (hp : plainE a = true)
    (ho : PE X o (tD G E fo)) (ha : PE X a (tD G E fa)) : PE X (.Call (.Attribute o name apos) [a] [] cpos) (tD G E (eM1 .list (fun x d S => g x [d] S) fo fa)) :=
  PE.wk (pe_bm PySem.F.plainAttrs_list slot hty hm ho (pa_cons ha pa_nil (star_plain hp _ _)) (base_plain hb _ _ _) (few_ok (by simp [hp]) (by show 1 < 20; decide)) hl (star_plain hp _ _) rfl) fun σ H Q ⟨μ, S, env, w, er, h⟩ => tD_go w er (post_bnd.1 h) fun x S1 v H1 μ1 l1 w1 er1 rx h1 => by
    split at h1
    · rename_i e
      refine ⟨by rw [hK]; exact tyV_list w1 rx e, ?_⟩
      refine tD_go w1 er1 (post_ex l1 (post_bnd.1 h1) fun _ _ z => z) fun y S2 u H2 μ2 l2 w2 er2 ry h2 => ?_
      obtain ⟨d, S3, μ3, e3, l3, w3, r3, m3⟩ := stl_ok l2 w2 ry
      rw [e3] at h2
      have h2 : Post (g x [d] S3) (Gd G μ H Q) _ := h2
      have l := l1.trans l3
      exact ok x [d] S3 v [u] μ3 H2 H Q _ w3 (l3.rx w1 rx) (.one r3) (h2.imp (fun _ _ z => z.up l) fun _ _ z => z)
    · exact h1.elim
theorem de_lm2 {g : Rv → List D → Sto → Res Rv} (hK : X.K = G.K) (slot : Slot "list" name id) (hty : typeOf (.builtin id) = pure (.type "method_descriptor")) (hm : MtR X id r) (ok : OkM G r g) (hb : baseOk o = true) (hl : (apos.endLine == cpos.line) = true) (hp : plainE a = true) (hp2 : plainE b = true)
    (ho : PE X o (tD G E fo)) (ha : PE X a (tD G E fa)) (hb2 : PE X b (tD G E fb)) : PE X (.Call (.Attribute o name apos) [a, b] [] cpos) (tD G E (eM2 .list (fun x d e S => g x [d, e] S) fo fa fb)) :=
  PE.wk (pe_bm PySem.F.plainAttrs_list slot hty hm ho (pa_cons ha (pa_cons hb2 pa_nil (star_plain hp2 _ _)) (star_plain hp _ _)) (base_plain hb _ _ _) (few_ok (by simp [hp, hp2]) (by show 2 < 20; decide)) hl (star_plain hp _ _) (star_any cpos _ (es := [b]) (by simp [hp2]))) fun σ H Q ⟨μ, S, env, w, er, h⟩ => tD_go w er (post_bnd.1 h) fun x S1 v H1 μ1 l1 w1 er1 rx h1 => by
    split at h1
    · rename_i e
      refine ⟨by rw [hK]; exact tyV_list w1 rx e, ?_⟩
      refine tD_go w1 er1 (post_ex l1 (post_bnd.1 h1) fun _ _ z => z) fun y S2 u H2 μ2 l2 w2 er2 ry h2 => ?_
      obtain ⟨d, S3, μ3, e3, l3, w3, r3, m3⟩ := stl_ok l2 w2 ry
      rw [e3] at h2
      have h2 : Post (bnd (fb env S3) _) (Gd G μ H Q) _ := h2
      have er3 := l3.envR w1 er1
      refine tD_go w3 er3 (post_ex (l1.trans l3) (post_bnd.1 h2) fun _ _ z => z) fun y4 S4 u4 H4 μ4 l4 w4 er4 ry4 h4 => ?_
      obtain ⟨d5, S5, μ5, e5, l5, w5, r5, m5⟩ := stl_ok l4 w4 ry4
      rw [e5] at h4
      have h4 : Post (g x [d, d5] S5) (Gd G μ H Q) _ := h4
      exact ok x [d, d5] S5 v [u, u4] μ5 H4 H Q _ w5 ((l3.trans l5).rx w1 rx) (.cons (l5.r w3 r3) (.one r5)) (h4.imp (fun _ _ z => z.up ((l1.trans l3).trans l5)) fun _ _ z => z)
    · exact h1.elim
/-- the list at a place of the store is changed -/
def chg (x : Rv) (S : Sto) (k : List D → Nat → Res Rv) : Res Rv := match x with
  | .val (.loc n) => match S[n]? with
    | some (.lst xs) => k xs n
    | _ => .bad
  | _ => .bad
theorem chg_ok {x : Rv} {v : V} {k : List D → Nat → Res Rv} {P : Rv → Sto → Prop} {QE : Exn → Sto → Prop} (w : Wd G μ H S) (r : Rx G H0 μ H x v) (h : Post (chg x S k) P QE) :
    ∃ n a xs vs, x = .val (.loc n) ∧ S[n]? = some (.lst xs) ∧ μ n = some a ∧ v = .ref a ∧ H a = some (.lst vs) ∧ Rs G μ H xs vs ∧ Post (k xs n) P QE := by
  unfold chg at h
  split at h
  · rename_i n
    cases r with
    | @loc n a hn =>
      split at h
      · rename_i ys e
        obtain ⟨vs, ha, r⟩ := w.obj n a _ hn e
        exact ⟨n, a, ys, vs, rfl, e, hn, rfl, ha, r, h⟩
      · exact h.elim
  · exact h.elim
def mAppend (x : Rv) (ds : List D) (S : Sto) : Res Rv := match ds with
  | [d] => chg x S fun xs n => if xs.length < big then .ok (.val .non) (S.set n (.lst (xs ++ [d]))) else .bad
  | _ => .bad
theorem ok_append : OkM G rAppend mAppend := by
  intro x ds S v vs μ H H0 Q QE w rx rs q
  unfold mAppend at q
  split at q
  · rename_i d
    obtain ⟨n, a, xs, ws, rfl, e, hn, rfl, ha, r, q⟩ := chg_ok w rx q
    split at q
    · rename_i hz
      cases rs with
      | @cons _ y _ _ ry rt =>
        cases rt
        refine ⟨a, ws, y, rfl, rfl, ha, big_lt (by rw [← r.length]; exact hz), ?_⟩
        exact q _ _ μ (Le.write hn ha) (w.write hn ha (r.append (.one ry))) .non
    · exact q.elim
  · exact q.elim
def mInsert (x : Rv) (ds : List D) (S : Sto) : Res Rv := match ds with
  | [.int i, d] => chg x S fun xs n => if xs.length < big ∧ 0 ≤ i ∧ i < 2 ^ 60 then .ok (.val .non) (S.set n (.lst (xs.take i.toNat ++ [d] ++ xs.drop i.toNat))) else .bad
  | _ => .bad
theorem ok_insert : OkM G (fun x vs H Q => ∃ (l : Addr) (xs : List V) (i : Int) (y : V), x = .ref l ∧ vs = [.int i, y] ∧ H l = some (.lst xs) ∧ xs.length < sizeLine ∧ 0 ≤ i ∧ i < 2 ^ 63 ∧
    Q .non (upd H l (.lst (xs.take i.toNat ++ [y] ++ xs.drop i.toNat)))) mInsert := by
  intro x ds S v vs μ H H0 Q QE w rx rs q
  unfold mInsert at q
  split at q
  · rename_i i d
    obtain ⟨n, a, xs, ws, rfl, e, hn, rfl, ha, r, q⟩ := chg_ok w rx q
    split at q
    · rename_i hz
      cases rs with
      | @cons _ y0 _ _ ry0 rt0 =>
      cases ry0
      cases rt0 with
      | @cons _ y _ _ ry rt =>
        cases rt
        refine ⟨a, ws, i, y, rfl, rfl, ha, big_lt (by rw [← r.length]; exact hz.1), hz.2.1, by omega, ?_⟩
        exact q _ _ μ (Le.write hn ha) (w.write hn ha (((r.take _).append (.one ry)).append (r.drop _))) .non
    · exact q.elim
  · exact q.elim
def mPopAt (x : Rv) (ds : List D) (S : Sto) : Res Rv := match ds with
  | [.int i] => chg x S fun xs n => if -(2 ^ 60) ≤ i ∧ i < 2 ^ 60 then (match ixN xs.length i with
    | some k => (match xs[k]? with
      | some y => .ok (.val y) (S.set n (.lst (xs.eraseIdx k)))
      | none => .bad)
    | none => .bad) else .bad
  | _ => .bad
theorem ok_popAt : OkM G rPopAt mPopAt := by
  intro x ds S v vs μ H H0 Q QE w rx rs q
  unfold mPopAt at q
  split at q
  · rename_i i
    obtain ⟨n, a, xs, ws, rfl, e, hn, rfl, ha, r, q⟩ := chg_ok w rx q
    split at q
    · rename_i hz
      split at q
      · rename_i k ek
        split at q
        · rename_i d ed
          cases rs with
          | cons ry0 rt0 =>
          cases ry0; cases rt0
          obtain ⟨y, ey, ry⟩ := r.get ed
          obtain ⟨h1, h2, h3, h4⟩ := ixN_seq ek
          have lw : Le μ H μ (upd H a (.lst (ws.eraseIdx k))) := Le.write hn ha
          refine ⟨a, ws, i, k, y, rfl, rfl, ha, by omega, by omega, by rw [← r.length]; exact h1, ey, ?_⟩
          exact q _ _ μ lw (w.write hn ha (r.eraseIdx k)) (lw.r w ry)
        · exact q.elim
      · exact q.elim
    · exact q.elim
  · exact q.elim
end

/-! ### what is walked -/
abbrev Gs := List (Nat × Ob)
/-- the lists that are walked stand as they stood -/
def gok (gs : Gs) (S : Sto) : Bool := gs.all fun g => decide (S[g.1]? = some g.2)
abbrev SrM := Env → Sto → Res (List D × Gs)
def Wk (G : Gm) (J : It) (xs : List D) (gs : Gs) (μ1 : Mp) (H1 : Hp) : Prop := ∀ (i : Nat) (μ2 : Mp) (H2 : Hp) (S2 : Sto), Le μ1 H1 μ2 H2 → Wd G μ2 H2 S2 → gok gs S2 = true →
  (xs.length ≤ i → J.stop i H2) ∧ ∀ d, xs[i]? = some d → J.go i H2 ∧ ∀ x H3, J.yld i H2 x H3 → Le μ2 H2 μ2 H3 ∧ Wd G μ2 H3 S2 ∧ R G μ2 H3 d x
def tSr (G : Gm) (E : XK) (f : SrM) : TI := fun σ H Rr => ∃ μ S env, Wd G μ H S ∧ EnvR G μ H env σ ∧ Post (f env S) (fun s S' => ∀ J H' μ', Le μ H μ' H' → Wd G μ' H' S' → Wk G J s.1 s.2 μ' H' → Rr J H') (ExP G E μ H)
theorem PI.wk {X : Cx} {tg e : Expr} {t t' : TI} (h : PI X tg e t) (k : ∀ σ H Q, t' σ H Q → t σ H Q) : PI X tg e t' := ⟨fun pins s σ H Q I q => h.run pins s σ H Q I (k σ H Q q)⟩
theorem PI.or {X : Cx} {tg e : Expr} {t t' : TI} (h : PI X tg e t) (h' : PI X tg e t') : PI X tg e (fun σ H Q => t σ H Q ∨ t' σ H Q) := ⟨fun pins s σ H Q I q => by
  rcases q with q | q
  · exact h.run pins s σ H Q I q
  · exact h'.run pins s σ H Q I q⟩
/-- a value that is walked: its items, what must stand meanwhile -/
def srcOf (x : Rv) (S : Sto) : Option (List D × Gs) := match x with
  | .new xs => some (xs, [])
  | .val (.rol xs) => some (xs, [])
  | .val (.loc n) => match S[n]? with
    | some (.lst xs) => some (xs, [(n, .lst xs)])
    | _ => none
  | .val (.tup xs) => some (xs, [])
  | .val (.tuf xs) => some (xs, [])
  | _ => none
def isTup (x : Rv) : Bool := (tupX x).isSome
theorem isTup_iff {x : Rv} : isTup x = true ↔ ∃ ys, tupX x = some ys := by
  unfold isTup
  exact Option.isSome_iff_exists
def srV (f : ExM) : SrM := fun env S => bnd (f env S) fun x S1 => match srcOf x S1 with
  | some s => .ok s S1
  | none => .bad
section
variable {G : Gm} {E : XK} {μ : Mp} {H H0 : Hp} {S : Sto} {X : Cx}
/-- how a list or a tuple reads through what follows -/
theorem src_ok {x : Rv} {v : V} {xs : List D} {gs : Gs} (w : Wd G μ H S) (r : Rx G H0 μ H x v) (h : srcOf x S = some (xs, gs)) (nt : isTup x = false) :
    ∃ a, v = .ref a ∧ (∃ vs, SqL G.K H a vs) ∧ ∀ μ2 H2 S2, Le μ H μ2 H2 → Wd G μ2 H2 S2 → gok gs S2 = true → ∃ vs, SqL G.K H2 a vs ∧ Rs G μ2 H2 xs vs := by
  unfold srcOf at h
  split at h
  · cases h
    obtain ⟨a, vs, e, ha, hn, _, rs⟩ := r
    exact ⟨a, e, ⟨vs, .of ha⟩, fun μ2 H2 S2 l w2 _ => ⟨vs, .of (l.kept _ _ ha hn), l.rs w rs⟩⟩
  · cases h
    cases r with
    | @rol _ a vs hs rs => exact ⟨a, rfl, ⟨vs, hs.l⟩, fun μ2 H2 S2 l w2 _ => ⟨vs, (l.sqF w hs).l, l.rs w rs⟩⟩
  · rename_i n
    cases r with
    | @loc n a hn =>
      split at h
      · rename_i ys e
        cases h
        obtain ⟨vs, ha, rs⟩ := w.obj n a _ hn e
        refine ⟨a, rfl, ⟨vs, .of ha⟩, fun μ2 H2 S2 l w2 g => ?_⟩
        have e2 : S2[n]? = some (.lst xs) := by
          have := List.all_eq_true.mp g (n, .lst xs) (List.mem_singleton.mpr rfl)
          exact of_decide_eq_true this
        obtain ⟨ws, hb, rs2⟩ := w2.obj n a _ (l.mono _ _ hn) e2
        exact ⟨ws, .of hb, rs2⟩
      · cases h
  · cases nt
  · cases nt
  · cases h
theorem Wk.list {a : Addr} {xs : List D} {gs : Gs} (k : ∀ μ2 H2 S2, Le μ H μ2 H2 → Wd G μ2 H2 S2 → gok gs S2 = true → ∃ vs, SqL G.K H2 a vs ∧ Rs G μ2 H2 xs vs) : Wk G (Itl G.K a) xs gs μ H := fun i μ2 H2 S2 l w2 g => by
  obtain ⟨vs, hs, rs⟩ := k μ2 H2 S2 l w2 g
  refine ⟨fun hi => ⟨vs, hs, by rw [← rs.length]; exact hi⟩, fun d hd => ?_⟩
  obtain ⟨v, hv, rv⟩ := rs.get hd
  refine ⟨⟨vs, v, hs, hv⟩, fun x H3 y => ?_⟩
  obtain ⟨rfl, y⟩ := y
  have e : v = x := Option.some.inj (hv.symm.trans (y vs hs))
  subst e
  exact ⟨Le.refl, w2, rv⟩
theorem Wk.tup {a : Addr} {xs : List D} {vs : List V} {gs : Gs} (w : Wd G μ H S) (hs : SqT G.K H a vs) (rs : Rs G μ H xs vs) : Wk G (Itt G.K a) xs gs μ H := fun i μ2 H2 S2 l w2 g => by
  have hs := l.sqT w hs
  have rs := l.rs w rs
  refine ⟨fun hi => ⟨vs, hs, by rw [← rs.length]; exact hi⟩, fun d hd => ?_⟩
  obtain ⟨v, hv, rv⟩ := rs.get hd
  refine ⟨⟨vs, v, hs, hv⟩, fun x H3 y => ?_⟩
  obtain ⟨rfl, y⟩ := y
  have e : v = x := Option.some.inj (hv.symm.trans (y vs hs))
  subst e
  exact ⟨Le.refl, w2, rv⟩
theorem Wk.up {J : It} {xs : List D} {gs : Gs} {μ1 : Mp} {H1 : Hp} (l : Le μ H μ1 H1) (k : Wk G J xs gs μ H) : Wk G J xs gs μ1 H1 := fun i μ2 H2 S2 l2 w2 g => k i μ2 H2 S2 (l.trans l2) w2 g
variable {tg e a b : Expr} {fa fb : ExM}
theorem di_seq (hK : X.K = G.K) (ha : PE X e (tD G E fa)) : PI X tg e (tSr G E (srV fa)) :=
  PI.wk (PI.or (pi_list ha) (pi_tup ha)) fun σ H Rr ⟨μ, S, env, w, er, h⟩ => by
    unfold srV at h
    have h := post_bnd.1 h
    have hx : (∃ x S1, fa env S = .ok x S1 ∧ ∃ xs gs, srcOf x S1 = some (xs, gs)) ∨ ∃ e S1, fa env S = .exc e S1 := by
      cases q : fa env S with
      | ok x S1 =>
        rw [q] at h
        have h : Post (match srcOf x S1 with
          | some s => Res.ok s S1
          | none => .bad) _ _ := h
        split at h
        · rename_i s es
          exact .inl ⟨x, S1, rfl, s.1, s.2, es⟩
        · exact h.elim
      | exc e S1 => exact .inr ⟨e, S1, rfl⟩
      | bad => rw [q] at h; exact h.elim
    rcases hx with ⟨x, S1, q, xs, gs, es⟩ | ⟨e, S1, q⟩
    · rw [q] at h
      have h : Post (match srcOf x S1 with
          | some s => Res.ok s S1
          | none => .bad) _ _ := h
      rw [es] at h
      have key : ∀ {P Q : V → Hp → Prop}, (∀ v H1 μ1, Le μ H μ1 H1 → Wd G μ1 H1 S1 → Rx G H μ1 H1 x v → P v H1) → tD G E fa σ H P := fun {P Q} k => ⟨μ, S, env, w, er, by rw [q]; exact fun v H1 μ1 l1 w1 r => k v H1 μ1 l1 w1 r⟩
      by_cases ht : isTup x = true
      · obtain ⟨ys, hy⟩ := isTup_iff.mp ht
        have ey : xs = ys := by rcases tupX_val hy with rfl | rfl <;> cases es <;> rfl
        subst ey
        refine .inr (key (Q := fun _ _ => True) fun v H1 μ1 l1 w1 r => ?_)
        obtain ⟨a, vs, rfl, hs, rs⟩ := tupX_ok r hy
        rw [hK]
        exact ⟨a, rfl, ⟨vs, hs⟩, h _ H1 μ1 l1 w1 (Wk.tup w1 hs rs)⟩
      · refine .inl (key (Q := fun _ _ => True) fun v H1 μ1 l1 w1 r => ?_)
        obtain ⟨a, e3, k1, k2⟩ := src_ok w1 r es (by simpa using ht)
        rw [hK]
        exact ⟨a, e3, k1, h _ H1 μ1 l1 w1 (Wk.list k2)⟩
    · refine .inl ⟨μ, S, env, w, er, by rw [q] at h ⊢; exact h⟩
end
end Bz

set_option Elab.async false
set_option linter.all false
set_option maxRecDepth 100000
set_option maxHeartbeats 2000000
/-! Bz, sixth part: range, zip, texts walked; targets; comprehensions. -/
namespace Bz
open PySem PySem.Spec PyProof.Rows L2 RZ
section
variable {G : Gm} {E : XK} {μ : Mp} {H H0 : Hp} {S : Sto} {X : Cx} {tg e a b : Expr} {fa fb : ExM} {p pos : Pos}
def rngI (lo : Int) (n : Nat) : List D := (List.range n).map fun (i : Nat) => D.int (lo + (i : Int))
def srR1 (fa : ExM) : SrM := fun env S => bnd (fa env S) fun x S1 => match x with
  | .val (.int j) => if -(2 ^ 60) ≤ j ∧ j < 2 ^ 60 then .ok (rngI 0 j.toNat, []) S1 else .bad
  | _ => .bad
def srR2 (fa fb : ExM) : SrM := fun env S => bnd (fa env S) fun x S1 => bnd (fb env S1) fun y S2 => match x, y with
  | .val (.int i), .val (.int j) => if (-(2 ^ 60) ≤ i ∧ i < 2 ^ 60) ∧ -(2 ^ 60) ≤ j ∧ j < 2 ^ 60 then .ok (rngI i (j - i).toNat, []) S2 else .bad
  | _, _ => .bad
theorem rngI_get {lo : Int} {n i : Nat} {d : D} (h : (rngI lo n)[i]? = some d) : i < n ∧ d = .int (lo + (i : Int)) := by
  unfold rngI at h
  rw [List.getElem?_map] at h
  obtain ⟨k, h1, h2⟩ := Option.map_eq_some_iff.mp h
  obtain ⟨h3, h4⟩ := List.getElem?_eq_some_iff.mp h1
  rw [List.getElem_range] at h4
  subst h4
  exact ⟨by simpa using h3, h2.symm⟩
theorem Wk.range {lo : Int} {n : Nat} {gs : Gs} : Wk G (Itr lo n) (rngI lo n) gs μ H := fun i μ2 H2 S2 l w2 g => by
  refine ⟨fun hi => show n ≤ i by simpa [rngI] using hi, fun d hd => ?_⟩
  obtain ⟨h1, h2⟩ := rngI_get hd
  subst h2
  refine ⟨h1, fun x H3 y => ?_⟩
  obtain ⟨rfl, rfl⟩ := y
  exact ⟨Le.refl, w2, .int _⟩
theorem di_range1 (hg : Gl X "range") (hm : X.mg "range" = none) (hp : plainE a = true) (ha : PE X a (tD G E fa)) : PI X tg (.Call (.Name "range" p) [a] [] pos) (tSr G E (srR1 fa)) :=
  PI.wk (pi_range1 hg hm (pa_cons ha pa_nil (star_plain hp _ _)) (star_plain hp _ _)) fun σ H Rr ⟨μ, S, env, w, er, h⟩ => tD_go w er (post_bnd.1 h) fun x S1 v H1 μ1 l1 w1 er1 rx h1 => by
    split at h1
    · split at h1
      · rename_i j hj
        cases rx
        exact ⟨j, rfl, by omega, by omega, h1 _ H1 μ1 l1 w1 Wk.range⟩
      · exact h1.elim
    · exact h1.elim
theorem di_range2 (hg : Gl X "range") (hm : X.mg "range" = none) (hp : plainE a = true) (hp2 : plainE b = true) (ha : PE X a (tD G E fa)) (hb : PE X b (tD G E fb)) : PI X tg (.Call (.Name "range" p) [a, b] [] pos) (tSr G E (srR2 fa fb)) :=
  PI.wk (pi_range2 hg hm (pa_cons ha (pa_cons hb pa_nil (star_plain hp2 _ _)) (star_plain hp _ _)) (by rw [star_plain hp, star_plain hp2]; rfl) (star_plain hp2 _ _)) fun σ H Rr ⟨μ, S, env, w, er, h⟩ => by
    refine tD_go w er (post_bnd.1 h) fun x S1 v H1 μ1 l1 w1 er1 rx h1 => ?_
    refine tD_go w1 er1 (post_ex l1 (post_bnd.1 h1) fun _ _ z => z) fun y S2 u H2 μ2 l2 w2 er2 ry h2 => ?_
    split at h2
    · split at h2
      · rename_i i j hj
        cases rx; cases ry
        exact ⟨i, j, rfl, by omega, h2 _ H2 μ2 (l1.trans l2) w2 Wk.range⟩
      · exact h2.elim
    · exact h2.elim
/-! ### zip -/
def zipD (xs ys : List D) : List D := (xs.zip ys).map fun p => D.tup [p.1, p.2]
theorem zipD_get {xs ys : List D} {i : Nat} {d : D} (h : (zipD xs ys)[i]? = some d) : ∃ x y, xs[i]? = some x ∧ ys[i]? = some y ∧ d = .tup [x, y] := by
  unfold zipD at h
  rw [List.getElem?_map] at h
  obtain ⟨k, h1, h2⟩ := Option.map_eq_some_iff.mp h
  obtain ⟨h3, h4⟩ := List.getElem?_zip_eq_some.mp h1
  exact ⟨k.1, k.2, h3, h4, h2.symm⟩
def srZ (fa fb : ExM) : SrM := fun env S => bnd (fa env S) fun x S1 => bnd (fb env S1) fun y S2 => match srcOf x S2, srcOf y S2 with
  | some s, some t => if isTup x = isTup y then .ok (zipD s.1 t.1, s.2 ++ t.2) S2 else .bad
  | _, _ => .bad
theorem gok_append {gs hs : Gs} (h : gok (gs ++ hs) S = true) : gok gs S = true ∧ gok hs S = true := by
  unfold gok at h ⊢
  rw [List.all_append, Bool.and_eq_true] at h
  exact h
theorem Wk.zip {a b : Addr} {xs ys : List D} {gs hs : Gs} (k : ∀ μ2 H2 S2, Le μ H μ2 H2 → Wd G μ2 H2 S2 → gok gs S2 = true → ∃ vs, SqL G.K H2 a vs ∧ Rs G μ2 H2 xs vs) (k' : ∀ μ2 H2 S2, Le μ H μ2 H2 → Wd G μ2 H2 S2 → gok hs S2 = true → ∃ vs, SqL G.K H2 b vs ∧ Rs G μ2 H2 ys vs) :
    Wk G (Itz G.K a b) (zipD xs ys) (gs ++ hs) μ H := fun i μ2 H2 S2 l w2 g => by
  obtain ⟨g1, g2⟩ := gok_append g
  obtain ⟨vs, hv, rv⟩ := k μ2 H2 S2 l w2 g1
  obtain ⟨ws, hw, rw'⟩ := k' μ2 H2 S2 l w2 g2
  refine ⟨fun hi => ⟨vs, ws, hv, hw, ?_⟩, fun d hd => ?_⟩
  · have : (zipD xs ys).length = min xs.length ys.length := by simp [zipD]
    rw [this, rv.length, rw'.length] at hi
    omega
  · obtain ⟨x, y, hx, hy, rfl⟩ := zipD_get hd
    obtain ⟨v, ev, r1⟩ := rv.get hx
    obtain ⟨u, eu, r2⟩ := rw'.get hy
    refine ⟨⟨vs, ws, v, u, hv, hw, ev, eu⟩, fun z H3 q => ?_⟩
    obtain ⟨T, x', y', rfl, hT, rfl, q1, q2⟩ := q
    have e1 : v = x' := Option.some.inj (ev.symm.trans (q1 vs hv))
    have e2 : u = y' := Option.some.inj (eu.symm.trans (q2 ws hw))
    subst e1 e2
    exact ⟨Le.laid hT, w2.laid hT, R.fresh w2 hT (.cons r1 (.one r2))⟩
theorem Wk.zipT {a b : Addr} {xs ys : List D} {vs ws : List V} {gs : Gs} (w : Wd G μ H S) (hv : SqT G.K H a vs) (rv : Rs G μ H xs vs) (hw : SqT G.K H b ws) (rw' : Rs G μ H ys ws) : Wk G (ItzT G.K a b) (zipD xs ys) gs μ H := fun i μ2 H2 S2 l w2 g => by
  have hv := l.sqT w hv
  have rv := l.rs w rv
  have hw := l.sqT w hw
  have rw' := l.rs w rw'
  refine ⟨fun hi => ⟨vs, ws, hv, hw, ?_⟩, fun d hd => ?_⟩
  · have : (zipD xs ys).length = min xs.length ys.length := by simp [zipD]
    rw [this, rv.length, rw'.length] at hi
    omega
  · obtain ⟨x, y, hx, hy, rfl⟩ := zipD_get hd
    obtain ⟨v, ev, r1⟩ := rv.get hx
    obtain ⟨u, eu, r2⟩ := rw'.get hy
    refine ⟨⟨vs, ws, v, u, hv, hw, ev, eu⟩, fun z H3 q => ?_⟩
    obtain ⟨T, x', y', rfl, hT, rfl, q1, q2⟩ := q
    have e1 : v = x' := Option.some.inj (ev.symm.trans (q1 vs hv))
    have e2 : u = y' := Option.some.inj (eu.symm.trans (q2 ws hw))
    subst e1 e2
    exact ⟨Le.laid hT, w2.laid hT, R.fresh w2 hT (.cons r1 (.one r2))⟩
theorem src_tup {x : Rv} {v : V} {xs : List D} {gs : Gs} (r : Rx G H0 μ H x v) (h : srcOf x S = some (xs, gs)) (ht : isTup x = true) : ∃ a vs, v = .ref a ∧ SqT G.K H a vs ∧ Rs G μ H xs vs := by
  obtain ⟨ys, hy⟩ := isTup_iff.mp ht
  have ey : xs = ys := by rcases tupX_val hy with rfl | rfl <;> cases h <;> rfl
  subst ey
  exact tupX_ok r hy
theorem di_zip {elts : List Expr} {kk : Nat} {tpos : Pos} (hK : X.K = G.K) (hg : Gl X "zip") (hm : X.mg "zip" = none) (hp : plainE a = true) (hp2 : plainE b = true) (ha : PE X a (tD G E fa)) (hb : PE X b (tD G E fb)) :
    PI X (.Tuple elts kk tpos) (.Call (.Name "zip" p) [a, b] [] pos) (tSr G E (srZ fa fb)) :=
  PI.wk (pi_zipA hg hm (pa_cons ha (pa_cons hb pa_nil (star_plain hp2 _ _)) (star_plain hp _ _)) (star_plain hp _ _) (star_any pos _ (es := [b]) (by simp [hp2]))) fun σ H Rr ⟨μ, S, env, w, er, h⟩ => by
    refine tD_go w er (post_bnd.1 h) fun x S1 v H1 μ1 l1 w1 er1 rx h1 => ?_
    refine tD_go w1 er1 (post_ex l1 (post_bnd.1 h1) fun _ _ z => z) fun y S2 u H2 μ2 l2 w2 er2 ry h2 => ?_
    split at h2
    · rename_i s t es et
      split at h2
      · rename_i hi
        have rx := l2.rx w1 rx
        have l := l1.trans l2
        rw [hK]
        by_cases hx : isTup x = true
        · obtain ⟨a', vs, e1, hs, rs⟩ := src_tup rx es hx
          obtain ⟨b', ws, e2, ht, rt⟩ := src_tup ry et (hi ▸ hx)
          subst e1 e2
          exact ⟨a', b', vs, ws, rfl, .inr ⟨hs, ht, h2 _ H2 μ2 l w2 (Wk.zipT w2 hs rs ht rt)⟩⟩
        · obtain ⟨a', e1, ⟨vs, hs⟩, k⟩ := src_ok w2 rx es (by simpa using hx)
          obtain ⟨b', e2, ⟨ws, ht⟩, k'⟩ := src_ok w2 ry et (by rw [← hi]; simpa using hx)
          subst e1 e2
          exact ⟨a', b', vs, ws, rfl, .inl ⟨hs, ht, h2 _ H2 μ2 l w2 (Wk.zip k k')⟩⟩
      · exact h2.elim
    · exact h2.elim
/-! ### a text, sign by sign -/
def signs (x : Str) : List D := x.cps.toList.map fun c => D.str ⟨#[c]⟩
def srS (fa : ExM) : SrM := fun env S => bnd (fa env S) fun x S1 => match x with
  | .val (.str z) => .ok (signs z, []) S1
  | _ => .bad
theorem Wk.str {z : Str} {gs : Gs} : Wk G (Its z) (signs z) gs μ H := fun i μ2 H2 S2 l w2 g => by
  refine ⟨fun hi => show z.cps.size ≤ i by simpa [signs] using hi, fun d hd => ?_⟩
  unfold signs at hd
  rw [List.getElem?_map] at hd
  obtain ⟨c, h1, h2⟩ := Option.map_eq_some_iff.mp hd
  subst h2
  have h1 : z.cps[i]? = some c := by rw [← Array.getElem?_toList]; exact h1
  refine ⟨(Array.getElem?_eq_some_iff.mp h1).1, fun x H3 y => ?_⟩
  obtain ⟨rfl, c', h3, rfl⟩ := y
  rw [h1] at h3
  cases h3
  exact ⟨Le.refl, w2, .str _⟩
theorem di_str (ha : PE X e (tD G E fa)) : PI X tg e (tSr G E (srS fa)) :=
  PI.wk (pi_str ha) fun σ H Rr ⟨μ, S, env, w, er, h⟩ => tD_go w er (post_bnd.1 h) fun x S1 v H1 μ1 l1 w1 er1 rx h1 => by
    split at h1
    · rename_i z
      cases rx
      exact ⟨z, rfl, h1 _ H1 μ1 l1 w1 Wk.str⟩
    · exact h1.elim
/-- any value that is walked -/
def srA (fa : ExM) : SrM := fun env S => bnd (fa env S) fun x S1 => match x with
  | .val (.str z) => .ok (signs z, []) S1
  | x => match srcOf x S1 with
    | some s => .ok s S1
    | none => .bad
theorem di_any (hK : X.K = G.K) (ha : PE X e (tD G E fa)) : PI X tg e (tSr G E (srA fa)) :=
  PI.wk (PI.or (di_str ha) (di_seq hK ha)) fun σ H Rr ⟨μ, S, env, w, er, h⟩ => by
    unfold srA at h
    cases q : fa env S with
    | ok x S1 =>
      rw [q] at h
      by_cases hx : ∃ z, x = .val (.str z)
      · obtain ⟨z, rfl⟩ := hx
        exact .inl ⟨μ, S, env, w, er, by unfold srS; rw [q]; exact h⟩
      · refine .inr ⟨μ, S, env, w, er, ?_⟩
        unfold srV
        rw [q]
        have h : Post (match x with
          | .val (.str z) => Res.ok (signs z, []) S1
          | x => match srcOf x S1 with
            | some s => .ok s S1
            | none => .bad) _ _ := h
        split at h
        · exact absurd ⟨_, rfl⟩ hx
        · exact h
    | exc e S1 => exact .inl ⟨μ, S, env, w, er, by unfold srS; rw [q] at h ⊢; exact h⟩
    | bad => rw [q] at h; exact h.elim
end

/-! ### targets -/
abbrev TgM := D → Env → Sto → Res Env
abbrev TgsM := List D → Env → Sto → Res Env
def offT (ts : List Nat) (σ σ' : L2.St) : Prop := σ'.length = σ.length ∧ ∀ i, i ∉ ts → σ'[i]? = σ[i]?
def tTg (G : Gm) (E : XK) (ts : List Nat) (f : TgM) : TG := fun v σ H Q => ∃ μ S env d, Wd G μ H S ∧ EnvR G μ H env σ ∧ R G μ H d v ∧ Post (f d env S) (fun env' S' => ∀ σ' H' μ', Le μ H μ' H' → Wd G μ' H' S' → EnvR G μ' H' env' σ' → offT ts σ σ' → Q σ' H') (ExP G E μ H)
def tTgs (G : Gm) (E : XK) (ts : List Nat) (f : TgsM) : TGs := fun vs σ H Q => ∃ μ S env ds, Wd G μ H S ∧ EnvR G μ H env σ ∧ Rs G μ H ds vs ∧ Post (f ds env S) (fun env' S' => ∀ σ' H' μ', Le μ H μ' H' → Wd G μ' H' S' → EnvR G μ' H' env' σ' → offT ts σ σ' → Q σ' H') (ExP G E μ H)
section
variable {G : Gm} {E : XK} {μ : Mp} {H H0 : Hp} {S : Sto} {X : Cx}
theorem PG.wk {e : Expr} {t t' : TG} (h : PG X e t) (k : ∀ v σ H Q, t' v σ H Q → t v σ H Q) : PG X e t' := ⟨fun pins s σ H v u Q I r q => h.run pins s σ H v u Q I r (k v σ H Q q)⟩
theorem PGs.wk {e : List Expr} {t t' : TGs} (h : PGs X e t) (k : ∀ v σ H Q, t' v σ H Q → t v σ H Q) : PGs X e t' := ⟨fun pins s σ H v u Q I r q => h.run pins s σ H v u Q I r (k v σ H Q q)⟩
def gNm (i : Nat) : TgM := fun d env S => if i < env.length then .ok (env.set i (some d)) S else .bad
theorem EnvR.set {env : Env} {σ : L2.St} {i : Nat} {d : D} {v : V} (er : EnvR G μ H env σ) (r : R G μ H d v) : EnvR G μ H (env.set i (some d)) (σ.set i (some v)) := by
  refine ⟨by simp [er.1], fun j d' e => ?_⟩
  by_cases hj : i = j
  · subst hj
    by_cases hi : i < env.length
    · rw [List.getElem?_set_self hi] at e
      cases e
      exact ⟨v, by rw [List.getElem?_set_self (by rw [← er.1]; exact hi)], r⟩
    · rw [List.getElem?_eq_none (by simpa using hi)] at e; cases e
  · rw [List.getElem?_set_ne hj] at e
    obtain ⟨v', e', r'⟩ := er.2 j d' e
    exact ⟨v', by rw [List.getElem?_set_ne hj]; exact e', r'⟩
theorem offT.set {σ : L2.St} {i : Nat} {v : Option V} {ts : List Nat} (h : i ∈ ts) : offT ts σ (σ.set i v) := ⟨by simp, fun j hj => List.getElem?_set_ne fun z => hj (by rw [← z]; exact h)⟩
theorem offT.trans {σ σ1 σ2 : L2.St} {ts us : List Nat} (h : offT ts σ σ1) (h' : offT us σ1 σ2) : offT (ts ++ us) σ σ2 := ⟨h'.1.trans h.1, fun j hj => (h'.2 j fun z => hj (List.mem_append_right _ z)).trans (h.2 j fun z => hj (List.mem_append_left _ z))⟩
theorem dg_name {i : Nat} {x : Str} {pos : Pos} (h : PG X (.Name x pos) (gName i)) : PG X (.Name x pos) (tTg G E [i] (gNm i)) := PG.wk h fun v σ H Q ⟨μ, S, env, d, w, er, r, h⟩ => by
  unfold gNm at h
  split at h
  · exact h _ H μ Le.refl w (er.set r) (offT.set (by simp))
  · exact h.elim
def gsNil : TgsM := fun ds env S => if ds = [] then .ok env S else .bad
def gsCons (f : TgM) (g : TgsM) : TgsM := fun ds env S => match ds with
  | d :: r => bnd (f d env S) fun env1 S1 => g r env1 S1
  | [] => .bad
theorem dgs_nil : PGs X [] (tTgs G E [] gsNil) := PGs.wk pgs_nil fun vs σ H Q ⟨μ, S, env, ds, w, er, r, h⟩ => by
  unfold gsNil at h
  split at h
  · rename_i e
    subst e
    cases r
    exact ⟨rfl, h σ H μ Le.refl w er ⟨rfl, fun _ _ => rfl⟩⟩
  · exact h.elim
theorem dgs_cons {e : Expr} {es : List Expr} {f : TgM} {g : TgsM} {ts us : List Nat} (hs : (assignEach (e :: es) X.env).map (·.2) = assign e X.env :: (assignEach es X.env).map (·.2)) (h1 : PG X e (tTg G E ts f)) (h2 : PGs X es (tTgs G E us g)) : PGs X (e :: es) (tTgs G E (ts ++ us) (gsCons f g)) :=
  PGs.wk (pgs_cons h1 h2 hs) fun vs σ H Q ⟨μ, S, env, ds, w, er, r, h⟩ => by
    unfold gsCons at h
    split at h
    · rename_i d ds
      cases r with
      | @cons _ v _ vr r rr =>
        refine ⟨v, vr, rfl, μ, S, env, d, w, er, r, (post_bnd.1 h).imp (fun env1 S1 h1 σ1 H1 μ1 l1 w1 er1 o1 => ⟨μ1, S1, env1, ds, w1, er1, l1.rs w rr, post_ex l1 h1 fun env2 S2 h2 σ2 H2 μ2 l2 w2 er2 o2 => h2 σ2 H2 μ2 (l1.trans l2) w2 er2 (o1.trans o2)⟩) fun _ _ z => z⟩
    · exact h.elim
def gTp (n : Nat) (g : TgsM) : TgM := fun d env S => match d with
  | .tup ds => if ds.length = n then g ds env S else .bad
  | .tuf ds => if ds.length = n then g ds env S else .bad
  | _ => .bad
theorem dg_tup {es : List Expr} {k n : Nat} {pos : Pos} {g : TgsM} {ts : List Nat} (hK : X.K = G.K) (hc : X.calm = true) (hn : (assignEach es X.env).length = n) (hst : (assignEach es X.env).findIdx? (·.1) = none) (h : PGs X es (tTgs G E ts g)) :
    PG X (.Tuple es k pos) (tTg G E ts (gTp n g)) := PG.wk (pg_tup hc h hn hst) fun v σ H Q ⟨μ, S, env, d, w, er, r, h⟩ => by
  unfold gTp at h
  split at h
  · split at h
    · rename_i ds hl
      cases r with
      | @tup _ a vs hs rs => exact ⟨a, vs, rfl, by rw [hK]; exact SqT.of hs, by rw [← rs.length]; exact hl, μ, S, env, ds, w, er, rs, h⟩
    · exact h.elim
  · split at h
    · rename_i ds hl
      cases r with
      | @tuf _ a vs hs rs => obtain ⟨o, _, hs⟩ := hs; exact ⟨a, vs, rfl, by rw [hK]; exact .inl (.inr ⟨o, hs⟩), by rw [← rs.length]; exact hl, μ, S, env, ds, w, er, rs, h⟩
    · exact h.elim
  · exact h.elim
end
end Bz

set_option Elab.async false
set_option linter.all false
set_option maxRecDepth 100000
set_option maxHeartbeats 2000000
/-! Bz, seventh part: comprehensions of lists. -/
namespace Bz
open PySem PySem.Spec PyProof.Rows L2

/-- no exception comes out of a comprehension -/
def noex {α : Type} (r : Res α) : Res α := match r with
  | .exc _ _ => .bad
  | r => r
theorem post_noex {α : Type} {r : Res α} {P : α → Sto → Prop} {Q Q' : Exn → Sto → Prop} (h : Post (noex r) P Q) : Post r P Q' := by
  cases r with
  | ok a S => exact h
  | exc e S => exact h.elim
  | bad => exact h
/-- nothing is wanted of an exception: none leaves -/
abbrev X0 : XK := fun _ _ _ => False
section
variable {G : Gm} {E : XK} {μ μ' : Mp} {H H' H0 : Hp} {S S' : Sto} {X : Cx}
theorem Le.out {p : Addr} {o : HO} (l : Le μ H μ' H') (h : H p = none) : Le μ H μ' (upd H' p o) where
  mono := l.mono
  new := l.new
  kept := fun a u e q => by rw [upd_ne (ne_of_none e h)]; exact l.kept a u e q
  frz := fun a u x e => by rw [upd_ne (ne_of_none e h)]; exact l.frz a u x e
  trk := fun a u e => by rw [upd_ne (ne_of_none e h)]; exact l.trk a u e
theorem Rs.out {p : Addr} {o : HO} {acc : List V} {ds : List D} {vs : List V} (h : H p = some (.lst acc)) (r : Rs G μ H ds vs) : Rs G μ (upd H p o) ds vs := r.outs h rfl
theorem Wd.out {p : Addr} {o : HO} {acc : List V} (w : Wd G μ H S) (h : H p = some (.lst acc)) (hn : ∀ n, μ n ≠ some p) : Wd G μ (upd H p o) S := w.outs h rfl hn
def wipeE (env : Env) : List Nat → Env
  | [] => env
  | v :: vs => (wipeE env vs).set v none
theorem wipeE_len (env : Env) : ∀ vs : List Nat, (wipeE env vs).length = env.length
  | [] => rfl
  | v :: vs => by unfold wipeE; rw [List.length_set, wipeE_len env vs]
theorem wipe_get {σ : L2.St} {j : Nat} : ∀ {vs : List Nat}, (wipe σ vs)[j]? = if j ∈ vs then (if j < σ.length then some none else none) else σ[j]?
  | [] => by simp [wipe]
  | v :: vs => by
    unfold wipe
    by_cases e : v = j
    · subst e
      rw [if_pos (by simp)]
      by_cases hv : v < σ.length
      · rw [if_pos hv, List.getElem?_set_self (by rw [wipe_length]; exact hv)]
      · rw [if_neg hv, List.getElem?_eq_none (by rw [List.length_set, wipe_length]; omega)]
    · rw [List.getElem?_set_ne e, wipe_get (vs := vs)]
      have e' : j ≠ v := fun z => e z.symm
      simp [e']
theorem wipe_off {σ σ' : L2.St} {ts vs : List Nat} (o : offT ts (wipe σ vs) σ') (h : ∀ i ∈ ts, i ∈ vs) : wipe σ' vs = wipe σ vs := by
  refine List.ext_getElem? fun j => ?_
  have hl : σ'.length = σ.length := o.1.trans (wipe_length σ vs)
  rw [wipe_get, wipe_get, hl]
  by_cases hj : j ∈ vs
  · rw [if_pos hj, if_pos hj]
  · rw [if_neg hj, if_neg hj, o.2 j fun z => hj (h j z), wipe_get, if_neg hj]
theorem EnvR.wipe {env : Env} {σ : L2.St} (er : EnvR G μ H env σ) : ∀ vs : List Nat, EnvR G μ H (wipeE env vs) (wipe σ vs)
  | [] => er
  | v :: vs => by
    have ih := EnvR.wipe er vs
    refine ⟨by rw [wipeE_len, wipe_length]; exact er.1, fun i d e => ?_⟩
    unfold wipeE at e
    unfold L2.wipe
    by_cases hv : v = i
    · subst hv
      by_cases hi : v < (wipeE env vs).length
      · rw [List.getElem?_set_self hi] at e; cases e
      · rw [List.getElem?_eq_none (by simpa using hi)] at e; cases e
    · rw [List.getElem?_set_ne hv] at e
      rw [List.getElem?_set_ne hv]
      exact ih.2 i d e
end

def lcGo (gs : Gs) (tg : TgM) (ts : TsM) (fe : ExM) (env0 : Env) : List D → Sto → Res (List D)
  | [], S => if gok gs S = true then .ok [] S else .bad
  | x :: xs, S => if gok gs S = true then
      bnd (noex (tg x env0 S)) fun env1 S1 => bnd (noex (ts env1 S1)) fun k S2 =>
        if k = true then bnd (noex (fe env1 S2)) fun y S3 => bnd (stl y S3) fun d S4 => bnd (lcGo gs tg ts fe env0 xs S4) fun ds S5 => .ok (d :: ds) S5
        else lcGo gs tg ts fe env0 xs S2
    else .bad
def eLc (own : List Nat) (src : SrM) (tg : TgM) (ts : TsM) (fe : ExM) : ExM := fun env S => bnd (src env S) fun s S1 =>
  if s.1.length < big then bnd (lcGo s.2 tg ts fe (wipeE env own) s.1 S1) fun ds S2 => .ok (.new ds) S2 else .bad
def tsYes : TsM := fun _ S => .ok true S
section
variable {G : Gm} {E : XK} {μ μ' : Mp} {H H' H0 : Hp} {S S' : Sto} {X : Cx}
theorem dts_nil : PTs X [] (tTs G E tsYes) := ⟨fun pins s σ H Q I h => pts_nil.run pins s σ H Q I (by
  obtain ⟨μ, S, env, w, er, h⟩ := h
  exact h H μ Le.refl w)⟩
theorem tLc_of {src : SrM} {tgm : TgM} {tsm : TsM} {fe : ExM} {tl vs : List Nat} (hl : ∀ i ∈ tl, i ∈ vs) {σ : L2.St} {H : Hp} {Q : VK} (h : tD G E (eLc vs src tgm tsm fe) σ H Q) : tLc (tSr G E src) (tTg G X0 tl tgm) (tTs G X0 tsm) (tD G X0 fe) vs σ H Q := by
  obtain ⟨μ, S, env, w, er, h⟩ := h
  refine ⟨μ, S, env, w, er, (post_bnd.1 h).imp (fun s S1 h1 J H1 μ1 l1 w1 wk D hD => ?_) fun _ _ z => z⟩
  obtain ⟨items, gs⟩ := s
  by_cases hbig : items.length < big
  · have h1 : Post (if items.length < big then _ else Res.bad) _ _ := h1
    rw [if_pos hbig] at h1
    have h1 := post_bnd.1 h1
    have h0D : H D = none := l1.free hD
    refine ⟨fun i m Hh => ∃ μ2 S2 acc accD, Le μ H μ2 Hh ∧ Le μ1 H1 μ2 Hh ∧ Wd G μ2 Hh S2 ∧ Hh D = some (.lst acc) ∧ (∀ n, μ2 n ≠ some D) ∧ Rs G μ2 Hh accD acc ∧ acc.length ≤ i ∧ i ≤ items.length ∧ m = items.length - i ∧
      Post (lcGo gs tgm tsm fe (wipeE env vs) (items.drop i) S2) (fun ds S' => Gd G μ H Q (.new (accD ++ ds)) S') (ExP G E μ H), ⟨items.length, μ1, S1, [], [], l1.trans (Le.laid hD), Le.laid hD, w1.laid hD, upd_same, w1.free hD, .nil, Nat.le_refl _, Nat.zero_le _, rfl, ?_⟩, ?_⟩
    · rw [List.drop_zero]
      exact h1
    · rintro i m Hh ⟨μ2, S2, acc, accD, la, lb, w2, hDh, hnD, rs, hlen, hi, rfl, hp⟩
      by_cases hlt : i < items.length
      · refine .inr ?_
        rw [List.drop_eq_getElem_cons hlt] at hp
        unfold lcGo at hp
        by_cases g : gok gs S2 = true
        · rw [if_pos g] at hp
          obtain ⟨_, kd⟩ := wk i μ2 Hh S2 lb w2 g
          obtain ⟨go, yl⟩ := kd items[i] (List.getElem?_eq_getElem hlt)
          refine ⟨go, fun H' => ∃ m', m' < items.length - i ∧ ∃ μ2 S2 acc accD, Le μ H μ2 H' ∧ Le μ1 H1 μ2 H' ∧ Wd G μ2 H' S2 ∧ H' D = some (.lst acc) ∧ (∀ n, μ2 n ≠ some D) ∧ Rs G μ2 H' accD acc ∧ acc.length ≤ i + 1 ∧ i + 1 ≤ items.length ∧ m' = items.length - (i + 1) ∧
            Post (lcGo gs tgm tsm fe (wipeE env vs) (items.drop (i + 1)) S2) (fun ds S' => Gd G μ H Q (.new (accD ++ ds)) S') (ExP G E μ H), fun H' q => q, fun x H3 y => ?_⟩
          obtain ⟨l3, w3, r3⟩ := yl x H3 y
          have er3 : EnvR G μ2 H3 (wipeE env vs) (wipe σ vs) := ((la.trans l3).envR w er).wipe vs
          refine ⟨μ2, S2, wipeE env vs, items[i], w3, er3, r3, (post_noex (post_bnd.1 hp)).imp (fun env4 S4 h4 σ4 H4 μ4 l4 w4 er4 o4 => ⟨wipe_off o4 hl, ?_⟩) fun _ _ z => z⟩
          refine ⟨μ4, S4, env4, w4, er4, (post_noex (post_bnd.1 h4)).imp (fun k S5 h5 H5 μ5 l5 w5 => ?_) fun _ _ z => z⟩
          have L5 : Le μ2 Hh μ5 H5 := (l3.trans l4).trans l5
          have hD5 : H5 D = some (.lst acc) := L5.kept _ _ hDh hnD
          have hn5 : ∀ n, μ5 n ≠ some D := fun n z => by
            rcases L5.new n D z with q | q
            · exact hnD n q
            · rw [q] at hDh; cases hDh
          cases k with
          | true =>
            refine iteT ?_
            rw [if_pos rfl] at h5
            refine ⟨μ5, S5, env4, w5, l5.envR w4 er4, (post_noex (post_bnd.1 h5)).imp (fun y S6 h6 v H6 μ6 l6 w6 r6 => ?_) fun _ _ z => z⟩
            obtain ⟨d, S7, μ7, e7, l7, w7, r7, m7⟩ := stl_ok l6 w6 r6
            rw [e7] at h6
            have h6 : Post (bnd (lcGo gs tgm tsm fe (wipeE env vs) (items.drop (i + 1)) S7) fun ds S5 => .ok (d :: ds) S5) _ _ := h6
            have L7 : Le μ2 Hh μ7 H6 := L5.trans l7
            have hD7 : H6 D = some (.lst acc) := L7.kept _ _ hDh hnD
            have hn7 : ∀ n, μ7 n ≠ some D := fun n z => by
              rcases L7.new n D z with q | q
              · exact hnD n q
              · rw [q] at hDh; cases hDh
            refine ⟨acc, hD7, big_lt (by omega), items.length - (i + 1), by omega, μ7, S7, acc ++ [v], accD ++ [d], (la.trans L7).out h0D, (lb.trans L7).out hD, w7.out hD7 hn7, upd_same, hn7, ((L7.rs w2 rs).append (.one r7)).out hD7, ?_, by omega, rfl, ?_⟩
            · rw [List.length_append, List.length_singleton]; omega
            · refine (post_bnd.1 h6).imp (fun ds S8 h8 => ?_) fun _ _ z => z
              rw [List.append_assoc]
              exact h8
          | false =>
            refine iteF ?_
            rw [if_neg Bool.false_ne_true] at h5
            exact ⟨items.length - (i + 1), by omega, μ5, S5, acc, accD, la.trans L5, lb.trans L5, w5, hD5, hn5, L5.rs w2 rs, by omega, by omega, rfl, h5⟩
        · rw [if_neg g] at hp
          exact hp.elim
      · have e : i = items.length := by omega
        subst e
        rw [List.drop_length] at hp
        unfold lcGo at hp
        by_cases g : gok gs S2 = true
        · rw [if_pos g] at hp
          have hp : Gd G μ H Q (.new (accD ++ [])) S2 := hp
          rw [List.append_nil] at hp
          exact .inl ⟨(wk items.length μ2 Hh S2 lb w2 g).1 (Nat.le_refl _), hp _ Hh μ2 la w2 ⟨D, acc, rfl, hDh, hnD, h0D, rs⟩⟩
        · rw [if_neg g] at hp
          exact hp.elim
  · have h1 : Post (if items.length < big then _ else Res.bad) _ _ := h1
    rw [if_neg hbig] at h1
    exact h1.elim
end
end Bz

set_option Elab.async false
set_option linter.all false
set_option maxRecDepth 100000
set_option maxHeartbeats 2000000
/-! Bz, eighth part: statements. -/
namespace Bz
open PySem PySem.Spec PyProof.Rows L2

inductive Fl where
  | nx (env : Env) | rt (d : D) | bk (env : Env) | ct (env : Env)
abbrev StM := Env → Sto → Res Fl
def GdF (G : Gm) (μ : Mp) (H : Hp) (Z : Ends) : Fl → Sto → Prop := fun fl S' => ∀ H' μ', Le μ H μ' H' → Wd G μ' H' S' → match fl with
  | .nx env' => ∀ σ', EnvR G μ' H' env' σ' → Z.nx σ' H'
  | .bk env' => ∀ σ', EnvR G μ' H' env' σ' → Z.bk σ' H'
  | .ct env' => ∀ σ', EnvR G μ' H' env' σ' → Z.ct σ' H'
  | .rt d => ∀ v, R G μ' H' d v → Z.rt v H'
def tSt (G : Gm) (E : XK) (f : StM) : TS := fun Z σ H => ∃ μ S env, Wd G μ H S ∧ EnvR G μ H env σ ∧ Post (f env S) (GdF G μ H Z) (ExP G E μ H)
section
variable {G : Gm} {E : XK} {μ μ' μ1 : Mp} {H H' H1 H0 : Hp} {S S' : Sto} {X : Cx} {e a b : Expr} {fa fb fe : ExM} {pos : Pos} {st : Stmt} {rest : List Stmt} {f g : StM} {env : Env} {σ : L2.St}
theorem GdF.up {Z : Ends} (l : Le μ H μ1 H1) {x : Fl} (h : GdF G μ H Z x S) : GdF G μ1 H1 Z x S := fun H' μ' l' w => h H' μ' (l.trans l') w
theorem PS.wk {t t' : TS} (h : PS X st t) (k : ∀ Z σ H, t' Z σ H → t Z σ H) : PS X st t' := ⟨fun pins s σ H Z I q => h.run pins s σ H Z I (k Z σ H q)⟩
theorem PSs.wk {t t' : TS} (h : PSs X rest t) (k : ∀ Z σ H, t' Z σ H → t Z σ H) : PSs X rest t' := ⟨fun pins s σ H Z I q => h.run pins s σ H Z I (k Z σ H q)⟩
def sNil : StM := fun env S => .ok (.nx env) S
def sSeq (f g : StM) : StM := fun env S => bnd (f env S) fun fl S1 => match fl with
  | .nx env1 => g env1 S1
  | fl => .ok fl S1
theorem ds_nil : PSs X [] (tSt G E sNil) := PSs.wk pss_nil fun Z σ H ⟨μ, S, env, w, er, h⟩ => h H μ Le.refl w σ er
theorem ds_cons (h1 : PS X st (tSt G E f)) (h2 : PSs X rest (tSt G E g)) : PSs X (st :: rest) (tSt G E (sSeq f g)) := PSs.wk (pss_cons h1 h2) fun Z σ H ⟨μ, S, env, w, er, h⟩ => by
  refine ⟨μ, S, env, w, er, (post_bnd.1 h).imp (fun fl S1 h1 H1 μ1 l1 w1 => ?_) fun _ _ z => z⟩
  cases fl with
  | nx env1 => exact fun σ1 er1 => ⟨μ1, S1, env1, w1, er1, post_ex l1 h1 fun _ _ z => z.up l1⟩
  | rt d => exact h1 H1 μ1 l1 w1
  | bk env1 => exact h1 H1 μ1 l1 w1
  | ct env1 => exact h1 H1 μ1 l1 w1
def sPass : StM := fun env S => .ok (.nx env) S
def sBreak : StM := fun env S => .ok (.bk env) S
def sCont : StM := fun env S => .ok (.ct env) S
theorem ds_pass : PS X (.Pass pos) (tSt G E sPass) := PS.wk ps_pass fun Z σ H ⟨μ, S, env, w, er, h⟩ => h H μ Le.refl w σ er
theorem ds_break : PS X (.Break pos) (tSt G E sBreak) := PS.wk ps_break fun Z σ H ⟨μ, S, env, w, er, h⟩ => h H μ Le.refl w σ er
theorem ds_cont : PS X (.Continue pos) (tSt G E sCont) := PS.wk ps_continue fun Z σ H ⟨μ, S, env, w, er, h⟩ => h H μ Le.refl w σ er
def sExpr (fe : ExM) : StM := fun env S => bnd (fe env S) fun _ S1 => .ok (.nx env) S1
theorem ds_expr (hs : swapsWith e none pos.line X.env = pure false) (he : PE X e (tD G E fe)) : PS X (.Expr e pos) (tSt G E (sExpr fe)) := PS.wk (ps_expr he hs) fun Z σ H ⟨μ, S, env, w, er, h⟩ =>
  tD_go w er (post_bnd.1 h) fun x S1 v H1 μ1 l1 w1 er1 rx h1 => h1 H1 μ1 l1 w1 σ er1
def sRet (fe : ExM) : StM := fun env S => bnd (fe env S) fun x S1 => bnd (stl x S1) fun d S2 => .ok (.rt d) S2
theorem ds_ret (he : PE X e (tD G E fe)) : PS X (.Return (some e) pos) (tSt G E (sRet fe)) := PS.wk (ps_ret he) fun Z σ H ⟨μ, S, env, w, er, h⟩ =>
  tD_go w er (post_bnd.1 h) fun x S1 v H1 μ1 l1 w1 er1 rx h1 => by
    obtain ⟨d, S2, μ2, e2, l2, w2, r2, _⟩ := stl_ok l1 w1 rx
    rw [e2] at h1
    exact h1 H1 μ2 l2 w2 v r2
def sRetN : StM := fun _ S => .ok (.rt .non) S
theorem ds_retN : PS X (.Return none pos) (tSt G E sRetN) := PS.wk ps_retN fun Z σ H ⟨μ, S, env, w, er, h⟩ => h H μ Le.refl w .non .non
def sIf (t : TsM) (f g : StM) : StM := fun env S => bnd (t env S) fun k S1 => if k = true then f env S1 else g env S1
theorem ds_if {c : Expr} {xs ys : List Stmt} {tc : TsM} (hc : PT X c (tTs G E tc)) (ha : PSs X xs (tSt G E f)) (hb : PSs X ys (tSt G E g)) : PS X (.If c xs ys pos) (tSt G E (sIf tc f g)) := PS.wk (ps_if hc ha hb) fun Z σ H ⟨μ, S, env, w, er, h⟩ =>
  tTs_go w er (post_bnd.1 h) fun k S1 H1 μ1 l1 w1 er1 h1 => by
    cases k with
    | true => exact iteT ⟨μ1, S1, env, w1, er1, post_ex l1 h1 fun _ _ z => z.up l1⟩
    | false => exact iteF ⟨μ1, S1, env, w1, er1, post_ex l1 h1 fun _ _ z => z.up l1⟩
/-- target = value -/
def sAsg (fe : ExM) (tg : TgM) : StM := fun env S => bnd (fe env S) fun x S1 => bnd (stl x S1) fun d S2 => bnd (tg d env S2) fun env1 S3 => .ok (.nx env1) S3
theorem asg_of {tg : TgM} {ts : List Nat} {Z : Ends} (h : tSt G E (sAsg fe tg) Z σ H) : tAsg (tD G E fe) (tTg G E ts tg) Z σ H := by
  obtain ⟨μ, S, env, w, er, h⟩ := h
  refine tD_go w er (post_bnd.1 h) fun x S1 v H1 μ1 l1 w1 er1 rx h1 => ?_
  obtain ⟨d, S2, μ2, e2, l2, w2, r2, m2⟩ := stl_ok l1 w1 rx
  rw [e2] at h1
  have h1 : Post (bnd (tg d env S2) fun env1 S3 => .ok (.nx env1) S3) (GdF G μ H Z) (ExP G E μ H) := h1
  exact ⟨μ2, S2, env, d, w2, l2.envR w er, r2, (post_bnd.1 h1).imp (fun env1 S3 h3 σ3 H3 μ3 l3 w3 er3 _ => h3 H3 μ3 (l2.trans l3) w3 σ3 er3) fun _ _ z => z.up l2⟩
theorem ds_asg {t : Expr} {tg : TgM} {ts : List Nat} (hs : swapsWithSole [t] e pos.line X.env = pure false) (hw : swappedStores [t] e X.env = pure none) (h1 : (assignEach [t] X.env).map (·.2) = [assign t X.env]) (he : PE X e (tD G E fe)) (hg : PG X t (tTg G E ts tg)) :
    PS X (.Assign [t] e pos) (tSt G E (sAsg fe tg)) := PS.wk (ps_asg he hg hs hw h1) fun Z σ H h => asg_of h
theorem gName_of {i : Nat} {v : V} {Q : L2.St → Hp → Prop} (h : tTg G E [i] (gNm i) v σ H Q) : gName i v σ H Q := by
  obtain ⟨μ, S, env, d, w, er, r, h⟩ := h
  unfold gNm at h
  split at h
  · exact h _ H μ Le.refl w (er.set r) (offT.set (by simp))
  · exact h.elim
theorem tD_mono {Q Q' : VK} (h : tD G E fe σ H Q) (k : ∀ v H1, Q v H1 → Q' v H1) : tD G E fe σ H Q' := by
  obtain ⟨μ, S, env, w, er, h⟩ := h
  exact ⟨μ, S, env, w, er, h.imp (fun x S1 g v H1 μ1 l1 w1 r => k v H1 (g v H1 μ1 l1 w1 r)) fun _ _ z => z⟩
theorem set_of {i : Nat} {Z : Ends} (h : tSt G E (sAsg fe (gNm i)) Z σ H) : tAsg (tD G E fe) (gName i) Z σ H :=
  tD_mono (asg_of (ts := [i]) h) fun v H1 q => gName_of (E := E) q
theorem ds_set {i : Nat} {x : Str} {pos' : Pos} (hN : X.N.Nodup) (hi : X.N[i]? = some x) (hx : Loc X.env.scope x) (hf : X.fn x = true ∨ X.env.scope.names.lookup x = some .local) (hs : swapsWith e (some (.Name x pos')) pos.line X.env = pure false) (he : PE X e (tD G E fe)) :
    PS X (.Assign [.Name x pos'] e pos) (tSt G E (sAsg fe (gNm i))) := PS.wk (ps_set hN hi hx he hs hf) fun Z σ H h => set_of h
theorem ds_setLc {i : Nat} {y : Str} {py : Pos} {elt tg iter : Expr} {ifs : List Expr} {scope : Scope} {own : List (Str × Nat)} {spos : Pos} {src : SrM} {tgm : TgM} {tsm : TsM} {tl : List Nat} (hc : X.calm = true) (hN : X.N.Nodup) (hy : X.N[i]? = some y) (hyl : X.env.scope.names.lookup y = some .local)
    (hsw : swapsWith (.ListComp elt [⟨tg, iter, ifs, 0⟩] scope pos) (some (.Name y py)) spos.line X.env = pure true) (hi : PI X tg iter (tSr G E src)) (ok : BlkOk X.N X.env.scope scope own)
    (hg : ∀ (s : Shared) (H : Hp) (C : Addr) (cl : List (Str × Addr)) (fp : List Addr), PG (X.blk s H scope (compEnvC scope cl C X.env) fp) tg (tTg G X0 tl tgm)) (ht : ∀ (s : Shared) (H : Hp) (C : Addr) (cl : List (Str × Addr)) (fp : List Addr), PTs (X.blk s H scope (compEnvC scope cl C X.env) fp) ifs (tTs G X0 tsm))
    (he : ∀ (s : Shared) (H : Hp) (C : Addr) (cl : List (Str × Addr)) (fp : List Addr), PE (X.blk s H scope (compEnvC scope cl C X.env) fp) elt (tD G X0 fe)) (hs : ∀ x, foldedSetIterable iter X.env x = pure x) (hl : ∀ i ∈ tl, i ∈ own.map (·.2)) :
    PS X (.Assign [.Name y py] (.ListComp elt [⟨tg, iter, ifs, 0⟩] scope pos) spos) (tSt G E (sAsg (eLc (own.map (·.2)) src tgm tsm fe) (gNm i))) :=
  PS.wk (ps_setLc hc hN hy hyl hsw hi ok hg ht he hs) fun Z σ H h => tLc_of hl (set_of h)
theorem de_lc {tg iter elt : Expr} {ifs : List Expr} {scope : Scope} {own : List (Str × Nat)} {src : SrM} {tgm : TgM} {tsm : TsM} {tl : List Nat} (hc : X.calm = true) (hN : X.N.Nodup) (hi : PI X tg iter (tSr G E src)) (ok : BlkOk X.N X.env.scope scope own)
    (hg : ∀ (s : Shared) (H : Hp) (C : Addr) (cl : List (Str × Addr)) (fp : List Addr), PG (X.blk s H scope (compEnvC scope cl C X.env) fp) tg (tTg G X0 tl tgm)) (ht : ∀ (s : Shared) (H : Hp) (C : Addr) (cl : List (Str × Addr)) (fp : List Addr), PTs (X.blk s H scope (compEnvC scope cl C X.env) fp) ifs (tTs G X0 tsm))
    (he : ∀ (s : Shared) (H : Hp) (C : Addr) (cl : List (Str × Addr)) (fp : List Addr), PE (X.blk s H scope (compEnvC scope cl C X.env) fp) elt (tD G X0 fe)) (hs : ∀ x, foldedSetIterable iter X.env x = pure x) (hl : ∀ i ∈ tl, i ∈ own.map (·.2)) :
    PE X (.ListComp elt [⟨tg, iter, ifs, 0⟩] scope pos) (tD G E (eLc (own.map (·.2)) src tgm tsm fe)) :=
  PE.wk (pe_lc hc hN hi ok hg ht he hs) fun σ H Q h => tLc_of hl h
/-- d[k] = value -/
def setDk (o i : Rv) (d : D) (S : Sto) : Res Unit := match i with
  | .val k => (match putD o k d S with
    | some S' => .ok () S'
    | none => .bad)
  | _ => .bad
/-- o[i] = value, o a list or a dict -/
def setL (o : Rv) (i : Rv) (d : D) (S : Sto) : Res Unit := match i with
  | .val (.int k) => match o with
    | .val (.loc n) => match S[n]? with
      | some (.lst xs) => (match ixN xs.length k with
        | some j => .ok () (S.set n (.lst (xs.set j d)))
        | none => .bad)
      | _ => setDk o i d S
    | _ => .bad
  | _ => setDk o i d S
def rSetD : V → V → V → Hp → (Hp → Prop) → Prop := fun o i v H Q => ∃ a H', o = .ref a ∧ DPut H a i v H' ∧ Q H'
theorem set_dict {X : Cx} (hu : X.A.units + 64 < cLine) : PSet X fun o i v H Q => rSetL o i v H Q ∨ rSetD o i v H Q := fun pins s σ H o i v ov iv u Q I ro ri rv h => by
  rcases h with h | ⟨a, H', e, g, q⟩
  · exact set_list pins s σ H o i v ov iv u Q I ro ri rv h
  · subst e
    cases ro
    exact d_setItem (by omega) I g ri rv fun s' I' => ⟨H', I', q⟩
theorem setDk_ok {o i : Rv} {d : D} {ov iv v : V} {H0 H00 : Hp} {Q : Hp → Prop} {QE : Exn → Sto → Prop} (w : Wd G μ H S) (ro : Rx G H0 μ H o ov) (ri : Rx G H00 μ H i iv) (r : R G μ H d v) (h : Post (setDk o i d S) (fun _ S' => ∀ H' μ', Le μ H μ' H' → Wd G μ' H' S' → Q H') QE) : rSetD ov iv v H Q := by
  unfold setDk at h
  split at h
  · split at h
    · rename_i S' e
      obtain ⟨a, H', e1, g, l, w'⟩ := putD_ok w ro ri r e
      exact ⟨a, H', e1, g, h H' μ l w'⟩
    · exact h.elim
  · exact h.elim
theorem setL_ok {o i : Rv} {d : D} {ov iv v : V} {H0 H00 : Hp} {Q : Hp → Prop} {QE : Exn → Sto → Prop} (w : Wd G μ H S) (ro : Rx G H0 μ H o ov) (ri : Rx G H00 μ H i iv) (r : R G μ H d v) (h : Post (setL o i d S) (fun _ S' => ∀ H' μ', Le μ H μ' H' → Wd G μ' H' S' → Q H') QE) : rSetL ov iv v H Q ∨ rSetD ov iv v H Q := by
  unfold setL at h
  split at h
  · have ri' := ri
    cases ri
    split at h
    · have ro' := ro
      cases ro with
      | @loc n a hn =>
        split at h
        · rename_i xs e
          split at h
          · rename_i j ej
            obtain ⟨vs, ha, rs⟩ := w.obj _ a _ hn e
            exact .inl ⟨a, vs, _, j, rfl, rfl, ha, by rw [← rs.length]; exact ej, h _ μ (Le.write hn ha) (w.write hn ha (rs.set r j))⟩
          · exact h.elim
        · exact .inr (setDk_ok w ro' ri' r h)
    · exact h.elim
  · exact .inr (setDk_ok w ro ri r h)
/-- a target o[i] -/
def gSb (st : Rv → Rv → D → Sto → Res Unit) (fo fi : ExM) : TgM := fun d env S => bnd (fo env S) fun o S1 => bnd (fi env S1) fun i S2 => bnd (st o i d S2) fun _ S3 => .ok env S3
theorem dg_sub {o i : Expr} {fo fi : ExM} (hu : X.A.units + 64 < cLine) (hp : plainE i = true) (ho : PE X o (tD G E fo)) (hi : PE X i (tD G E fi)) : PG X (.Subscript o i pos) (tTg G E [] (gSb setL fo fi)) :=
  PG.wk (pg_sub ho hi (set_dict hu) (by intro v; cases i <;> first | rfl | (simp [plainE] at hp))) fun v σ H Q ⟨μ, S, env, d, w, er, r, h⟩ => by
    refine tD_go w er (post_bnd.1 h) fun x S1 xv H1 μ1 l1 w1 er1 rx h1 => ?_
    refine tD_go w1 er1 (post_ex l1 (post_bnd.1 h1) fun _ _ z => z) fun y S2 yv H2 μ2 l2 w2 er2 ry h2 => ?_
    have l := l1.trans l2
    refine setL_ok w2 (l2.rx w1 rx) (l1.rx0 ry) (l.r w r) ((post_bnd.1 h2).imp (fun _ S3 h3 H3 μ3 l3 w3 => ?_) fun _ _ z => z)
    exact h3 σ H3 μ3 (l.trans l3) w3 ((l.trans l3).envR w er) ⟨rfl, fun _ _ => rfl⟩
/-- a, b = x, y: stored from the right -/
def sPar2 (i j : Nat) (fa : ArM) : StM := fun env S => bnd (fa env S) fun ds S1 => match ds with
  | [d, e] => if i < env.length ∧ j < env.length then .ok (.nx ((env.set i (some d)).set j (some e))) S1 else .bad
  | _ => .bad
theorem par2_of {i j : Nat} {ga : ArM} {Z : Ends} (h : tSt G E (sPar2 i j ga) Z σ H) : tPar i j (tAr G E ga) Z σ H := by
  obtain ⟨μ, S, env, w, er, h⟩ := h
  refine tAr_go w er (post_bnd.1 h) fun ds S1 vs H1 μ1 l1 w1 er1 rs h1 => ?_
  split at h1
  · split at h1
    · cases rs with
      | @cons _ v _ _ r1 rs =>
        cases rs with
        | @cons _ u _ _ r2 rs =>
          cases rs
          exact ⟨v, u, rfl, h1 H1 μ1 l1 w1 _ ((er1.set r1).set r2)⟩
    · exact h1.elim
  · exact h1.elim
def sPar3 (i j l : Nat) (fa : ArM) : StM := fun env S => bnd (fa env S) fun ds S1 => match ds with
  | [d, e, f] => if i < env.length ∧ j < env.length ∧ l < env.length then .ok (.nx (((env.set i (some d)).set j (some e)).set l (some f))) S1 else .bad
  | _ => .bad
theorem par3_of {i j l : Nat} {ga : ArM} {Z : Ends} (h : tSt G E (sPar3 i j l ga) Z σ H) : tPar3 i j l (tAr G E ga) Z σ H := by
  obtain ⟨μ, S, env, w, er, h⟩ := h
  refine tAr_go w er (post_bnd.1 h) fun ds S1 vs H1 μ1 l1 w1 er1 rs h1 => ?_
  split at h1
  · split at h1
    · cases rs with
      | @cons _ v _ _ r1 rs =>
        cases rs with
        | @cons _ u _ _ r2 rs =>
          cases rs with
          | @cons _ t _ _ r3 rs =>
            cases rs
            exact ⟨v, u, t, rfl, h1 H1 μ1 l1 w1 _ (((er1.set r1).set r2).set r3)⟩
    · exact h1.elim
  · exact h1.elim
/-- name op= value -/
def sAug (i : Nat) (g : Rv → Rv → Sto → Res Rv) (fe : ExM) : StM := fun env S => match env[i]? with
  | some (some d) => bnd (fe env S) fun y S1 => bnd (g (.val d) y S1) fun z S2 => bnd (stl z S2) fun d2 S3 => if i < env.length then .ok (.nx (env.set i (some d2))) S3 else .bad
  | _ => .bad
theorem ds_aug {i : Nat} {x : Str} {op : Operator} {r : R2} {g : Rv → Rv → Sto → Res Rv} {pos' : Pos} (hN : X.N.Nodup) (hi : X.N[i]? = some x) (hx : Loc X.env.scope x) (hf : X.fn x = true ∨ X.env.scope.names.lookup x = some .local) (ho : OpR X (inplaceOp op) r) (o : OkOp G E r g) (he : PE X e (tD G E fe)) :
    PS X (.AugAssign (.Name x pos') op e pos) (tSt G E (sAug i g fe)) := PS.wk (ps_aug hN hi hx he ho hf) fun Z σ H ⟨μ, S, env, w, er, h⟩ => by
  unfold sAug at h
  split at h
  · rename_i d ed
    obtain ⟨v, ev, rv⟩ := er.2 i d ed
    refine ⟨v, ev, ?_⟩
    refine tD_go w er (post_bnd.1 h) fun y S1 u H1 μ1 l1 w1 er1 ry h1 => ?_
    refine o (.val d) y S1 v u μ1 H1 H _ _ w1 (l1.r w rv) ry ((post_bnd.1 h1).imp (fun z S2 h2 z' H2 μ2 l2 w2 rz => ?_) fun _ _ z => z)
    have l := l1.trans l2
    obtain ⟨d2, S3, μ3, e3, l3, w3, r3, _⟩ := stl_ok l w2 (l1.rx0 rz)
    rw [e3] at h2
    have h2 : Post (if i < env.length then .ok (.nx (env.set i (some d2))) S3 else .bad) (GdF G μ H Z) (ExP G E μ H) := h2
    split at h2
    · exact h2 H2 μ3 l3 w3 _ ((l3.envR w er).set r3)
    · exact h2.elim
  · exact h.elim
/-- d[k] op= e -/
def sAugD (g : Rv → Rv → Sto → Res Rv) (fo fi fe : ExM) : StM := fun env S => bnd (fo env S) fun x S1 => bnd (fi env S1) fun k S2 => match k with
  | .val kd => bnd (getR x (.val kd) S2) fun c S3 => bnd (fe env S3) fun y S4 => bnd (g c y S4) fun z S5 => bnd (stl z S5) fun d2 S6 => (match putD x kd d2 S6 with
    | some S7 => .ok (.nx env) S7
    | none => .bad)
  | _ => .bad
theorem getR_get {x y : Rv} {v u : V} {H0 H00 : Hp} {P : Rv → Sto → Prop} {QE : Exn → Sto → Prop} (w : Wd G μ H S) (rx : Rx G H0 μ H x v) (ry : Rx G H00 μ H y u) (q : Post (getR x y S) P QE) : ∃ a d z, v = .ref a ∧ DGet H a u (some z) ∧ R G μ H d z ∧ P (.val d) S := by
  unfold getR at q
  split at q
  · rename_i d e
    obtain ⟨a, ov, e1, g, h⟩ := lookD_ok w rx ry e
    rcases h with ⟨h, _⟩ | ⟨d', v', h1, h2, r⟩
    · cases h
    · cases h1
      subst h2
      exact ⟨a, d, v', e1, g, r, q⟩
  · exact q.elim
theorem ds_augD {o i : Expr} {op : Operator} {r : R2} {g : Rv → Rv → Sto → Res Rv} {fo fi : ExM} {tpos : Pos} (hu : X.A.units + 64 < cLine) (hp : plainE i = true) (hop : OpR X (inplaceOp op) r) (hg : OkOp G E r g) (ho : PE X o (tD G E fo)) (hi : PE X i (tD G E fi)) (he : PE X e (tD G E fe)) :
    PS X (.AugAssign (.Subscript o i tpos) op e pos) (tSt G E (sAugD g fo fi fe)) :=
  PS.wk (ps_daug (by omega) ho hi he (fun pins s σ H x y u v Q I rx ry h => hop pins s σ H x y u v Q I rx ry h) (by intro _ _ _; cases i <;> first | rfl | (simp [plainE] at hp))) fun Z σ H ⟨μ, S, env, w, er, h⟩ => by
    refine tD_go w er (post_bnd.1 h) fun x S1 xv H1 μ1 l1 w1 er1 rx h1 => ?_
    refine tD_go w1 er1 (post_ex l1 (post_bnd.1 h1) fun _ _ z => z) fun k S2 kv H2 μ2 l2 w2 er2 rk h2 => ?_
    have l12 := l1.trans l2
    have rx2 := l2.rx w1 rx
    split at h2
    · rename_i kd
      obtain ⟨a, d, z, e1, gg, rz, h3⟩ := getR_get w2 rx2 rk (post_bnd.1 h2)
      refine ⟨a, z, e1, gg, ?_⟩
      refine tD_go w2 er2 (post_ex l12 (post_bnd.1 h3) fun _ _ z => z) fun y S4 yv H4 μ4 l4 w4 er4 ry h4 => ?_
      have l14 := l12.trans l4
      refine hg (.val d) y S4 z yv μ4 H4 H2 _ _ w4 (l4.r w2 rz) ry ((post_bnd.1 h4).imp (fun zz S5 h5 z' H5 μ5 l5 w5 rzz => ?_) fun _ _ z => z)
      have l15 := l14.trans l5
      obtain ⟨d2, S6, μ6, e6, l6, w6, r6, m6⟩ := stl_ok l15 w5 (l12.rx0 (l4.rx0 rzz))
      rw [e6] at h5
      have h5 : Post (match putD x kd d2 S6 with
        | some S7 => .ok (.nx env) S7
        | none => .bad) (GdF G μ H Z) (ExP G E μ H) := h5
      split at h5
      · rename_i S7 e7
        have rk6 : R G μ6 H5 kd kv := (l5.r w4 (l4.r w2 rk)).mono m6 (fun _ _ q => q) fun _ _ _ q => q
        have rx6 : Rx G H5 μ6 H5 x xv := by
          cases x with
          | new xs => cases e7
          | newk xs => cases e7
          | newt xs => cases e7
          | val xd => exact (l5.r w4 (l4.r w2 rx2)).mono m6 (fun _ _ q => q) fun _ _ _ q => q
        obtain ⟨a', H6, e8, g8, l8, w8⟩ := putD_ok w6 rx6 rk6 r6 e7
        rw [e1] at e8
        cases e8
        exact ⟨H6, g8, h5 H6 μ6 (l6.trans l8) w8 _ ((l6.trans l8).envR w er)⟩
      · exact h5.elim
    · exact h2.elim
end

/-! ### loops -/
def forGo (gs : Gs) (tg : TgM) (body : StM) : List D → Env → Sto → Res Fl
  | [], env, S => if gok gs S = true then .ok (.nx env) S else .bad
  | x :: xs, env, S => if gok gs S = true then
      bnd (tg x env S) fun env1 S1 => bnd (body env1 S1) fun fl S2 => match fl with
        | .nx env2 => forGo gs tg body xs env2 S2
        | .ct env2 => forGo gs tg body xs env2 S2
        | .bk env2 => .ok (.nx env2) S2
        | .rt d => .ok (.rt d) S2
    else .bad
def sFor (src : SrM) (tg : TgM) (body : StM) : StM := fun env S => bnd (src env S) fun s S1 => forGo s.2 tg body s.1 env S1
def whGo (t : TsM) (body : StM) : Nat → Env → Sto → Res Fl
  | 0, _, _ => .bad
  | n + 1, env, S => bnd (t env S) fun k S1 => if k = true then bnd (body env S1) fun fl S2 => match fl with
        | .nx env2 => whGo t body n env2 S2
        | .ct env2 => whGo t body n env2 S2
        | .bk env2 => .ok (.nx env2) S2
        | .rt d => .ok (.rt d) S2
      else .ok (.nx env) S1
def sWhile (t : TsM) (body : StM) : StM := fun env S => whGo t body big env S
section
variable {G : Gm} {E : XK} {X : Cx} {pos : Pos}
theorem ds_for {tg iter : Expr} {body : List Stmt} {src : SrM} {tgm : TgM} {f : StM} {ts : List Nat} (hp : PassesOwn (model X.prog X.w) X.A X.env X.xe) (hc : X.calm = true) (hi : PI X tg iter (tSr G E src)) (hg : PG X tg (tTg G E ts tgm)) (hb : PSs X body (tSt G E f))
    (hs : ∀ x, foldedSetIterable iter X.env x = pure x) : PS X (.For tg iter body [] pos) (tSt G E (sFor src tgm f)) := PS.wk (ps_for hp hc hi hg hb hs) fun Z σ H ⟨μ, S, env, w, er, h⟩ => by
  refine ⟨μ, S, env, w, er, (post_bnd.1 h).imp (fun s S1 h1 J H1 μ1 l1 w1 wk => ?_) fun _ _ z => z⟩
  obtain ⟨items, gs⟩ := s
  have h1 : Post (forGo gs tgm f items env S1) (GdF G μ H Z) (ExP G E μ H) := h1
  refine ⟨fun i m σ' Hh => ∃ μ2 S2 env2, Le μ H μ2 Hh ∧ Le μ1 H1 μ2 Hh ∧ Wd G μ2 Hh S2 ∧ EnvR G μ2 Hh env2 σ' ∧ i ≤ items.length ∧ m = items.length - i ∧ Post (forGo gs tgm f (items.drop i) env2 S2) (GdF G μ H Z) (ExP G E μ H),
    ⟨items.length, μ1, S1, env, l1, Le.refl, w1, l1.envR w er, Nat.zero_le _, rfl, by rw [List.drop_zero]; exact h1⟩, ?_⟩
  rintro i m σ' Hh ⟨μ2, S2, env2, la, lb, w2, er2, hi, rfl, hp⟩
  by_cases hlt : i < items.length
  · refine .inr ?_
    rw [List.drop_eq_getElem_cons hlt] at hp
    unfold forGo at hp
    by_cases g : gok gs S2 = true
    · rw [if_pos g] at hp
      obtain ⟨_, kd⟩ := wk i μ2 Hh S2 lb w2 g
      obtain ⟨go, yl⟩ := kd items[i] (List.getElem?_eq_getElem hlt)
      refine ⟨go, fun σ' H' => ∃ m', m' < items.length - i ∧ ∃ μ2 S2 env2, Le μ H μ2 H' ∧ Le μ1 H1 μ2 H' ∧ Wd G μ2 H' S2 ∧ EnvR G μ2 H' env2 σ' ∧ i + 1 ≤ items.length ∧ m' = items.length - (i + 1) ∧ Post (forGo gs tgm f (items.drop (i + 1)) env2 S2) (GdF G μ H Z) (ExP G E μ H),
        fun _ _ q => q, fun x H3 y => ?_⟩
      obtain ⟨l3, w3, r3⟩ := yl x H3 y
      have la3 := la.trans l3
      refine ⟨μ2, S2, env2, items[i], w3, l3.envR w2 er2, r3, (post_bnd.1 hp).imp (fun env4 S4 h4 σ4 H4 μ4 l4 w4 er4 o4 => ?_) fun _ _ z => z.up la3⟩
      have la4 := la3.trans l4
      refine ⟨μ4, S4, env4, w4, er4, (post_bnd.1 h4).imp (fun fl S5 h5 H5 μ5 l5 w5 => ?_) fun _ _ z => z.up la4⟩
      have la5 := la4.trans l5
      have lb5 := ((lb.trans l3).trans l4).trans l5
      cases fl with
      | nx env5 => exact fun σ5 er5 => ⟨items.length - (i + 1), by omega, μ5, S5, env5, la5, lb5, w5, er5, by omega, rfl, h5⟩
      | ct env5 => exact fun σ5 er5 => ⟨items.length - (i + 1), by omega, μ5, S5, env5, la5, lb5, w5, er5, by omega, rfl, h5⟩
      | bk env5 => exact fun σ5 er5 => h5 H5 μ5 la5 w5 σ5 er5
      | rt d => exact fun v r => h5 H5 μ5 la5 w5 v r
    · rw [if_neg g] at hp
      exact hp.elim
  · have e : i = items.length := by omega
    subst e
    rw [List.drop_length] at hp
    unfold forGo at hp
    by_cases g : gok gs S2 = true
    · rw [if_pos g] at hp
      exact .inl ⟨(wk items.length μ2 Hh S2 lb w2 g).1 (Nat.le_refl _), hp Hh μ2 la w2 σ' er2⟩
    · rw [if_neg g] at hp
      exact hp.elim
theorem ds_while {c : Expr} {body : List Stmt} {t : TsM} {f : StM} (hp : PassesOwn (model X.prog X.w) X.A X.env X.xe) (hc : PT X c (tTs G E t)) (hb : PSs X body (tSt G E f)) : PS X (.While c body [] pos) (tSt G E (sWhile t f)) := PS.wk (ps_while hp hc hb) fun Z σ H ⟨μ, S, env, w, er, h⟩ => by
  refine ⟨fun m σ' Hh => ∃ μ2 S2 env2, Le μ H μ2 Hh ∧ Wd G μ2 Hh S2 ∧ EnvR G μ2 Hh env2 σ' ∧ Post (whGo t f m env2 S2) (GdF G μ H Z) (ExP G E μ H), ⟨big, μ, S, env, Le.refl, w, er, h⟩, ?_⟩
  rintro m σ' Hh ⟨μ2, S2, env2, la, w2, er2, hp⟩
  cases m with
  | zero => exact hp.elim
  | succ n =>
    refine ⟨μ2, S2, env2, w2, er2, (post_bnd.1 hp).imp (fun k S3 h3 H3 μ3 l3 w3 => ?_) fun _ _ z => z.up la⟩
    have la3 := la.trans l3
    cases k with
    | true =>
      refine iteT ⟨fun σ' H' => ∃ m', m' < n + 1 ∧ ∃ μ2 S2 env2, Le μ H μ2 H' ∧ Wd G μ2 H' S2 ∧ EnvR G μ2 H' env2 σ' ∧ Post (whGo t f m' env2 S2) (GdF G μ H Z) (ExP G E μ H), fun _ _ q => q, ?_⟩
      rw [if_pos rfl] at h3
      refine ⟨μ3, S3, env2, w3, l3.envR w2 er2, (post_bnd.1 h3).imp (fun fl S5 h5 H5 μ5 l5 w5 => ?_) fun _ _ z => z.up la3⟩
      have la5 := la3.trans l5
      cases fl with
      | nx env5 => exact fun σ5 er5 => ⟨n, Nat.lt_succ_self _, μ5, S5, env5, la5, w5, er5, h5⟩
      | ct env5 => exact fun σ5 er5 => ⟨n, Nat.lt_succ_self _, μ5, S5, env5, la5, w5, er5, h5⟩
      | bk env5 => exact fun σ5 er5 => h5 H5 μ5 la5 w5 σ5 er5
      | rt d => exact fun v r => h5 H5 μ5 la5 w5 v r
    | false =>
      rw [if_neg Bool.false_ne_true] at h3
      exact iteF (h3 H3 μ3 la3 w3 σ' (l3.envR w2 er2))
end
end Bz

set_option Elab.async false
set_option linter.all false
set_option maxRecDepth 100000
set_option maxHeartbeats 2000000
/-! Bz, further expressions: x[::-1], isinstance(x, (A, B)). -/
namespace Bz
open PySem PySem.Spec PyProof.Rows L2
section
variable {prog : Program} {w : World} {A : Around} {E : Value → Shared → Prop} {s : Shared}
theorem places_rev (n : Nat) : Builtin.Slice.slicePlaces ((n : Int) - 1) (-1) (-1) = n := by
  unfold Builtin.Slice.slicePlaces
  rw [if_neg (by decide)]
  split
  · rw [show (-(-1 : Int)) = 1 from rfl, Int.ediv_one]; omega
  · omega
theorem applied_rev {sl : Addr} {vl vu vs : Value} {n : Nat} {Q : Int × Int × Nat → Shared → Prop} (hs : s.heap.IsSliceOf sl vl vu vs) (pl : IsPart vl none) (pu : IsPart vu none) (ps : IsPart vs (some (-1)))
    (h : Q ((n : Int) - 1, -1, n) s) : wpAny (model prog w) A (Builtin.Slice.sliceApplied (.ref sl) (pure (n : Int))) Q E s := by
  obtain ⟨os, h1, h2, h3⟩ := id hs
  unfold Builtin.Slice.sliceApplied Builtin.Slice.sliceFields
  refine wpAny_bind (wpAny_bind (wpAny_field h1 h3 (x := vl) rfl (wpAny_bind (wpAny_field h1 h3 (x := vu) rfl (wpAny_bind (wpAny_field h1 h3 (x := vs) rfl (wpAny_pure ?_)))))))
  refine wpAny_bind (HT.slicePart_ ps ?_)
  show wpAny _ _ (if ((-1 : Int) == 0) = true then _ else _) _ _ s
  rw [if_neg (by decide)]
  refine wpAny_bind (HT.slicePart_ pl (wpAny_bind (HT.slicePart_ pu (wpAny_bind (wpAny_pure ?_)))))
  show wpAny _ _ (pure ((n : Int) - 1, (-1 : Int), Builtin.Slice.slicePlaces ((n : Int) - 1) (-1) (-1))) _ _ s
  rw [places_rev]
  exact wpAny_pure h
theorem pick_rev : ∀ (xs : List Value), ((List.range xs.length).filterMap fun (m : Nat) => xs.toArray[(((xs.length : Int) - 1) + (m : Int) * (-1)).toNat]?) = xs.reverse := fun xs => by
  have h : ∀ k, k ≤ xs.length → ((List.range k).filterMap fun (m : Nat) => xs.toArray[(((xs.length : Int) - 1) + (m : Int) * (-1)).toNat]?) = xs.reverse.take k := by
    intro k
    induction k with
    | zero => intro _; rfl
    | succ k ih =>
      intro hk
      rw [List.range_succ, List.filterMap_append, ih (by omega), List.take_add_one]
      congr 1
      have e : (((xs.length : Int) - 1) + (k : Int) * (-1)).toNat = xs.length - 1 - k := by omega
      rw [List.getElem?_reverse (by omega)]
      simp only [List.filterMap_cons, List.filterMap_nil, e, List.getElem?_toArray]
      rw [List.getElem?_eq_getElem (by omega)]
      rfl
  rw [h xs.length (Nat.le_refl _), List.take_of_length_le (by simp)]
theorem item_tup_rev {t sl : Addr} {its : List Value} {vl vu vs : Value} {Q : Value → Shared → Prop} (ht : IsTup s.heap t its.toArray) (hs : s.heap.IsSliceOf sl vl vu vs) (pl : IsPart vl none) (pu : IsPart vu none) (ps : IsPart vs (some (-1)))
    (h : Q (.ref s.heap.objs.size) { s with heap := s.heap.push { cls := .type "tuple", data := .seq its.reverse.toArray } }) (hsz : its.length ≤ sizeLine) : wpAny (model prog w) A (getItem (.ref t) (.ref sl)) Q E s := by
  have hz : sizeOk (.seq its.reverse.toArray) := by
    show its.reverse.toArray.size ≤ sizeLine
    rw [List.size_toArray, List.length_reverse]
    exact hsz
  obtain ⟨os, h1, h2, h3⟩ := id hs
  have hT : s.TypeIs (.ref sl) "slice" := ⟨os, h1, h2⟩
  unfold getItem
  try with_reducible refine wpAny_holding ?_
  first | refine wpAny_bind (wpAny_pure ?_) | skip
  refine wpAny_bind (wpAny_sequenceKey ht.typeIs (by decide) (wpAny_bind (wpAny_callSpecial?_slot (name := Str.ofString "__getitem__") ht.typeIs PyProof.Rows.slot_tuple_getitem (wpAny_call_entry PyProof.Rows.slot_tuple_getitem ht.typeIs entry_tuple_getitem ?_ (args_tuple_getitem _ _)))))
  show wpAny _ _ (Builtin.Tuple.tupleItemsOf (.ref t) >>= _) _ _ s
  refine wpAny_bind (tupleItemsOf_ ht (wpAny_bind (wpAny_typeOf hT ?_)))
  rw [if_pos (by decide)]
  refine wpAny_bind (applied_rev hs pl pu ps ?_)
  show wpAny _ _ (if (((its.toArray.size : Int) - 1 == 0 && (-1 : Int) == 1 && its.toArray.size == its.toArray.size)) = true then _ else _) _ _ s
  rw [if_neg (by simp)]
  have e : ((List.range its.toArray.size).filterMap fun (m : Nat) => its.toArray[(((its.toArray.size : Int) - 1) + (m : Int) * (-1)).toNat]?) = its.reverse := by
    rw [List.size_toArray]; exact pick_rev its
  rw [e]
  first
    | exact wpAny_bind (m := Builtin.Tuple.tupleExact _) (wpAny_newObj_type (wpAny_pure ⟨_, rfl, wpAny_pure h⟩) hz)
    | exact wpAny_bind (m := Builtin.Tuple.tupleExact _) (wpAny_newObj_type (wpAny_bind (wpAny_pure (wpAny_pure ⟨_, rfl, wpAny_pure h⟩))) hz)
    | exact wpAny_bind (wpAny_bind (m := Builtin.Tuple.tupleExact _) (wpAny_newObj_type (wpAny_pure (wpAny_pure ⟨_, rfl, wpAny_pure h⟩)) hz))
    | exact wpAny_bind (wpAny_bind (m := Builtin.Tuple.tupleExact _) (wpAny_newObj_type (wpAny_pure ⟨_, rfl, wpAny_pure h⟩) hz))
end
variable {G : Gm} {E : XK}
section
variable {X : Cx}
def tRev (K : PySem.W.Frag) (te : TE) : TE := fun σ H Q => te σ H fun x H1 => (∃ a xs, x = .ref a ∧ SqL K H1 a xs ∧ ∀ p, H1 p = none → Q (.ref p) (upd H1 p (.lst xs.reverse))) ∨ (∃ a xs, x = .ref a ∧ SqT K H1 a xs ∧ ∀ p, H1 p = none → Q (.ref p) (upd H1 p (.tup xs.reverse)))
theorem pe_rev {e : Expr} {te : TE} {k : Nat} {p1 p2 p3 pos : Pos} (he : PE X e te) : PE X (.Subscript e (.Slice none none (some (.UnaryOp .USub (.Constant (.int 1) k p1) p2)) p3) pos) (tRev X.K te) := by
  refine ⟨fun pins s σ H Q I h => Subscript_ (thn (he.run pins s σ H _ I h) fun v s1 ⟨x, H1, I1, r1, q1⟩ => ?_)⟩
  have hst : PO X (some (.UnaryOp .USub (.Constant (.int 1) k p1) p2)) (tPart (tUn (rU fun i => .int (-i)) (tC (.int 1)))) := po_some (pe_un un_neg pe_int)
  refine wpAny_Slice (thn (po_none.run pins s1 σ H1 (fun o H2 => o = none ∧ H2 = H1) I1 ⟨rfl, rfl⟩) fun vl s2 ⟨l, H2, I2, pl, el, e2⟩ => ?_)
  cases el; cases e2
  refine thn (po_none.run pins s2 σ H1 (fun o H3 => o = none ∧ H3 = H1) I2 ⟨rfl, rfl⟩) fun vu s3 ⟨u, H3, I3, pu, eu, e3⟩ => ?_
  cases eu; cases e3
  refine thn (hst.run pins s3 σ H1 (fun o H4 => o = some (-1) ∧ H4 = H1) I3 ⟨1, rfl, -1, rfl, rfl, rfl⟩) fun vs s4 ⟨o, H4, I4, ps, eo, e4⟩ => ?_
  cases eo; cases e4
  have I5 : Inv X pins σ H1 { s4 with heap := s4.heap.push { cls := .type "slice", data := .fields #[vl, vu, vs] } } := I4.kept (t' := s4.toks) fun b ob q => Heap.get?_push_of_some _ q
  rcases q1 with ⟨a, xs, ex, hx, q⟩ | ⟨a, xs, ex, hx, q⟩
  · subst ex
    cases r1
    obtain ⟨its, r, ht, hz⟩ := I5.list hx
    have hl := r.length
    refine tail_any (ops := [.ref a, .ref s4.heap.objs.size]) ht.isList.typeIs (PySem.slot_list_getitem.lookup) (wpAny_getItem_list_slice ht.isList (Heap.IsSliceOf.new _ vl vu vs) pl pu ps (by decide) ?_ (by rw [List.size_toArray]; omega)) (by with_unfolding_all rfl)
    rw [PySem.W.krv_pick]
    exact ⟨.ref _, _, I5.laid (t' := s4.toks) (o := .lst xs.reverse) (fun b ob q => Heap.get?_push_of_some _ q) (Nat.le_refl _) ⟨by rw [List.length_reverse]; exact hz, _, 0, r.reverse, Heap.get?_push_size _ rfl⟩, rfl, q _ (I5.hok.fresh (Nat.le_refl _))⟩
  · subst ex
    cases r1
    obtain ⟨its, r, ht, hz⟩ := I5.tuple hx
    have hl := r.length
    refine tail_any (ops := [.ref a, .ref s4.heap.objs.size]) ht.typeIs (PyProof.Rows.slot_tuple_getitem.lookup) (item_tup_rev ht (Heap.IsSliceOf.new _ vl vu vs) pl pu ps ?_ (by omega)) (by with_unfolding_all rfl)
    exact ⟨.ref _, _, I5.laid (t' := s4.toks) (o := .tup xs.reverse) (fun b ob q => Heap.get?_push_of_some _ q) (Nat.le_refl _) ⟨by rw [List.length_reverse]; exact hz, _, r.reverse, ⟨_, Heap.get?_push_size _ rfl, rfl, _, rfl⟩⟩, rfl, q _ (I5.hok.fresh (Nat.le_refl _))⟩
def revV (x : Rv) (S : Sto) : Res Rv := match x with
  | .val (.tup xs) => .ok (.val (.tup xs.reverse)) S
  | .val (.tuf xs) => .ok (.val (.tup xs.reverse)) S
  | x => match lrdOf x S with
    | some xs => .ok (.new xs.reverse) S
    | none => .bad
theorem de_rev {e : Expr} {fa : ExM} {k : Nat} {p1 p2 p3 pos : Pos} (hK : X.K = G.K) (ha : PE X e (tD G E fa)) : PE X (.Subscript e (.Slice none none (some (.UnaryOp .USub (.Constant (.int 1) k p1) p2)) p3) pos) (tD G E (eUn revV fa)) :=
  PE.wk (pe_rev ha) fun σ H Q ⟨μ, S, env, w, er, h⟩ => tD_go w er (post_bnd.1 h) fun x S1 v H1 μ1 l1 w1 er1 rx h1 => by
    unfold revV at h1
    split at h1
    · rename_i xs
      cases rx with
      | @tup _ b vs hs rs => exact .inr ⟨b, vs, rfl, by rw [hK]; exact SqT.of hs, fun p hp => h1 _ _ μ1 (l1.trans (Le.laid hp)) (w1.laid hp) (R.fresh w1 hp rs.reverse)⟩
    · rename_i xs
      cases rx with
      | @tuf _ b vs hs rs => obtain ⟨o, _, hs⟩ := hs; exact .inr ⟨b, vs, rfl, by rw [hK]; exact .inl (.inr ⟨o, hs⟩), fun p hp => h1 _ _ μ1 (l1.trans (Le.laid hp)) (w1.laid hp) (R.fresh w1 hp rs.reverse)⟩
    · split at h1
      · rename_i xs e
        obtain ⟨b, vs, e3, hs, rs⟩ := lrdOf_ok w1 rx e
        exact .inl ⟨b, vs, e3, by rw [hK]; exact hs, fun p hp => h1 _ _ μ1 (l1.trans (Le.laid hp)) (w1.laid hp) (Rx.fresh w1 hp (l1.free hp) rs.reverse)⟩
      · exact h1.elim
/-- isinstance(x, (A, B)) -/
def isiV2 (T U : Ty) (x : Rv) (S : Sto) : Res Rv := match tyOf x S with
  | some t => .ok (.val (.bl (isi t T || isi t U))) S
  | none => .bad
theorem isi2_ok : ∀ t T U : Ty, T ≠ .none → U ≠ .none → PySem.W.kitAny G.K (.type t.nm) [.type T.nm, .type U.nm] = some (isi t T || isi t U) := by
  intro t T U h1 h2
  have e1 := kit_ty (K := G.K) (isi_ok t T h1)
  have e2 := kit_ty (K := G.K) (isi_ok t U h2)
  show (match PySem.W.kitOne G.K (.type t.nm) (.type T.nm) with
    | some true => some true
    | some false => (match PySem.W.kitOne G.K (.type t.nm) (.type U.nm) with
      | some true => some true
      | some false => some false
      | none => none)
    | none => none) = _
  rw [e1, e2]
  cases isi t T <;> cases isi t U <;> rfl
theorem de_isi2 {a : Expr} {fa : ExM} {p p2 p3 p4 pos : Pos} {k : Nat} {n m : Str} (hK : X.K = G.K) {T U : Ty} (hT : T ≠ .none) (hU : U ≠ .none) (hg : Gl X "isinstance") (hm : X.mg "isinstance" = none)
    (hg2 : Gl X n) (hm2 : X.mg n = none) (hv : bootBuiltins n = some (.type T.nm)) (hn : n ≠ "__name__") (hd : (n == ("__debug__" : Str)) = false)
    (hg3 : Gl X m) (hm3 : X.mg m = none) (hv3 : bootBuiltins m = some (.type U.nm)) (hn3 : m ≠ "__name__") (hd3 : (m == ("__debug__" : Str)) = false) (hp : plainE a = true) (ha : PE X a (tD G E fa)) :
    PE X (.Call (.Name "isinstance" p) [a, .Tuple [.Name n p2, .Name m p3] k p4] [] pos) (tD G E (eUn (isiV2 T U) fa)) := by
  have h1 : PE X (.Name n p2) (tC (.ty T.nm)) := pe_bltn hg2 hm2 hv rfl hn hd
  have h2 : PE X (.Name m p3) (tC (.ty U.nm)) := pe_bltn hg3 hm3 hv3 rfl hn3 hd3
  refine PE.wk (pe_callB call_isiT hg hm (by decide +kernel) (pa_cons ha (pa_cons (pe_tup (pa_cons h1 (pa_cons h2 pa_nil rfl) rfl)) pa_nil rfl) (star_plain hp _ _)) (by decide) (by decide) (star_plain hp _ _) rfl) fun σ H Q h => ?_
  obtain ⟨μ, S, env, w, er, h⟩ := h
  refine tD_go w er (post_bnd.1 h) fun x S1 v H1 μ1 l1 w1 er1 rx h1 => ?_
  unfold isiV2 at h1
  split at h1
  · rename_i t e
    refine ⟨by show 2 ≤ sizeLine; decide, fun q hq => ?_⟩
    have w2 := w1.laid (o := .tup [.ty T.nm, .ty U.nm]) hq
    refine ⟨v, q, [.ty T.nm, .ty U.nm], .type t.nm, [.type T.nm, .type U.nm], isi t T || isi t U, rfl, upd_same, .cons (.ty _) (.cons (.ty _) .nil), ?_, by rw [hK]; exact isi2_ok t T U hT hU, h1 _ _ μ1 (l1.trans (Le.laid hq)) w2 (.bl _)⟩
    rw [hK]
    exact tyOf_ok w2 ((Le.laid hq).rx w1 rx) e
  · exact h1.elim
theorem de_glob {x : Str} {i : Int} {t : Tok} {pos : Pos} (hg : Gl X x) (hm : X.mg x = some (.int i t)) (hd : (x == ("__debug__" : Str)) = false) : PE X (.Name x pos) (tD G E (eC (.int i))) :=
  PE.wk (pe_glob (v := .int i) hg hm ⟨_, rfl⟩ hd) fun σ H Q ⟨μ, S, env, w, er, h⟩ => h _ H μ Le.refl w (.int i)
end
end Bz

set_option Elab.async false
set_option linter.all false
set_option maxRecDepth 100000
set_option maxHeartbeats 2000000
/-! Bz, zip of three lists. -/
namespace Bz
open PySem PySem.Spec PyProof.Rows L2
/-- the lists at a, b, c as they stand at each turn, the items in new triples -/
def Itz3 (K : PySem.W.Frag) (n : Nat) (a b c : Addr) : It :=
  ⟨fun i H => i < n ∧ ∃ (xs ys zs : List V) (x y z : V), SqL K H a xs ∧ SqL K H b ys ∧ SqL K H c zs ∧ xs[i]? = some x ∧ ys[i]? = some y ∧ zs[i]? = some z,
    fun i H v H' => ∃ T x y z, v = .ref T ∧ H T = none ∧ H' = upd H T (.tup [x, y, z]) ∧ (∀ xs, SqL K H a xs → xs[i]? = some x) ∧ (∀ ys, SqL K H b ys → ys[i]? = some y) ∧ ∀ zs, SqL K H c zs → zs[i]? = some z,
    fun i H => n ≤ i ∧ ∃ xs ys zs : List V, SqL K H a xs ∧ SqL K H b ys ∧ SqL K H c zs ∧ (xs.length = n ∨ ys.length = n ∨ zs.length = n) ∧ n ≤ xs.length ∧ n ≤ ys.length ∧ n ≤ zs.length⟩
theorem turn_zip3 {P : Program} {w : World} {K : PySem.W.Frag} {elts : List Expr} {kk : Nat} {tpos : Pos} {n : Nat} {a b c z TI TO i1 i2 i3 : Addr} (D : ZipSep3 z TI TO i1 i2 i3 [i1, a] [i2, b] [i3, c]) (n1 : a ≠ i1) (n2 : b ≠ i2) (n3 : c ≠ i3) :
    Turn P w K (.Tuple elts kk tpos) (Itz3 K n a b c) [z, TI, TO, i1, i2, i3] z (fun i h => i ≤ n ∧ IsZip h z TI TO .none ∧ IsTupOf3 h TI (.ref i1) (.ref i2) (.ref i3) ∧ (∃ x y u, IsTupOf3 h TO x y u) ∧ h.IsListIter i1 a i ∧ h.IsListIter i2 b i ∧ h.IsListIter i3 c i) where
  mem := List.mem_cons_self
  obj := fun i h st d hd => by
    obtain ⟨hin, hz, hTI, ⟨x, y, u, hTO⟩, ⟨o1, e1, _, d1⟩, ⟨o2, e2, _, d2⟩, ⟨o3, e3, _, d3⟩⟩ := st
    simp only [List.mem_cons, List.not_mem_nil, or_false] at hd
    rcases hd with rfl | rfl | rfl | rfl | rfl | rfl
    · exact ⟨_, hz, fun v q => nomatch q⟩
    · exact ⟨_, hTI, fun v q => nomatch q⟩
    · exact ⟨_, hTO, fun v q => nomatch q⟩
    · exact ⟨o1, e1, fun v q => by rw [d1] at q; cases q⟩
    · exact ⟨o2, e2, fun v q => by rw [d2] at q; cases q⟩
    · exact ⟨o3, e3, fun v q => by rw [d3] at q; cases q⟩
  keep := fun i h h' st k => by
    obtain ⟨hin, hz, hTI, ⟨x, y, u, hTO⟩, h1, h2, h3⟩ := st
    exact ⟨hin, k z (by simp) _ hz, k TI (by simp) _ hTI, ⟨x, y, u, k TO (by simp) _ hTO⟩, h1.at fun o q => k i1 (by simp) o q, h2.at fun o q => k i2 (by simp) o q, h3.at fun o q => k i3 (by simp) o q⟩
  item := by
    intro X hP hw hK hc i pins s σ H E I hf st hg
    subst hP hw hK
    obtain ⟨hin, hz, hTI, ⟨x0, y0, z0, hTO⟩, h1, h2, h3⟩ := st
    obtain ⟨hlt, xs, ys, zs, x, y, zz, q1, q2, q3, e1, e2, e3⟩ := hg
    obtain ⟨its1, rv1, p1, _⟩ := I.list q1
    obtain ⟨its2, rv2, p2, _⟩ := I.list q2
    obtain ⟨its3, rv3, p3, _⟩ := I.list q3
    obtain ⟨u1, hu1, ru1⟩ := rv1.get e1
    obtain ⟨u2, hu2, ru2⟩ := rv2.get e2
    obtain ⟨u3, hu3, ru3⟩ := rv3.get e3
    have hzl : z < s.heap.objs.size := Heap.lt_size hz
    have hh : X.A.in1.handled = none := I.ok.hd hc
    have lt1 := (List.getElem?_eq_some_iff.mp hu1).1
    have lt2 := (List.getElem?_eq_some_iff.mp hu2).1
    have lt3 := (List.getElem?_eq_some_iff.mp hu3).1
    refine wpAny_pyNext_zipD3_item D (Draws.list hh i1 a n1 its1.toArray) (Draws.list hh i2 b n2 its2.toArray) (Draws.list hh i3 c n3 its3.toArray) hz hTI hTO ⟨h1, p1.isList⟩ ⟨h2, p2.isList⟩ ⟨h3, p3.isList⟩ (by simpa using lt1) (by simpa using lt2) (by simpa using lt3)
      fun v1 v2 v3 h' tk r1 r2 r3 z' TO' t1 t2 t3 hT hsz hk => ?_
    have r1 : v1 = u1 := by
      have : its1[i]? = some v1 := by simpa using r1
      rw [hu1] at this; cases this; rfl
    have r2 : v2 = u2 := by
      have : its2[i]? = some v2 := by simpa using r2
      rw [hu2] at this; cases this; rfl
    have r3 : v3 = u3 := by
      have : its3[i]? = some v3 := by simpa using r3
      rw [hu3] at this; cases this; rfl
    subst r1 r2 r3
    refine ⟨_, rfl, wpAny_letOwnedTupleGo_zip (s := { s with heap := h', toks := tk }) z' fun h'' z'' sb => ?_⟩
    have hT2 : h''.get? s.heap.objs.size = some { cls := .type "tuple", data := .seq #[v1, v2, v3] } := (sb.2 _ (Nat.ne_of_gt hzl)).trans hT
    have new : ObjOk X.prog X.w (upd H s.heap.objs.size (.tup [x, y, zz])) h'' s.heap.objs.size (.tup [x, y, zz]) :=
      ⟨by show 3 ≤ sizeLine; decide, [v1, v2, v3], .cons ru1 (.cons ru2 (.cons ru3 .nil)), ⟨_, hT2, rfl, _, rfl⟩⟩
    have I1 : Inv X pins σ (upd H s.heap.objs.size (.tup [x, y, zz])) { s with heap := h'', toks := tk } :=
      I.turnedNew (t' := tk) (ch := [z, TI, TO, i1, i2, i3]) (fun c o hb q => (sb.2 c (fun q' => hb (by simp [q']))).trans (hk c o (fun q' => hb (by simp [q'])) (fun q' => hb (by simp [q'])) (fun q' => hb (by simp [q'])) (fun q' => hb (by simp [q'])) (fun q' => hb (by simp [q'])) q)) hf (Nat.le_refl _) new
    refine ⟨.ref s.heap.objs.size, _, I1, rfl, ⟨_, x, y, zz, rfl, I.hok.fresh (Nat.le_refl _), rfl, fun l hl => by rw [I.list_inj hl q1]; exact e1, fun l hl => by rw [I.list_inj hl q2]; exact e2, fun l hl => by rw [I.list_inj hl q3]; exact e3⟩, ⟨hlt, z'', ?_, ⟨v1, v2, v3, ?_⟩, ?_, ?_, ?_⟩, fun d hd => ?_⟩
    · exact (sb.2 _ D.TIz).trans (hk _ _ D.TIz D.TITO D.TIi1 D.TIi2 D.TIi3 hTI)
    · exact (sb.2 _ D.TOz).trans TO'
    · exact t1.1.at fun o q => (sb.2 _ (Ne.symm D.zi1)).trans q
    · exact t2.1.at fun o q => (sb.2 _ (Ne.symm D.zi2)).trans q
    · exact t3.1.at fun o q => (sb.2 _ (Ne.symm D.zi3)).trans q
    · have hlt : d < s.heap.objs.size := by
        have hd' := hd
        simp only [List.mem_cons, List.not_mem_nil, or_false] at hd'
        rcases hd' with rfl | rfl | rfl | rfl | rfl | rfl
        · exact hzl
        · exact Heap.lt_size hTI
        · exact Heap.lt_size hTO
        · obtain ⟨_, e, _⟩ := h1; exact Heap.lt_size e
        · obtain ⟨_, e, _⟩ := h2; exact Heap.lt_size e
        · obtain ⟨_, e, _⟩ := h3; exact Heap.lt_size e
      rw [upd_ne (Nat.ne_of_lt hlt)]
      exact (hf d hd).1
  done := by
    intro X hP hw hK hc i pins s σ H E I hf st hg
    subst hP hw hK
    obtain ⟨hin, hz, hTI, ⟨x0, y0, z0, hTO⟩, h1, h2, h3⟩ := st
    obtain ⟨hni, xs, ys, zs, q1, q2, q3, hend, g1, g2, g3⟩ := hg
    obtain ⟨its1, rv1, p1, _⟩ := I.list q1
    obtain ⟨its2, rv2, p2, _⟩ := I.list q2
    obtain ⟨its3, rv3, p3, _⟩ := I.list q3
    have hh : X.A.in1.handled = none := I.ok.hd hc
    have l1 := rv1.length
    have l2 := rv2.length
    have l3 := rv3.length
    exact wpAny_pyNext_zipD3_end D (Draws.list hh i1 a n1 its1.toArray) (Draws.list hh i2 b n2 its2.toArray) (Draws.list hh i3 c n3 its3.toArray) hz hTI hTO ⟨h1, p1.isList⟩ ⟨h2, p2.isList⟩ ⟨h3, p3.isList⟩ (by rw [List.size_toArray]; omega) (by rw [List.size_toArray]; omega) (by rw [List.size_toArray]; omega)
      (by rw [List.size_toArray, List.size_toArray, List.size_toArray]; omega) fun h' tk hk => ⟨rfl, I.turnedL (t' := tk) (ch := [z, TI, TO, i1, i2, i3]) (fun c o hb q =>
      hk c o (fun q' => hb (by simp [q'])) (fun q' => hb (by simp [q'])) (fun q' => hb (by simp [q'])) (fun q' => hb (by simp [q'])) (fun q' => hb (by simp [q'])) q) hf⟩
  self := fun A i s Q E st h => wpAny_pyIter_zip st.2.1 h
def iZip3 (K : PySem.W.Frag) (ta : TA) : TI := fun σ H R => ta σ H fun vs H1 => ∃ a b c xs ys zs, vs = [.ref a, .ref b, .ref c] ∧ SqL K H1 a xs ∧ SqL K H1 b ys ∧ SqL K H1 c zs ∧ ∃ n, R (Itz3 K n a b c) H1
theorem pi_zip3 {X : Cx} {e e2 e3 : Expr} {ta : TA} {p pos tpos : Pos} {elts : List Expr} {kk : Nat} (hg : Gl X "zip") (hm : X.mg "zip" = none) (ha : PA X [e, e2, e3] ta)
    (hs : starEach [e, e2, e3] X.env = (false, eval e X.env) :: starEach [e2, e3] X.env := by rfl) (hpl : (backTo pos (starEach [e2, e3] X.env)).any (·.1) = false := by rfl) :
    PI X (.Tuple elts kk tpos) (.Call (.Name "zip" p) [e, e2, e3] [] pos) (iZip3 X.K ta) := by
  refine ⟨fun pins s σ H R I h => Call_ (ld_blt I hg hm PyProof.Rows.boot_zip (PyProof.Rows.callWith_type1 (thn (ha.run pos pins s σ H _ I h) fun us s1 ⟨vs, H1, I1, r1, q1⟩ => ?_) hs hpl))⟩
  obtain ⟨a, b, c, xs, ys, zs, ex, hqx, hqy, hqz, n, q⟩ := q1
  subst ex
  cases r1 with
  | cons r rr =>
    cases rr with
    | cons r' rr =>
      cases rr with
      | cons r'' rr =>
        cases rr; cases r; cases r'; cases r''
        obtain ⟨its1, rv1, p1, _⟩ := I1.list hqx
        obtain ⟨its2, rv2, p2, _⟩ := I1.list hqy
        obtain ⟨its3, rv3, p3, _⟩ := I1.list hqz
        have la : a < s1.heap.objs.size := p1.lt
        have lb : b < s1.heap.objs.size := p2.lt
        have lc : c < s1.heap.objs.size := p3.lt
        refine zip_begins3 (begins_list a its1.toArray) (begins_list b its2.toArray) (begins_list c its3.toArray) p1.isList p2.isList p3.isList fun h' hz hTI hTO h1 h2 h3 hsz hk => wpAny_pyIter_zip hz ?_
        have I2 : Inv X pins σ H1 { s1 with heap := h' } := I1.kept (t' := s1.toks) hk
        refine ⟨s1.heap.objs.size + 5, [s1.heap.objs.size + 5, s1.heap.objs.size + 3, s1.heap.objs.size + 4, s1.heap.objs.size, s1.heap.objs.size + 1, s1.heap.objs.size + 2], _, _, H1, rfl, I2,
          turn_zip3 (zip_sep3 (fp1 := [a]) (fp2 := [b]) (fp3 := [c]) (by simpa using la) (by simpa using lb) (by simpa using lc)) (Nat.ne_of_lt la) (Nat.ne_of_lt (Nat.lt_succ_of_lt lb)) (Nat.ne_of_lt (Nat.lt_succ_of_lt (Nat.lt_succ_of_lt lc))),
          ⟨Nat.zero_le _, hz, hTI, ⟨_, _, _, hTO⟩, ⟨_, h1, rfl, rfl⟩, ⟨_, h2, rfl, rfl⟩, ⟨_, h3, rfl, rfl⟩⟩, fun d hd => ?_, q⟩
        have hle : s1.heap.objs.size ≤ d := by
          simp only [List.mem_cons, List.not_mem_nil, or_false] at hd
          rcases hd with rfl | rfl | rfl | rfl | rfl | rfl
          · exact Nat.le_add_right _ _
          · exact Nat.le_add_right _ _
          · exact Nat.le_add_right _ _
          · exact Nat.le_refl _
          · exact Nat.le_add_right _ _
          · exact Nat.le_add_right _ _
        exact I1.fpOk hle (I1.hok.fresh hle)
/-! ### the source -/
variable {G : Gm} {E : XK}
def zipD3 (xs ys zs : List D) : List D := (xs.zip (ys.zip zs)).map fun p => D.tup [p.1, p.2.1, p.2.2]
theorem zipD3_get {xs ys zs : List D} {i : Nat} {d : D} (h : (zipD3 xs ys zs)[i]? = some d) : ∃ x y z, xs[i]? = some x ∧ ys[i]? = some y ∧ zs[i]? = some z ∧ d = .tup [x, y, z] := by
  unfold zipD3 at h
  rw [List.getElem?_map] at h
  obtain ⟨k, h1, h2⟩ := Option.map_eq_some_iff.mp h
  obtain ⟨h3, h4⟩ := List.getElem?_zip_eq_some.mp h1
  obtain ⟨h5, h6⟩ := List.getElem?_zip_eq_some.mp h4
  exact ⟨_, _, _, h3, h5, h6, h2.symm⟩
def srZ3 (fa fb fc : ExM) : SrM := fun env S => bnd (fa env S) fun x S1 => bnd (fb env S1) fun y S2 => bnd (fc env S2) fun z S3 => match srcOf x S3, srcOf y S3, srcOf z S3 with
  | some s, some t, some u => if isTup x = false ∧ isTup y = false ∧ isTup z = false then .ok (zipD3 s.1 t.1 u.1, s.2 ++ (t.2 ++ u.2)) S3 else .bad
  | _, _, _ => .bad
theorem Wk.zip3 {μ : Mp} {H : Hp} {a b c : Addr} {xs ys zs : List D} {gs hs js : Gs} (k : ∀ μ2 H2 S2, Le μ H μ2 H2 → Wd G μ2 H2 S2 → gok gs S2 = true → ∃ vs, SqL G.K H2 a vs ∧ Rs G μ2 H2 xs vs) (k' : ∀ μ2 H2 S2, Le μ H μ2 H2 → Wd G μ2 H2 S2 → gok hs S2 = true → ∃ vs, SqL G.K H2 b vs ∧ Rs G μ2 H2 ys vs)
    (k'' : ∀ μ2 H2 S2, Le μ H μ2 H2 → Wd G μ2 H2 S2 → gok js S2 = true → ∃ vs, SqL G.K H2 c vs ∧ Rs G μ2 H2 zs vs) :
    Wk G (Itz3 G.K (min xs.length (min ys.length zs.length)) a b c) (zipD3 xs ys zs) (gs ++ (hs ++ js)) μ H := fun i μ2 H2 S2 l w2 g => by
  obtain ⟨g1, g23⟩ := gok_append g
  obtain ⟨g2, g3⟩ := gok_append g23
  obtain ⟨vs, hv, rv⟩ := k μ2 H2 S2 l w2 g1
  obtain ⟨ws, hw, rw'⟩ := k' μ2 H2 S2 l w2 g2
  obtain ⟨us, hu, ru⟩ := k'' μ2 H2 S2 l w2 g3
  have hlen : (zipD3 xs ys zs).length = min xs.length (min ys.length zs.length) := by simp [zipD3]
  have l1 := rv.length
  have l2 := rw'.length
  have l3 := ru.length
  refine ⟨fun hi => ⟨by omega, vs, ws, us, hv, hw, hu, by omega, by omega, by omega, by omega⟩, fun d hd => ?_⟩
  have hlt := (List.getElem?_eq_some_iff.mp hd).1
  obtain ⟨x, y, z, hx, hy, hz, rfl⟩ := zipD3_get hd
  obtain ⟨v, ev, r1⟩ := rv.get hx
  obtain ⟨u, eu, r2⟩ := rw'.get hy
  obtain ⟨t, et, r3⟩ := ru.get hz
  refine ⟨⟨by omega, vs, ws, us, v, u, t, hv, hw, hu, ev, eu, et⟩, fun z H3 q => ?_⟩
  obtain ⟨T, x', y', z', rfl, hT, rfl, q1, q2, q3⟩ := q
  have e1 : v = x' := Option.some.inj (ev.symm.trans (q1 vs hv))
  have e2 : u = y' := Option.some.inj (eu.symm.trans (q2 ws hw))
  have e3 : t = z' := Option.some.inj (et.symm.trans (q3 us hu))
  subst e1 e2 e3
  exact ⟨Le.laid hT, w2.laid hT, R.fresh w2 hT (.cons r1 (.cons r2 (.one r3)))⟩
theorem di_zip3 {X : Cx} {a b c : Expr} {fa fb fc : ExM} {p pos tpos : Pos} {elts : List Expr} {kk : Nat} (hK : X.K = G.K) (hg : Gl X "zip") (hm : X.mg "zip" = none) (hp : plainE a = true) (hp2 : plainE b = true) (hp3 : plainE c = true) (ha : PE X a (tD G E fa)) (hb : PE X b (tD G E fb)) (hc : PE X c (tD G E fc)) :
    PI X (.Tuple elts kk tpos) (.Call (.Name "zip" p) [a, b, c] [] pos) (tSr G E (srZ3 fa fb fc)) :=
  PI.wk (pi_zip3 hg hm (pa_cons ha (pa_cons hb (pa_cons hc pa_nil (star_plain hp3 _ _)) (star_plain hp2 _ _)) (star_plain hp _ _)) (star_plain hp _ _) (star_any pos _ (es := [b, c]) (by simp [hp2, hp3]))) fun σ H Rr ⟨μ, S, env, w, er, h⟩ => by
    refine tD_go w er (post_bnd.1 h) fun x S1 v H1 μ1 l1 w1 er1 rx h1 => ?_
    refine tD_go w1 er1 (post_ex l1 (post_bnd.1 h1) fun _ _ z => z) fun y S2 u H2 μ2 l2 w2 er2 ry h2 => ?_
    refine tD_go w2 er2 (post_ex (l1.trans l2) (post_bnd.1 h2) fun _ _ z => z) fun z S3 t H3 μ3 l3 w3 er3 rz h3 => ?_
    split at h3
    · rename_i s t u es et eu
      split at h3
      · rename_i hi
        have rx := (l2.trans l3).rx w1 rx
        have ry := l3.rx w2 ry
        have l := (l1.trans l2).trans l3
        rw [hK]
        obtain ⟨a', e1, ⟨vs, h1'⟩, k⟩ := src_ok w3 rx es hi.1
        obtain ⟨b', e2, ⟨ws, h2'⟩, k'⟩ := src_ok w3 ry et hi.2.1
        obtain ⟨c', e3, ⟨us, h3'⟩, k''⟩ := src_ok w3 rz eu hi.2.2
        subst e1 e2 e3
        exact ⟨a', b', c', vs, ws, us, rfl, h1', h2', h3', _, h3 _ H3 μ3 l w3 (Wk.zip3 k k' k'')⟩
      · exact h3.elim
    · exact h3.elim
end Bz

set_option Elab.async false
set_option linter.all false
set_option maxRecDepth 100000
set_option maxHeartbeats 2000000
/-! Bz, min, max and sorted of lists of data. -/
namespace Bz
open PySem PySem.Spec PyProof.Rows L2 PySem.W
/-- which item is the least -/
def leastIx (ds : List PyData) : Nat := argBest (fun i j => dataLt (ds.getD i .none) (ds.getD j .none)) (ds.length - 1)
def greatIx (ds : List PyData) : Nat := argBest (fun i j => dataLt (ds.getD j .none) (ds.getD i .none)) (ds.length - 1)
def notNone : PyData → Bool
  | .none => false
  | _ => true
def allAlikeB (ds : List PyData) : Bool := ds.all fun p => ds.all fun q => alike p q
def bestOk (ds : List PyData) : Bool := decide (0 < ds.length) && allAlikeB ds && ds.all notNone && decide (PyData.depthAll ds ≤ 32)
theorem allAlikeB_ok {ds : List PyData} (h : allAlikeB ds = true) : ∀ x ∈ ds, ∀ y ∈ ds, alike x y = true := fun x hx y hy => List.all_eq_true.mp (List.all_eq_true.mp h x hx) y hy
theorem bestOk_ok {ds : List PyData} (h : bestOk ds = true) : 0 < ds.length ∧ AlikeAll ds ∧ PyData.depthAll ds ≤ 32 := by
  unfold bestOk at h
  rw [Bool.and_eq_true, Bool.and_eq_true, Bool.and_eq_true] at h
  refine ⟨of_decide_eq_true h.1.1.1, ⟨allAlikeB_ok h.1.1.2, fun x hx e => ?_⟩, of_decide_eq_true h.2⟩
  have := List.all_eq_true.mp h.1.2 x hx
  subst e
  exact absurd this Bool.false_ne_true
section
variable {X : Cx}
def rBest (K : PySem.W.Frag) (ix : List PyData → Nat) : List V → Hp → VK → Prop := fun vs H Q => ∃ (a : Addr) (xs : List V) (ds : List PyData), vs = [.ref a] ∧ SqL K H a xs ∧ DpAll K H xs ds ∧ bestOk ds = true ∧ ∀ v, xs[ix ds]? = some v → Q v H
theorem vals_at {xs : List V} {us : List Value} (r : Vals xs us) {i : Nat} {u : Value} (h : us[i]? = some u) : ∃ v, xs[i]? = some v ∧ RelV v u := by
  have hi := (List.getElem?_eq_some_iff.mp h).1
  have hl := r.length
  obtain ⟨v, hv⟩ : ∃ v, xs[i]? = some v := ⟨_, List.getElem?_eq_getElem (by omega)⟩
  obtain ⟨u', hu', r'⟩ := r.get hv
  rw [h] at hu'
  cases hu'
  exact ⟨v, hv, r'⟩
theorem cr_minD (hc : X.calm = true) (hu : X.A.units + 64 < cLine) : CallR X (.builtin "min") (rBest X.K leastIx) := by
  intro pins s σ H vs us Q I r h
  obtain ⟨a, xs, ds, rfl, hs, hd, hk, q⟩ := h
  obtain ⟨its, rv, hl, _⟩ := I.list hs
  rw [Vals.ref1 r]
  obtain ⟨as, hr⟩ := Dp.readsAll I ds xs its hd rv
  obtain ⟨k1, k2, k3⟩ := bestOk_ok hk
  have hr' : ReadsAll s.heap its.toArray.toList ds as := by rw [List.toList_toArray]; exact hr
  have hn : its.toArray.size = ds.length := readsAll_len hr'
  refine call_min_walkH (iter_listW (A := X.A.in1) (I.ok.hd hc) hl.isList fun s₂ e W st hfp hw hk => ?_)
  refine ⟨_, _, _, _, _, _, _, s.heap, _, rfl, W, st, hfp, by omega, hw, hk, cmpIn_lt (A := X.A.in1) hr' k2 (by show X.A.units + 1 + _ < _; omega), fun v s' hP m => ?_⟩
  obtain ⟨h', tk, rfl, hk'⟩ := moved_old e rfl m
  have hP : its[leastIx ds]? = some v := by
    have e1 : its.toArray.size - 1 = ds.length - 1 := by rw [hn]
    rw [e1] at hP
    rw [List.getElem?_toArray] at hP
    exact hP
  obtain ⟨x, hx, rx⟩ := vals_at rv hP
  exact ⟨x, H, I.kept hk', rx, q x hx⟩
theorem cr_maxD (hc : X.calm = true) (hu : X.A.units + 64 < cLine) : CallR X (.builtin "max") (rBest X.K greatIx) := by
  intro pins s σ H vs us Q I r h
  obtain ⟨a, xs, ds, rfl, hs, hd, hk, q⟩ := h
  obtain ⟨its, rv, hl, _⟩ := I.list hs
  rw [Vals.ref1 r]
  obtain ⟨as, hr⟩ := Dp.readsAll I ds xs its hd rv
  obtain ⟨k1, k2, k3⟩ := bestOk_ok hk
  have hr' : ReadsAll s.heap its.toArray.toList ds as := by rw [List.toList_toArray]; exact hr
  have hn : its.toArray.size = ds.length := readsAll_len hr'
  refine call_max_walkH (iter_listW (A := X.A.in1) (I.ok.hd hc) hl.isList fun s₂ e W st hfp hw hk => ?_)
  refine ⟨_, _, _, _, _, _, _, s.heap, _, rfl, W, st, hfp, by omega, hw, hk, cmpIn_gt (A := X.A.in1) hr' k2 (by show X.A.units + 1 + _ < _; omega), fun v s' hP m => ?_⟩
  obtain ⟨h', tk, rfl, hk'⟩ := moved_old e rfl m
  have hP : its[greatIx ds]? = some v := by
    have e1 : its.toArray.size - 1 = ds.length - 1 := by rw [hn]
    rw [e1] at hP
    rw [List.getElem?_toArray] at hP
    exact hP
  obtain ⟨x, hx, rx⟩ := vals_at rv hP
  exact ⟨x, H, I.kept hk', rx, q x hx⟩
/-! ### sorted -/
def tupSome : PyData → Bool
  | .tuple (_ :: _) => true
  | _ => false
def notTup : PyData → Bool
  | .none => false
  | .tuple _ => false
  | _ => true
def sortOk (ds : List PyData) : Bool := allAlikeB ds && (ds.all tupSome || ds.all notTup) && decide (PyData.depthAll ds ≤ 32)
theorem sortOk_ok {ds : List PyData} (h : sortOk ds = true) : AllAlike ds ∧ Sortable ds ∧ PyData.depthAll ds ≤ 32 := by
  unfold sortOk at h
  rw [Bool.and_eq_true, Bool.and_eq_true, Bool.or_eq_true] at h
  refine ⟨fun d hd d' hd' => allAlikeB_ok h.1.1 d hd d' hd', ?_, of_decide_eq_true h.2⟩
  rcases h.1.2 with q | q
  · refine .inl fun d hd => ?_
    have := List.all_eq_true.mp q d hd
    unfold tupSome at this
    split at this
    · exact ⟨_, _, rfl⟩
    · cases this
  · refine .inr fun d hd => ?_
    have := List.all_eq_true.mp q d hd
    cases d <;> first | exact absurd this Bool.false_ne_true | exact ⟨fun e => (nomatch e), fun xs e => nomatch e⟩
theorem depth_le {d : PyData} : ∀ {ds : List PyData}, d ∈ ds → d.depth ≤ PyData.depthAll ds
  | e :: ds, h => by
    rw [PyData.depthAll]
    rcases List.mem_cons.mp h with rfl | h
    · exact Nat.le_max_left _ _
    · exact Nat.le_trans (depth_le h) (Nat.le_max_right _ _)
/-- the items in order, by their data -/
def sortBy {α : Type} (xs : List α) (ds : List PyData) : List α := ((xs.zip ds).mergeSort (dataLe false Prod.snd)).map Prod.fst
def rSortD (K : PySem.W.Frag) : List V → Hp → VK → Prop := fun vs H Q => ∃ (a : Addr) (xs : List V) (ds : List PyData), vs = [.ref a] ∧ SqL K H a xs ∧ DpAll K H xs ds ∧ sortOk ds = true ∧ ∀ p, H p = none → Q (.ref p) (upd H p (.lst (sortBy xs ds)))
theorem dpAll_len {K : PySem.W.Frag} {H : Hp} : ∀ {xs : List V} {ds : List PyData}, DpAll K H xs ds → xs.length = ds.length
  | _, _, .nil => rfl
  | _, _, .cons _ t => by rw [List.length_cons, List.length_cons, dpAll_len t]
theorem each_zip {R : Value → V × PyData → Prop} : ∀ {us : List Value} {xs : List V} {ds : List PyData}, us.length = xs.length → xs.length = ds.length → (∀ (i : Nat) (u : Value) (x : V) (d : PyData), us[i]? = some u → xs[i]? = some x → ds[i]? = some d → R u (x, d)) → EachIs R us (xs.zip ds)
  | [], [], [], _, _, _ => .nil
  | u :: us, x :: xs, d :: ds, h1, h2, h => .cons (h 0 u x d rfl rfl rfl) (each_zip (Nat.succ.inj h1) (Nat.succ.inj h2) fun i u x d a b c => h (i + 1) u x d a b c)
theorem vals_each : ∀ {us : List Value} {bs : List (V × PyData)}, EachIs (fun u (b : V × PyData) => RelV b.1 u) us bs → Vals (bs.map Prod.fst) us
  | _, _, .nil => .nil
  | _, _, .cons h t => .cons h (vals_each t)
theorem readsAll_get {h : Heap} : ∀ {us : List Value} {ds : List PyData} {as : List Addr}, ReadsAll h us ds as → ∀ (i : Nat) (u : Value) (d : PyData), us[i]? = some u → ds[i]? = some d → ∃ as, Reads h u d as
  | _, _, _, .nil, i, u, d, h1, _ => by simp at h1
  | _, _, _, .cons r rs, 0, u, d, h1, h2 => by cases h1; cases h2; exact ⟨_, r⟩
  | _, _, _, .cons r rs, i + 1, u, d, h1, h2 => readsAll_get rs i u d (by simpa using h1) (by simpa using h2)
theorem cr_sortedD (hu : X.A.units + 64 < cLine) : CallR X (.builtin "sorted") (rSortD X.K) := by
  intro pins s σ H vs us Q I r h
  obtain ⟨a, xs, ds, rfl, hs, hd, hk, q⟩ := h
  obtain ⟨its, rv, hl, hz⟩ := I.list hs
  rw [Vals.ref1 r]
  obtain ⟨as, hr⟩ := Dp.readsAll I ds xs its hd rv
  obtain ⟨k1, k2, k3⟩ := sortOk_ok hk
  have hl1 := rv.length
  have hl2 := dpAll_len hd
  have hsnd : (xs.zip ds).map Prod.snd = ds := by rw [← List.unzip_snd, List.unzip_zip_right (by omega)]
  have hlen : (xs.zip ds).length = xs.length := by rw [List.length_zip]; omega
  have e1 : EachIs (fun u (b : V × PyData) => RelV b.1 u) its (xs.zip ds) := each_zip (by omega) hl2 fun i u x d a b c => by
    obtain ⟨u', hu', r'⟩ := rv.get b
    rw [a] at hu'
    cases hu'
    exact r'
  have e2 : EachIs (fun u (b : V × PyData) => ∃ as, Reads s.heap u b.2 as) its (xs.zip ds) := each_zip (by omega) hl2 fun i u x d a b c => readsAll_get hr i u d a c
  refine sorted_data (enc := Prod.snd) hl.isList e1 e2 (by rw [hsnd]; exact k1) (by rw [hsnd]; exact k2) (by rw [hlen]; exact hz) (fun b hb => ?_) fun out ho hout => ?_
  · have : b.2 ∈ ds := by rw [← hsnd]; exact List.mem_map_of_mem hb
    have := depth_le this
    omega
  · obtain ⟨ep, he'⟩ := PyProof.Rows.sortedAll_at s.heap its out.toArray
    have hv := vals_each hout
    have hlen' : (sortBy xs ds).length ≤ sizeLine := by
      unfold sortBy
      rw [List.length_map, (List.mergeSort_perm _ _).length_eq, hlen]
      exact hz
    exact ⟨.ref _, upd H (s.heap.objs.size + 1) (.lst (sortBy xs ds)), I.laid (t' := s.toks) (fun _ _ => PyProof.Rows.sortedAll_old) (Nat.le_succ _) ⟨hlen', out, ep, hv, he'⟩, rfl, q _ (I.hok.fresh (Nat.le_succ _))⟩
end
/-! ### over the store -/
variable {G : Gm}
theorem Rs.of_all {α : Type} {μ : Mp} {H : Hp} {f : α → D} {g : α → V} : ∀ {ts : List α}, (∀ t ∈ ts, R G μ H (f t) (g t)) → Rs G μ H (ts.map f) (ts.map g)
  | [], _ => .nil
  | t :: ts, h => .cons (h t List.mem_cons_self) (Rs.of_all fun t' ht => h t' (List.mem_cons_of_mem _ ht))
theorem Rs.sortBy {μ : Mp} {H : Hp} {xs : List D} {vs : List V} {ds : List PyData} (r : Rs G μ H xs vs) (hl : xs.length = ds.length) : Rs G μ H (sortBy xs ds) (sortBy vs ds) := by
  have hl1 := r.length
  have key : ∀ {xs : List D} {vs : List V} {ds : List PyData}, Rs G μ H xs vs → xs.length = ds.length → ∃ ts : List (D × V × PyData), xs.zip ds = ts.map (fun t => (t.1, t.2.2)) ∧ vs.zip ds = ts.map (fun t => (t.2.1, t.2.2)) ∧ ∀ t ∈ ts, R G μ H t.1 t.2.1 := by
    intro xs
    induction xs with
    | nil =>
      intro vs ds r hl
      cases r
      exact ⟨[], rfl, rfl, fun t ht => nomatch ht⟩
    | cons x xs ih =>
      intro vs ds r hl
      cases ds with
      | nil => cases hl
      | cons d ds =>
        cases r with
        | @cons _ v _ vs r1 r2 =>
          obtain ⟨ts, h1, h2, h3⟩ := ih r2 (Nat.succ.inj hl)
          refine ⟨(x, v, d) :: ts, by rw [List.zip_cons_cons, h1]; rfl, by rw [List.zip_cons_cons, h2]; rfl, fun t ht => ?_⟩
          rcases List.mem_cons.mp ht with rfl | ht
          · exact r1
          · exact h3 t ht
  obtain ⟨ts, h1, h2, h3⟩ := key r hl
  unfold Bz.sortBy
  have m1 : (ts.map fun t => (t.1, t.2.2)).mergeSort (dataLe false Prod.snd) = (ts.mergeSort (dataLe false fun t => t.2.2)).map (fun t => (t.1, t.2.2)) := (List.map_mergeSort (f := fun t : D × V × PyData => (t.1, t.2.2)) fun a _ b _ => rfl).symm
  have m2 : (ts.map fun t => (t.2.1, t.2.2)).mergeSort (dataLe false Prod.snd) = (ts.mergeSort (dataLe false fun t => t.2.2)).map (fun t => (t.2.1, t.2.2)) := (List.map_mergeSort (f := fun t : D × V × PyData => (t.2.1, t.2.2)) fun a _ b _ => rfl).symm
  rw [h1, h2, m1, m2, List.map_map, List.map_map]
  exact Rs.of_all fun t ht => h3 t (List.mem_mergeSort.mp ht)
/-- the least, the greatest item of a list of data -/
def best1 (ix : List PyData → Nat) (x : Rv) (S : Sto) : Res Rv := match lrdOf x S with
  | some xs => (match rfds (lkS S 12) xs with
    | some ds => if bestOk ds = true then (match xs[ix ds]? with
      | some d => .ok (.val d) S
      | none => .bad) else .bad
    | none => .bad)
  | none => .bad
def sorted1 (x : Rv) (S : Sto) : Res Rv := match lrdOf x S with
  | some xs => (match rfds (lkS S 12) xs with
    | some ds => if sortOk ds = true then .ok (.new (sortBy xs ds)) S else .bad
    | none => .bad)
  | none => .bad
theorem ok_best1 {K : PySem.W.Frag} (hK : K = G.K) {ix : List PyData → Nat} : OkB1 G (rBest K ix) (best1 ix) := by
  intro x S v μ H H0 Q QE w rx q
  unfold best1 at q
  split at q
  · rename_i xs e
    split at q
    · rename_i ds ed
      split at q
      · rename_i hk
        split at q
        · rename_i d eq
          obtain ⟨a, vs, e3, hs, rs⟩ := lrdOf_ok w rx e
          have hd := rfds_ok (lkS_ok w 12) _ _ _ rs ed
          subst hK
          refine ⟨a, vs, ds, by rw [e3], hs, hd, hk, fun u hu => ?_⟩
          obtain ⟨v', hv, r⟩ := rs.get eq
          rw [hu] at hv
          cases hv
          exact q _ H μ Le.refl w r
        · exact q.elim
      · exact q.elim
    · exact q.elim
  · exact q.elim
theorem rfds_len {lk : Nat → Option PyData} : ∀ {xs : List D} {ds : List PyData}, rfds lk xs = some ds → xs.length = ds.length
  | [], ds, h => by cases h; rfl
  | x :: xs, ds, h => by
    have h : (match rfd lk x, rfds lk xs with
      | some d, some ds => some (d :: ds)
      | _, _ => none) = some ds := h
    split at h
    · rename_i e1 e2
      cases h
      rw [List.length_cons, List.length_cons, rfds_len e2]
    · cases h
theorem ok_sorted1 {K : PySem.W.Frag} (hK : K = G.K) : OkB1 G (rSortD K) sorted1 := by
  intro x S v μ H H0 Q QE w rx q
  unfold sorted1 at q
  split at q
  · rename_i xs e
    split at q
    · rename_i ds ed
      split at q
      · rename_i hk
        obtain ⟨a, vs, e3, hs, rs⟩ := lrdOf_ok w rx e
        have hd := rfds_ok (lkS_ok w 12) _ _ _ rs ed
        subst hK
        refine ⟨a, vs, ds, by rw [e3], hs, hd, hk, fun p hp => ?_⟩
        exact q _ _ μ (Le.laid hp) (w.laid hp) (Rx.fresh w hp hp (rs.sortBy (rfds_len ed)))
      · exact q.elim
    · exact q.elim
  · exact q.elim
def min1V := best1 leastIx
def max1V := best1 greatIx
end Bz

set_option Elab.async false
set_option linter.all false
set_option maxRecDepth 100000
set_option maxHeartbeats 2000000
/-! Bz, dicts made: {}, displays. -/
namespace Bz
open PySem PySem.Spec PyProof.Rows L2
section
variable {G : Gm} {E : XK} {X : Cx} {pos : Pos}
/-- {}: keys ints and texts; keys tuples of these -/
def eDnK : ExM := fun _ S => .ok (.newk []) S
def eDnT : ExM := fun _ S => .ok (.newt []) S
theorem Rx.freshK {μ : Mp} {H H0 : Hp} {S : Sto} {p : Addr} {kvs : List (Key × D)} {vs : List (Key × V)} (w : Wd G μ H S) (hp : H p = none) (h0 : H0 p = none) (r : KvR G μ H kvs vs) : Rx G H0 μ (upd H p (.dK vs)) (.newk kvs) (.ref p) :=
  ⟨p, vs, rfl, upd_same, w.free hp, h0, r.mono fun _ _ q => (Le.laid hp).rs w q⟩
theorem Rx.freshT {μ : Mp} {H H0 : Hp} {S : Sto} {p : Addr} {kvs : List (List Key × D)} {vs : List (List Key × V)} (w : Wd G μ H S) (hp : H p = none) (h0 : H0 p = none) (r : KvR G μ H kvs vs) : Rx G H0 μ (upd H p (.dT vs)) (.newt kvs) (.ref p) :=
  ⟨p, vs, rfl, upd_same, w.free hp, h0, r.mono fun _ _ q => (Le.laid hp).rs w q⟩
theorem de_dnK : PE X (.Dict [] [] pos) (tD G E eDnK) := PE.wk pe_dnewK fun σ H Q ⟨μ, S, env, w, er, h⟩ => fun p hp => h _ _ μ (Le.laid hp) (w.laid hp) (Rx.freshK w hp hp KvR.nil)
theorem de_dnT : PE X (.Dict [] [] pos) (tD G E eDnT) := PE.wk pe_dnewT fun σ H Q ⟨μ, S, env, w, er, h⟩ => fun p hp => h _ _ μ (Le.laid hp) (w.laid hp) (Rx.freshT w hp hp KvR.nil)
variable {μ μ' : Mp} {H H' : Hp} {S S' : Sto} {env : Env} {σ : L2.St}
/-- pairs of a display -/
def pairsM : List (ExM × ExM) → Env → Sto → Res (List (D × D))
  | [], _, S => .ok [] S
  | (f, g) :: r, env, S => bnd (f env S) fun x S1 => bnd (stl x S1) fun k S2 => bnd (g env S2) fun y S3 => bnd (stl y S3) fun v S4 => bnd (pairsM r env S4) fun ps S5 => .ok ((k, v) :: ps) S5
/-- pairs as they lie -/
def PsR (G : Gm) (μ : Mp) (H : Hp) (ds : List (D × D)) (vs : List (V × V)) : Prop := Rs G μ H (ds.map Prod.fst) (vs.map Prod.fst) ∧ Rs G μ H (ds.map Prod.snd) (vs.map Prod.snd) ∧ ds.length = vs.length
theorem pairs_go : ∀ {fs : List (ExM × ExM)} {μ : Mp} {H : Hp} {S : Sto} {Q : List (V × V) → Hp → Prop} {P : List (D × D) → Sto → Prop}, Wd G μ H S → EnvR G μ H env σ → Post (pairsM fs env S) P (ExP G E μ H) →
    (∀ ds S1 vs H1 μ1, Le μ H μ1 H1 → Wd G μ1 H1 S1 → PsR G μ1 H1 ds vs → P ds S1 → Q vs H1) → tPairs (fs.map fun p => (tD G E p.1, tD G E p.2)) σ H Q
  | [], μ, H, S, Q, P, w, er, h, k => k [] S [] H μ Le.refl w ⟨.nil, .nil, rfl⟩ h
  | (f, g) :: r, μ, H, S, Q, P, w, er, h, k => by
    refine tD_go w er (post_bnd.1 h) fun x S1 v H1 μ1 l1 w1 er1 rx h1 => ?_
    obtain ⟨d, S2, μ2, e2, l2, w2, r2, m2⟩ := stl_ok l1 w1 rx
    rw [e2] at h1
    refine tD_go w2 (l2.envR w er) (post_ex l2 (post_bnd.1 (show Post (bnd (g env S2) _) _ _ from h1)) fun _ _ z => z) fun y S3 u H3 μ3 l3 w3 er3 ry h3 => ?_
    obtain ⟨e, S4, μ4, e4, l4, w4, r4, m4⟩ := stl_ok l3 w3 ry
    rw [e4] at h3
    have l24 := l2.trans l4
    refine pairs_go w4 (l24.envR w er) (post_ex l24 (post_bnd.1 (show Post (bnd (pairsM r env S4) _) _ _ from h3)) fun _ _ z => z) fun ds S5 vs H5 μ5 l5 w5 rs h5 => ?_
    refine k ((d, e) :: ds) S5 ((v, u) :: vs) H5 μ5 (l24.trans l5) w5 ⟨.cons (l5.r w4 (l4.r w2 r2)) rs.1, .cons (l5.r w4 r4) rs.2.1, by rw [List.length_cons, List.length_cons, rs.2.2]⟩ h5
def kvsOf : List (D × D) → Option (List (Key × D))
  | [] => some []
  | (k, v) :: r => match keyOf k, kvsOf r with
    | some k, some kvs => some ((k, v) :: kvs)
    | _, _ => none
theorem kvsOf_ok : ∀ {ds : List (D × D)} {vs : List (V × V)} {kvs : List (Key × D)}, PsR G μ H ds vs → kvsOf ds = some kvs → ∃ us : List (Key × V), vs = us.map (fun kv => (kV kv.1, kv.2)) ∧ KvR G μ H kvs us
  | [], vs, kvs, r, h => by
    cases h
    have := r.2.2
    cases vs with
    | nil => exact ⟨[], rfl, .nil⟩
    | cons p q => cases this
  | (k, v) :: ds, vs, kvs, r, h => by
    have h : (match keyOf k, kvsOf ds with
      | some k, some kvs => some ((k, v) :: kvs)
      | _, _ => none) = some kvs := h
    obtain ⟨r1, r2, r3⟩ := r
    cases vs with
    | nil => cases r3
    | cons p vs =>
      obtain ⟨a, b⟩ := p
      cases r1 with
      | cons k1 t1 =>
        cases r2 with
        | cons k2 t2 =>
          split at h
          · rename_i k' kvs' e1 e2
            cases h
            obtain ⟨us, e3, t⟩ := kvsOf_ok ⟨t1, t2, Nat.succ.inj r3⟩ e2
            have e4 : a = kV k' := keyOf_ok k1 e1
            exact ⟨(k', b) :: us, by rw [e3, e4]; rfl, .cons k2 t⟩
          · cases h
def mergeA {κ α : Type} [DecidableEq κ] (kvs more : List (κ × α)) : List (κ × α) := more.foldl (fun acc kv => putA acc kv.1 kv.2) kvs
theorem KvR.merge {κ : Type} [DecidableEq κ] {μ : Mp} {H : Hp} : ∀ {more : List (κ × D)} {us : List (κ × V)} {kvs : List (κ × D)} {vs : List (κ × V)}, KvR G μ H more us → KvR G μ H kvs vs → KvR G μ H (mergeA kvs more) (us.foldl (fun acc kv => putK acc kv.1 kv.2) vs)
  | [], us, kvs, vs, h, t => by
    have := h.len
    cases us with
    | nil => exact t
    | cons p q => cases this
  | (k, d) :: more, us, kvs, vs, h, t => by
    obtain ⟨v, us', rfl, r, h'⟩ := h.inv
    exact KvR.merge (more := more) (us := us') (kvs := putA kvs k d) (vs := putK vs k v) h' (t.put r k)
/-- {k: v, ..} -/
def eDisp (fs : List (ExM × ExM)) : ExM := fun env S => bnd (pairsM fs env S) fun ps S1 => match kvsOf ps with
  | some kvs => if kvs.length ≤ 15 then .ok (.newk (mergeA [] kvs)) S1 else .bad
  | none => .bad
theorem de_disp {keys : List (Option Expr)} {values : List Expr} {fs : List (ExM × ExM)} (h : PPs X pos keys values (fs.map fun p => (tD G E p.1, tD G E p.2))) (hall : keys.all (·.isSome) = true) (hl : keys.length = values.length) (h0 : keys ≠ []) (h15 : keys.length ≤ 15) :
    PE X (.Dict keys values pos) (tD G E (eDisp fs)) := PE.wk (pe_disp h hall hl h0 h15) fun σ H Q ⟨μ, S, env, w, er, h⟩ => fun p hp => by
  have w0 := w.laid (o := .dK []) hp
  have l0 : Le μ H μ (upd H p (.dK [])) := Le.laid hp
  refine pairs_go w0 (l0.envR w er) (post_ex l0 (post_bnd.1 h) fun _ _ z => z) fun ds S1 vs H1 μ1 l1 w1 rs h1 => ?_
  have hp1 : H1 p = some (.dK []) := l1.kept p _ upd_same fun n z => w.free hp n z
  have hn1 : ∀ n, μ1 n ≠ some p := fun n z => by
    rcases l1.new n p z with q | q
    · exact w.free hp n q
    · rw [upd_same] at q; cases q
  refine ⟨hp1, ?_⟩
  split at h1
  · rename_i kvs e
    split at h1
    · rename_i hz
      obtain ⟨us, e1, kv⟩ := kvsOf_ok rs e
      refine ⟨us, e1, by rw [← kv.len]; exact hz, ?_⟩
      have w2 := w1.outs (o := .dK (mergeK [] us)) hp1 rfl hn1
      have l2 : Le μ H μ1 (upd H1 p (.dK (mergeK [] us))) := (l0.trans l1).outs hp
      have kv2 : KvR G μ1 (upd H1 p (.dK (mergeK [] us))) (mergeA [] kvs) (mergeK [] us) := KvR.merge (kv.mono fun _ _ r => r.outs hp1 rfl) .nil
      exact h1 _ _ μ1 l2 w2 ⟨p, _, rfl, upd_same, hn1, hp, kv2⟩
    · exact h1.elim
  · exact h1.elim

/-! ### dict(x) -/
def pairOf : D → Option (D × D)
  | .tup [a, b] => some (a, b)
  | .tuf [a, b] => some (a, b)
  | _ => none
def pairsOf : List D → Option (List (Key × D))
  | [] => some []
  | d :: ds => match pairOf d, pairsOf ds with
    | some (k, v), some kvs => (keyOf k).map fun k => (k, v) :: kvs
    | _, _ => none
theorem pairOf_ok {d a b : D} {v : V} (r : R G μ H d v) (h : pairOf d = some (a, b)) : ∃ p x y, v = .ref p ∧ SqT G.K H p [x, y] ∧ R G μ H a x ∧ R G μ H b y := by
  unfold pairOf at h
  split at h
  · cases h
    cases r with
    | tup hs rs => cases rs with
      | cons r1 rs => cases rs with
        | cons r2 rs => cases rs; exact ⟨_, _, _, rfl, SqT.of hs, r1, r2⟩
  · cases h
    cases r with
    | tuf hs rs =>
      obtain ⟨o, _, hs⟩ := hs
      cases rs with
      | cons r1 rs => cases rs with
        | cons r2 rs => cases rs; exact ⟨_, _, _, rfl, .inl (.inr ⟨o, hs⟩), r1, r2⟩
  · cases h
theorem pairsOf_ok : ∀ {ds : List D} {vs : List V} {kvs : List (Key × D)}, Rs G μ H ds vs → pairsOf ds = some kvs → ∃ (ps : List Addr) (us : List (Key × V)), vs = ps.map V.ref ∧ Paired (fun p kv => SqT G.K H p [kV kv.1, kv.2]) ps us ∧ KvR G μ H kvs us
  | [], _, kvs, .nil, h => by cases h; exact ⟨[], [], rfl, .nil, .nil⟩
  | d :: ds, _, kvs, .cons r rs, h => by
    have h : (match pairOf d, pairsOf ds with
      | some (k, v), some kvs => (keyOf k).map fun k => (k, v) :: kvs
      | _, _ => none) = some kvs := h
    split at h
    · rename_i k v kvs' e1 e2
      obtain ⟨k', e3, e4⟩ := Option.map_eq_some_iff.mp h
      subst e4
      obtain ⟨p, x, y, e5, hs, rk, rv⟩ := pairOf_ok r e1
      have := keyOf_ok rk e3
      subst this e5
      obtain ⟨ps, us, e6, hp, kv⟩ := pairsOf_ok rs e2
      subst e6
      exact ⟨p :: ps, (k', y) :: us, rfl, .cons hs hp, .cons rv kv⟩
    · cases h
def dictV (x : Rv) (S : Sto) : Res Rv := match kOf x S with
  | some kvs => .ok (.newk kvs) S
  | none => match lrdOf x S with
    | some xs => (match pairsOf xs with
      | some kvs => .ok (.newk (mergeA [] kvs)) S
      | none => .bad)
    | none => match x with
      | .val (.tuf xs) => (match pairsOf xs with
        | some kvs => .ok (.newk (mergeA [] kvs)) S
        | none => .bad)
      | _ => .bad
theorem paired_at {α β : Type} {R : α → β → Prop} : ∀ {xs : List α} {ys : List β}, Paired R xs ys → ∀ {j : Nat} {y : β}, ys[j]? = some y → ∃ x, xs[j]? = some x ∧ R x y
  | _, _, .nil, j, y, h => by simp at h
  | _, _, .cons h t, 0, y, e => by simp at e; subst e; exact ⟨_, rfl, h⟩
  | _, _, .cons h t, j + 1, y, e => by
    obtain ⟨x, e1, e2⟩ := paired_at t (j := j) (y := y) (by simpa using e)
    exact ⟨x, by simpa using e1, e2⟩
def key0 (h : Heap) (ps : List Addr) (j : Nat) : Value := match (ps[j]?).bind h.get? with
  | some ob => (match ob.data with
    | .seq items _ => items[0]?.getD .none
    | _ => .none)
  | none => .none
theorem key0_eq {h : Heap} {ps : List Addr} {j : Nat} {b : Addr} {u x : Value} (e : ps[j]? = some b) (i : IsTup h b #[u, x]) : key0 h ps j = u := by
  obtain ⟨ob, g1, g2, n, g4⟩ := i
  unfold key0
  rw [e, Option.bind_some, g1]
  simp only [g4]
  rfl
/-- dict(t) of a tuple of pairs -/
theorem call_dictT (hcalm : X.calm = true) : CallR X (.type "dict") (fun xs H Q => ∃ (a : Addr) (o : Obj) (ps : List Addr) (kvs : List (Key × V)), xs = [.ref a] ∧ o.dict = none ∧ H a = some (.frz o (.tup (ps.map V.ref))) ∧ Paired (fun p kv => SqT X.K H p [kV kv.1, kv.2]) ps kvs ∧
    ∀ p, H p = none → Q (.ref p) (upd H p (.dK (mergeK [] kvs)))) := by
  intro pins s σ H xs us Q I r q
  obtain ⟨a, o, ps, kvs, ex, hod, hq, hp, q⟩ := q
  subst ex
  obtain ⟨u, eu, rx⟩ := vals1 r
  subst eu
  cases rx
  obtain ⟨ho, hz, its, rv, o2, ho2, hc, n, hdat⟩ := (show ObjOk X.prog X.w H s.heap a (.frz o (.tup (ps.map V.ref))) from I.hok a _ hq)
  rw [ho] at ho2
  cases ho2
  have ei := refs_at rv
  subst ei
  rw [List.length_map] at hz
  obtain ⟨prs, rel, hl, hpr⟩ := pairs_of I hp
  have hlen : ps.length = prs.length := hl.symm
  let P := PySem.PairArg.tuple (prog := X.prog) (w := X.w) a (ps.map Value.ref).toArray (fun j => (ps[j]?).getD 0) (prs.mapIdx fun j q => (key0 s.heap ps j, q.2))
  refine PySem.call_dict_pairs (knd := mixKind X.prog X.w) (kvs := prs) P (I.ok.hd hcalm) ⟨⟨o, n, ho, hc, hod, hdat⟩, ?_, ?_⟩ ⟨?_, ?_⟩ ?_ fun h' tk hd' k => ?_
  · simp [hlen]
  · intro j k v e
    rw [List.getElem?_mapIdx] at e
    obtain ⟨q', e1, e2⟩ := Option.map_eq_some_iff.mp e
    obtain ⟨b, u, f1, f2, f3⟩ := hpr j q' e1
    rw [key0_eq f1 f2] at e2
    cases e2
    refine ⟨by simp [f1], .inl ?_⟩
    have eb : (ps[j]?).getD 0 = b := by rw [f1]; rfl
    show s.heap.IsTuple ((ps[j]?).getD 0) _
    rw [eb]
    obtain ⟨ob, g1, g2, g3⟩ := f2
    exact ⟨ob, g1, g2, g3⟩
  · simp
  · intro i key v rel'
    have e : (prs.mapIdx _)[i]? = some (key, v) := rel'
    rw [List.getElem?_mapIdx] at e
    obtain ⟨q', e1, e2⟩ := Option.map_eq_some_iff.mp e
    obtain ⟨b, u, f1, f2, f3⟩ := hpr i q' e1
    rw [key0_eq f1 f2] at e2
    cases e2
    exact ⟨q'.1, by rw [e1], f3⟩
  · simp; omega
  · have hm : (s.heap.objs.size == sysModules) = false := beq_eq_false_iff_ne.mpr (Nat.ne_of_gt I.big)
    have hlen : (mergeK [] kvs).length ≤ sizeLine := by
      refine Nat.le_trans (length_mergeK kvs []) ?_
      rw [List.length_nil, Nat.zero_add, rel.length, hl]
      exact hz
    exact ⟨.ref s.heap.objs.size, upd H s.heap.objs.size (.dK (mergeK [] kvs)), I.laid (t' := tk) (fun b o e => k b o (by simp) e) (Nat.le_refl _) (show ObjOk X.prog X.w _ _ _ (.dK (mergeK [] kvs)) from ⟨hlen, hm, merged [] prs, KV.merge rel .nil, hd'⟩), rfl, q _ (I.hok.fresh (Nat.le_refl _))⟩
theorem ok_dict (hK : X.K = G.K) (hc : X.calm = true) : ∃ r, CallR X (.type "dict") r ∧ OkB1 G r dictV := by
  refine ⟨_, CallR.or call_dictD (CallR.or (call_dictP hc) (call_dictT hc)), ?_⟩
  intro x S v μ H H0 Q QE w rx q
  unfold dictV at q
  split at q
  · rename_i kvs e
    obtain ⟨a, vs, rfl, hx, kv⟩ := kOf_ok w rx e
    exact .inl ⟨a, vs, rfl, hx, fun p hp => q _ _ μ (Le.laid hp) (w.laid hp) (Rx.freshK w hp hp kv)⟩
  · split at q
    · rename_i xs e
      obtain ⟨b, vs, e3, hs, rs⟩ := lrdOf_ok w rx e
      split at q
      · rename_i kvs e4
        obtain ⟨ps, us, e5, hp, kv⟩ := pairsOf_ok rs e4
        subst e3 e5
        rw [← hK] at hs hp
        exact .inr (.inl ⟨b, ps, us, rfl, hs, hp, fun p hp => q _ _ μ (Le.laid hp) (w.laid hp) (Rx.freshK w hp hp (KvR.merge kv .nil))⟩)
      · exact q.elim
    · split at q
      · rename_i xs
        split at q
        · rename_i kvs e4
          cases rx with
          | @tuf _ b vs hs rs =>
            obtain ⟨o, hod, hs⟩ := hs
            obtain ⟨ps, us, e5, hp, kv⟩ := pairsOf_ok rs e4
            subst e5
            rw [← hK] at hp
            exact .inr (.inr ⟨b, o, ps, us, rfl, hod, hs, hp, fun p hp => q _ _ μ (Le.laid hp) (w.laid hp) (Rx.freshK w hp hp (KvR.merge kv .nil))⟩)
        · exact q.elim
      · exact q.elim
end
end Bz

set_option Elab.async false
set_option linter.all false
set_option maxRecDepth 100000
set_option maxHeartbeats 2000000
/-! Bz, dicts asked, walked, made by comprehensions; texts in order. -/
namespace Bz
open PySem PySem.Spec PyProof.Rows L2
/-! ### texts in order -/
def leStr (a b : Str) : Bool := !ltCps b.cps.toList a.cps.toList
theorem leStr_eq (a b : Str) : leStr a b = decide (a.cps.toList ≤ b.cps.toList) := by
  unfold leStr
  rw [ltCps_eq]
  by_cases h : b.cps.toList < a.cps.toList
  · rw [decide_eq_true h, decide_eq_false (fun z => absurd h (List.not_lt.mpr z))]; rfl
  · rw [decide_eq_false h, decide_eq_true (List.not_lt.mp h)]; rfl
theorem leStr_trans {a b c : Str} (h1 : leStr a b = true) (h2 : leStr b c = true) : leStr a c = true := by
  rw [leStr_eq] at *
  exact decide_eq_true (List.le_trans (of_decide_eq_true h1) (of_decide_eq_true h2))
theorem leStr_total (a b : Str) : (leStr a b || leStr b a) = true := by
  rw [leStr_eq, leStr_eq, Bool.or_eq_true]
  rcases List.le_total a.cps.toList b.cps.toList with h | h
  · exact .inl (decide_eq_true h)
  · exact .inr (decide_eq_true h)
theorem str_ext {a b : Str} (h : a.cps.toList = b.cps.toList) : a = b := by
  cases a with | mk x => cases b with | mk y => rw [show x = y from Array.ext' h]
theorem leStr_anti {a b : Str} (h1 : leStr a b = true) (h2 : leStr b a = true) : a = b := by
  rw [leStr_eq] at *
  exact str_ext (List.le_antisymm (of_decide_eq_true h1) (of_decide_eq_true h2))
def sortStrs (ks : List Str) : List Str := ks.mergeSort leStr
theorem sortStrs_perm (ks : List Str) : (sortStrs ks).Perm ks := List.mergeSort_perm _ _
theorem sortStrs_pw (ks : List Str) : (sortStrs ks).Pairwise (fun a b => leStr a b = true) := List.pairwise_mergeSort (le := leStr) (fun _ _ _ => leStr_trans) leStr_total ks
theorem risingS_pw : ∀ (p : Str) (l : List Str), risingS p l = true → (p :: l).Pairwise (fun a b => leStr a b = true)
  | p, [], _ => List.pairwise_singleton _ _
  | p, x :: r, h => by
    have h : (!ltCps x.cps.toList p.cps.toList && risingS x r) = true := h
    rw [Bool.and_eq_true] at h
    have ih := risingS_pw x r h.2
    refine List.pairwise_cons.mpr ⟨fun y hy => ?_, ih⟩
    rcases List.mem_cons.mp hy with rfl | hy
    · exact h.1
    · exact leStr_trans h.1 ((List.pairwise_cons.mp ih).1 y hy)
theorem sortedS_pw : ∀ (l : List Str), sortedS l = true → l.Pairwise (fun a b => leStr a b = true)
  | [], _ => .nil
  | x :: r, h => risingS_pw x r h
theorem sorted_one {ys zs : List Str} (hp : ys.Perm zs) (h1 : ys.Pairwise (fun a b => leStr a b = true)) (h2 : zs.Pairwise (fun a b => leStr a b = true)) : ys = zs :=
  hp.eq_of_pairwise (fun _ _ _ _ a b => leStr_anti a b) h1 h2
theorem sortStrs_eq {ks ys : List Str} (hp : ys.Perm ks) (h : sortedS ys = true) : ys = sortStrs ks := sorted_one (hp.trans (sortStrs_perm ks).symm) (sortedS_pw ys h) (sortStrs_pw ks)
/-! ### sorted(d), keys texts -/
def keyS : Key → Option Str
  | .inr x => some x
  | _ => none
def keysS (ks : List Key) : Option (List Str) := ks.mapM keyS
theorem keysS_ok : ∀ {ks : List Key} {ss : List Str}, keysS ks = some ss → ks = ss.map Sum.inr
  | [], ss, h => by cases h; rfl
  | k :: ks, ss, h => by
    unfold keysS at h
    rw [List.mapM_cons] at h
    cases k with
    | inl i => cases h
    | inr x =>
      cases e : ks.mapM keyS with
      | none => rw [e] at h; cases h
      | some r =>
        rw [e] at h
        cases h
        rw [List.map_cons, ← keysS_ok (ks := ks) (ss := r) e]
theorem keysS_inr (ss : List Str) : keysS (ss.map Sum.inr) = some ss := by
  induction ss with
  | nil => rfl
  | cons x ss ih =>
    unfold keysS at ih ⊢
    rw [List.map_cons, List.mapM_cons, ih]
    rfl
def sortedV (x : Rv) (S : Sto) : Res Rv := match kOf x S with
  | some kvs => (match keysS (kvs.map Prod.fst) with
    | some ss => if ss.length < 64 then .ok (.new ((sortStrs ss).map D.str)) S else .bad
    | none => .bad)
  | none => sorted1 x S
section
variable {G : Gm} {E : XK} {X : Cx} {o a b e tg : Expr} {fo fa fb fe : ExM} {apos cpos pos p : Pos} {μ μ1 : Mp} {H H0 H1 : Hp} {S : Sto} {env : Env} {σ : L2.St}
theorem ok_sorted (hK : X.K = G.K) (hc : X.calm = true) (hu : X.A.units + 64 < cLine) : ∃ r, CallR X (.builtin "sorted") r ∧ OkB1 G r sortedV := by
  refine ⟨_, CallR.or (cr_sortedD hu) (call_sortedD hc), ?_⟩
  intro x S v μ H H0 Q QE w rx q
  unfold sortedV at q
  split at q
  · rename_i kvs e
    split at q
    · rename_i ss e2
      split at q
      · rename_i h64
        obtain ⟨a, vs, rfl, hx, kv⟩ := kOf_ok w rx e
        refine .inr ⟨a, vs, ss, rfl, hx, ?_, h64, fun ys p h1 h2 hp => ?_⟩
        · have := keysS_ok e2
          rw [← kv.1]; exact this
        · rw [sortStrs_eq h1 h2]
          exact q _ _ μ (Le.laid hp) (w.laid hp) (Rx.fresh w hp hp (Rs.of_strs _))
      · exact q.elim
    · exact q.elim
  · exact .inl (ok_sorted1 hK x S v μ H H0 Q QE w rx q)
/-! ### d.get -/
def isDV (x : Rv) (S : Sto) : Bool := (kOf x S).isSome || (tOf x S).isSome
theorem isDV_ok {x : Rv} {v : V} (w : Wd G μ H S) (r : Rx G H0 μ H x v) (h : isDV x S = true) : ∃ a, v = .ref a ∧ IsD H a := by
  unfold isDV at h
  rw [Bool.or_eq_true] at h
  rcases h with h | h
  · obtain ⟨kvs, e⟩ := Option.isSome_iff_exists.mp h
    obtain ⟨a, vs, rfl, hx, _⟩ := kOf_ok w r e
    exact ⟨a, rfl, .inl ⟨_, hx⟩⟩
  · obtain ⟨kvs, e⟩ := Option.isSome_iff_exists.mp h
    obtain ⟨a, vs, rfl, hx, _⟩ := tOf_ok w r e
    exact ⟨a, rfl, .inr ⟨_, hx⟩⟩
def eGet1 (fo fa : ExM) : ExM := fun env S => bnd (fo env S) fun x S1 => if isDV x S1 = true then bnd (fa env S1) fun y S2 => (match lookD x y S2 with
  | some o => .ok (.val (o.getD .non)) S2
  | none => .bad) else .bad
def eGet2 (fo fa fb : ExM) : ExM := fun env S => bnd (fo env S) fun x S1 => if isDV x S1 = true then bnd (fa env S1) fun y S2 => bnd (fb env S2) fun z S3 => (match lookD x y S3 with
  | some (some d) => .ok (.val d) S3
  | some none => .ok z S3
  | none => .bad) else .bad
theorem m1_ok {m : Str} (hb : baseOk o = true) (hl : (apos.endLine == cpos.line) = true) (hp : plainE a = true) : M1 X o m apos a cpos :=
  ⟨base_plain hb _ _ _, few_ok (es := [a]) (by simp [hp]) (by simp), hl, by rw [star_plain hp]; rfl⟩
theorem m2_ok {m : Str} (hb : baseOk o = true) (hl : (apos.endLine == cpos.line) = true) (hp : plainE a = true) (hp2 : plainE b = true) : M2 X o m apos a b cpos :=
  ⟨base_plain hb _ _ _, few_ok (es := [a, b]) (by simp [hp, hp2]) (by simp), hl, by rw [star_plain hp, star_plain hp2]; rfl⟩
theorem de_get1 (hu : X.A.units + 64 < cLine) (hb : baseOk o = true) (hl : (apos.endLine == cpos.line) = true) (hp : plainE a = true) (ho : PE X o (tD G E fo)) (ha : PE X a (tD G E fa)) : PE X (.Call (.Attribute o "get" apos) [a] [] cpos) (tD G E (eGet1 fo fa)) :=
  PE.wk (pe_dget1 (by omega) ho ha (m1_ok hb hl hp)) fun σ H Q ⟨μ, S, env, w, er, h⟩ => by
    refine tD_go w er (post_bnd.1 h) fun x S1 v H1 μ1 l1 w1 er1 rx h1 => ?_
    split at h1
    · rename_i ed
      obtain ⟨d, rfl, hd⟩ := isDV_ok w1 rx ed
      refine ⟨d, rfl, hd, tD_go w1 er1 (post_ex l1 (post_bnd.1 h1) fun _ _ z => z) fun y S2 u H2 μ2 l2 w2 er2 ry h2 => ?_⟩
      split at h2
      · rename_i oo e2
        obtain ⟨a', ov, e3, g, hh⟩ := lookD_ok w2 (l2.rx w1 rx) ry e2
        cases e3
        refine ⟨ov, g, ?_⟩
        rcases hh with ⟨h5, h6⟩ | ⟨d', v', h5, h6, r⟩
        · subst h5 h6; exact h2 _ H2 μ2 (l1.trans l2) w2 .non
        · subst h5 h6; exact h2 _ H2 μ2 (l1.trans l2) w2 r
      · exact h2.elim
    · exact h1.elim
theorem de_get2 (hu : X.A.units + 64 < cLine) (hb : baseOk o = true) (hl : (apos.endLine == cpos.line) = true) (hp : plainE a = true) (hp2 : plainE b = true) (ho : PE X o (tD G E fo)) (ha : PE X a (tD G E fa)) (hb2 : PE X b (tD G E fb)) :
    PE X (.Call (.Attribute o "get" apos) [a, b] [] cpos) (tD G E (eGet2 fo fa fb)) :=
  PE.wk (pe_dget2 (by omega) ho ha hb2 (m2_ok hb hl hp hp2)) fun σ H Q ⟨μ, S, env, w, er, h⟩ => by
    refine tD_go w er (post_bnd.1 h) fun x S1 v H1 μ1 l1 w1 er1 rx h1 => ?_
    split at h1
    · rename_i ed
      obtain ⟨d, rfl, hd⟩ := isDV_ok w1 rx ed
      refine ⟨d, rfl, hd, tD_go w1 er1 (post_ex l1 (post_bnd.1 h1) fun _ _ z => z) fun y S2 u H2 μ2 l2 w2 er2 ry h2 => ?_⟩
      have l12 := l1.trans l2
      refine tD_go w2 er2 (post_ex l12 (post_bnd.1 h2) fun _ _ z => z) fun z S3 t H3 μ3 l3 w3 er3 rz h3 => ?_
      have l13 := l12.trans l3
      split at h3
      · rename_i dd e2
        obtain ⟨a', ov, e3, g, hh⟩ := lookD_ok w3 ((l2.trans l3).rx w1 rx) (l3.rx w2 ry) e2
        cases e3
        rcases hh with ⟨h5, h6⟩ | ⟨d', v', h5, h6, r⟩
        · cases h5
        · cases h5; subst h6; exact ⟨_, g, h3 _ H3 μ3 l13 w3 r⟩
      · rename_i e2
        obtain ⟨a', ov, e3, g, hh⟩ := lookD_ok w3 ((l2.trans l3).rx w1 rx) (l3.rx w2 ry) e2
        cases e3
        rcases hh with ⟨h5, h6⟩ | ⟨d', v', h5, h6, r⟩
        · subst h6; exact ⟨_, g, h3 _ H3 μ3 l13 w3 (l12.rx0 rz)⟩
        · cases h5
      · exact h3.elim
    · exact h1.elim
/-! ### list(d.items()) -/
def itemsD (kvs : List (Key × D)) : List D := kvs.map fun p => .tup [keyD p.1, p.2]
def eLIt (fo : ExM) : ExM := fun env S => bnd (fo env S) fun x S1 => match x with
  | .val (.loc n) => (match S1[n]? with
    | some (.dk kvs) => .ok (.new (itemsD kvs)) S1
    | _ => .bad)
  | .newk kvs => .ok (.new (itemsD kvs)) S1
  | _ => .bad
theorem Rs.items {H' : Hp} {L : List Addr} : ∀ {kvs : List (Key × D)} {vs : List (Key × V)} {ts : List Addr}, KvR G μ H' kvs vs → Paired (fun (t : Addr) (q : Key × V) => H' t = some (.tup [kV q.1, q.2])) ts vs → Rs G μ H' (itemsD kvs) (ts.map V.ref)
  | [], vs, ts, kv, hp => by
    have := kv.len
    cases vs with
    | nil => cases hp; exact .nil
    | cons p q => cases this
  | (k, d) :: kvs, vs, ts, kv, hp => by
    obtain ⟨v, us, rfl, r, kv'⟩ := kv.inv
    cases hp with
    | cons h t => exact .cons (.tup h (.cons (keyD_r k) (.one r))) (Rs.items (L := L) kv' t)
theorem Le.more {H' : Hp} (h : ∀ b o, H b = some o → H' b = some o) : Le μ H μ H' := ⟨fun _ _ h => h, fun _ _ h => .inl h, fun a o e _ => h a o e, fun a o u e => h a _ e, fun a o e => ⟨o, h a o e⟩⟩
theorem Wd.more {H' : Hp} (w : Wd G μ H S) (h : ∀ b o, H b = some o → H' b = some o) : Wd G μ H' S where
  dom := w.dom
  lt := w.lt
  inj := w.inj
  obj := fun n a ob hn hs => by
    have q := w.obj n a ob hn hs
    obtain ⟨u, hu⟩ := w.there hn
    exact ObR.keep (Le.more h) w (by rw [hu]; exact h a u hu) q
theorem de_listItems (hc : X.calm = true) (ho : PE X o (tD G E fo)) (hg : Gl X "list") (hm : X.mg "list" = none) (hb : baseOk o = true) (hl : (apos.endLine == cpos.line) = true) :
    PE X (.Call (.Name "list" p) [.Call (.Attribute o "items" apos) [] [] cpos] [] pos) (tD G E (eLIt fo)) :=
  PE.wk (LiI.pe_listItems hc ho hg hm (by decide +kernel) (base_plain hb _ _ _) hl) fun σ H Q ⟨μ, S, env, w, er, h⟩ => by
    refine tD_go w er (post_bnd.1 h) fun x S1 v H1 μ1 l1 w1 er1 rx h1 => ?_
    split at h1
    · rename_i n
      cases rx with
      | @loc _ a hn =>
        split at h1
        · rename_i kvs e
          obtain ⟨vs, ha, kv⟩ := w1.obj n a _ hn e
          refine ⟨a, vs, rfl, ha, fun H' p ts k1 k2 k3 k4 k5 k6 => ?_⟩
          have l := Le.more (μ := μ1) k1
          exact h1 _ H' μ1 (l1.trans l) (w1.more k1) ⟨p, _, rfl, k5, w1.free k2, l1.free k2, Rs.items (L := ts) (kv.mono fun _ _ q => l.rs w1 q) k6⟩
        · exact h1.elim
    · rename_i kvs
      obtain ⟨a, vs, rfl, ha, hn, h0, kv⟩ := rx
      refine ⟨a, vs, rfl, ha, fun H' p ts k1 k2 k3 k4 k5 k6 => ?_⟩
      have l := Le.more (μ := μ1) k1
      exact h1 _ H' μ1 (l1.trans l) (w1.more k1) ⟨p, _, rfl, k5, w1.free k2, l1.free k2, Rs.items (L := ts) (kv.mono fun _ _ q => l.rs w1 q) k6⟩
    · exact h1.elim
/-! ### walks over dicts that never change -/
def srKeys (f : ExM) : SrM := fun env S => bnd (f env S) fun x S1 => match x with
  | .val (.rod ks _) => .ok (ks.map keyD, []) S1
  | .val (.rot ks _) => .ok (ks.map (fun k => .tup (k.map keyD)), []) S1
  | _ => .bad
def srVals (f : ExM) : SrM := fun env S => bnd (f env S) fun x S1 => match x with
  | .val (.rod _ ds) => .ok (ds, []) S1
  | _ => .bad
def srItems (f : ExM) : SrM := fun env S => bnd (f env S) fun x S1 => match x with
  | .val (.rod ks ds) => .ok (itemsD (ks.zip ds), []) S1
  | _ => .bad
theorem KvR.at_ {κ : Type} {kvs : List (κ × D)} {vs : List (κ × V)} (h : KvR G μ H kvs vs) {i : Nat} {k : κ} {v : V} (e : vs[i]? = some (k, v)) : ∃ d, kvs[i]? = some (k, d) ∧ R G μ H d v := by
  have hl : kvs.length = vs.length := by have := congrArg List.length h.1; rwa [List.length_map, List.length_map] at this
  have hi := (List.getElem?_eq_some_iff.mp e).1
  obtain ⟨p, hp⟩ : ∃ p, kvs[i]? = some p := ⟨_, List.getElem?_eq_getElem (by omega)⟩
  have e1 : (kvs.map Prod.fst)[i]? = (vs.map Prod.fst)[i]? := by rw [h.1]
  rw [List.getElem?_map, List.getElem?_map, hp, e] at e1
  have e1 : p.1 = k := Option.some.inj e1
  obtain ⟨v', e2, r⟩ := h.2.get (i := i) (d := p.2) (by rw [List.getElem?_map, hp]; rfl)
  rw [List.getElem?_map, e] at e2
  cases e2
  exact ⟨p.2, by rw [hp, ← e1], r⟩
theorem KvR.le {κ : Type} {kvs : List (κ × D)} {vs : List (κ × V)} (h : KvR G μ H kvs vs) (l : Le μ H μ1 H1) (w : Wd G μ H S) : KvR G μ1 H1 kvs vs := h.mono fun _ _ q => l.rs w q
theorem Wk.keys {a : Addr} {od : Obj} {ks : List Key} {vs : List (Key × V)} {gs : Gs} (hd : H a = some (.frz od (.dK vs))) (e : ks = vs.map Prod.fst) : Wk G (Itk a od vs) (ks.map keyD) gs μ H := fun i μ2 H2 S2 l w2 g => by
  have hd2 := l.frz _ _ _ hd
  have hl : ks.length = vs.length := by rw [e, List.length_map]
  refine ⟨fun hi => ⟨hd2, by rw [List.length_map] at hi; omega⟩, fun d hdi => ?_⟩
  have hi := (List.getElem?_eq_some_iff.mp hdi).1
  rw [List.length_map] at hi
  refine ⟨⟨hd2, by omega⟩, fun x H3 ⟨e3, k, v, e4, e5⟩ => ?_⟩
  subst e3 e5
  rw [e, List.getElem?_map, List.getElem?_map, e4] at hdi
  cases hdi
  exact ⟨Le.refl, w2, keyD_r k⟩
theorem rs_keys : ∀ (k : List Key), Rs G μ H (k.map keyD) (k.map kV)
  | [] => .nil
  | k :: ks => .cons (keyD_r k) (rs_keys ks)
theorem Wk.keysT {a : Addr} {od : Obj} {ks : List (List Key)} {vs : List (List Key × V)} {gs : Gs} (hd : H a = some (.frz od (.dT vs))) (e : ks = vs.map Prod.fst) : Wk G (Itkt a od vs) (ks.map fun k => .tup (k.map keyD)) gs μ H := fun i μ2 H2 S2 l w2 g => by
  have hd2 := l.frz _ _ _ hd
  have hl : ks.length = vs.length := by rw [e, List.length_map]
  refine ⟨fun hi => ⟨hd2, by rw [List.length_map] at hi; omega⟩, fun d hdi => ?_⟩
  have hi := (List.getElem?_eq_some_iff.mp hdi).1
  rw [List.length_map] at hi
  refine ⟨⟨hd2, by omega⟩, fun x H3 ⟨e3, k, v, q, e4, e5, e6⟩ => ?_⟩
  subst e3 e5
  rw [e, List.getElem?_map, List.getElem?_map, e4] at hdi
  cases hdi
  exact ⟨Le.refl, w2, .tup e6 (rs_keys k)⟩
theorem Wk.vals {a : Addr} {od : Obj} {kvs : List (Key × D)} {vs : List (Key × V)} {gs : Gs} (w : Wd G μ H S) (hd : H a = some (.frz od (.dK vs))) (kv : KvR G μ H kvs vs) : Wk G (Itd a od vs) (kvs.map Prod.snd) gs μ H := fun i μ2 H2 S2 l w2 g => by
  have hd2 := l.frz _ _ _ hd
  have kv := kv.le l w
  have hl : kvs.length = vs.length := by have := congrArg List.length kv.1; rwa [List.length_map, List.length_map] at this
  refine ⟨fun hi => ⟨hd2, by rw [List.length_map] at hi; omega⟩, fun d hdi => ?_⟩
  have hi := (List.getElem?_eq_some_iff.mp hdi).1
  rw [List.length_map] at hi
  refine ⟨⟨hd2, by omega⟩, fun x H3 ⟨e3, k, e4⟩ => ?_⟩
  subst e3
  obtain ⟨d', e6, r⟩ := kv.at_ e4
  rw [List.getElem?_map, e6] at hdi
  cases hdi
  exact ⟨Le.refl, w2, r⟩
theorem Wk.items {a : Addr} {od : Obj} {kvs : List (Key × D)} {vs : List (Key × V)} {gs : Gs} (w : Wd G μ H S) (hd : H a = some (.frz od (.dK vs))) (kv : KvR G μ H kvs vs) : Wk G (Iti a od vs) (itemsD kvs) gs μ H := fun i μ2 H2 S2 l w2 g => by
  have hd2 := l.frz _ _ _ hd
  have kv := kv.le l w
  have hl : kvs.length = vs.length := by have := congrArg List.length kv.1; rwa [List.length_map, List.length_map] at this
  unfold itemsD
  refine ⟨fun hi => ⟨hd2, by rw [List.length_map] at hi; omega⟩, fun d hdi => ?_⟩
  have hi := (List.getElem?_eq_some_iff.mp hdi).1
  rw [List.length_map] at hi
  refine ⟨⟨hd2, by omega⟩, fun x H3 ⟨T, k, v, e4, e5, hT, e7⟩ => ?_⟩
  subst e5 e7
  obtain ⟨d', e6, r⟩ := kv.at_ e4
  rw [List.getElem?_map, e6] at hdi
  cases hdi
  exact ⟨Le.laid hT, w2.laid hT, R.fresh w2 hT (.cons (keyD_r k) (.one r))⟩
theorem di_keys (he : PE X e (tD G E fe)) : PI X tg e (tSr G E (srKeys fe)) := PI.wk (pi_keys he) fun σ H Rr ⟨μ, S, env, w, er, h⟩ => tD_go w er (post_bnd.1 h) fun x S1 v H1 μ1 l1 w1 er1 rx h1 => by
  split at h1
  · cases rx with
    | @rod _ _ a vs hs e r =>
      obtain ⟨od, hs⟩ := hs
      exact ⟨a, od, rfl, .inl ⟨vs, hs, h1 _ H1 μ1 l1 w1 (Wk.keys hs e)⟩⟩
  · cases rx with
    | @rot _ _ a vs hs e r =>
      obtain ⟨od, hs⟩ := hs
      exact ⟨a, od, rfl, .inr ⟨vs, hs, h1 _ H1 μ1 l1 w1 (Wk.keysT hs e)⟩⟩
  · exact h1.elim
theorem di_vals (hb : baseOk o = true) (hl : (apos.endLine == cpos.line) = true) (ho : PE X o (tD G E fo)) : PI X tg (.Call (.Attribute o "values" apos) [] [] cpos) (tSr G E (srVals fo)) :=
  PI.wk (pi_values ho (base_plain hb _ _ _) hl) fun σ H Rr ⟨μ, S, env, w, er, h⟩ => tD_go w er (post_bnd.1 h) fun x S1 v H1 μ1 l1 w1 er1 rx h1 => by
    split at h1
    · rename_i ks ds
      cases rx with
      | @rod _ _ a vs hs e r =>
        obtain ⟨od, hs⟩ := hs
        have kv := kvr_zip e r
        have := Wk.vals (gs := []) w1 hs kv
        have hl2 : ks.length = ds.length := by rw [e, List.length_map, r.length, List.length_map]
        rw [List.map_snd_zip (by omega)] at this
        exact ⟨a, od, vs, rfl, hs, h1 _ H1 μ1 l1 w1 this⟩
    · exact h1.elim
theorem di_items {elts : List Expr} {kk : Nat} {tpos : Pos} (hb : baseOk o = true) (hl : (apos.endLine == cpos.line) = true) (ho : PE X o (tD G E fo)) : PI X (.Tuple elts kk tpos) (.Call (.Attribute o "items" apos) [] [] cpos) (tSr G E (srItems fo)) :=
  PI.wk (pi_items ho (base_plain hb _ _ _) hl) fun σ H Rr ⟨μ, S, env, w, er, h⟩ => tD_go w er (post_bnd.1 h) fun x S1 v H1 μ1 l1 w1 er1 rx h1 => by
    split at h1
    · cases rx with
      | @rod ks ds a vs hs e r =>
        obtain ⟨od, hs⟩ := hs
        exact ⟨a, od, vs, rfl, hs, h1 _ H1 μ1 l1 w1 (Wk.items w1 hs (kvr_zip e r))⟩
    · exact h1.elim
/-- enumerate(xs) -/
def enumD (xs : List D) : List D := xs.mapIdx fun i x => .tup [.int (i : Nat), x]
def srEn (f : ExM) : SrM := fun env S => bnd (f env S) fun x S1 => match srcOf x S1 with
  | some s => if isTup x = false then .ok (enumD s.1, s.2) S1 else .bad
  | none => .bad
theorem Wk.enum {a : Addr} {xs : List D} {gs : Gs} (k : ∀ μ2 H2 S2, Le μ H μ2 H2 → Wd G μ2 H2 S2 → gok gs S2 = true → ∃ vs, SqL G.K H2 a vs ∧ Rs G μ2 H2 xs vs) : Wk G (Ite G.K a) (enumD xs) gs μ H := fun i μ2 H2 S2 l w2 g => by
  obtain ⟨vs, hs, rs⟩ := k μ2 H2 S2 l w2 g
  unfold enumD
  refine ⟨fun hi => ⟨vs, hs, by rw [List.length_mapIdx] at hi; rw [← rs.length]; exact hi⟩, fun d hd => ?_⟩
  rw [List.getElem?_mapIdx] at hd
  obtain ⟨d0, h0, h1⟩ := Option.map_eq_some_iff.mp hd
  subst h1
  obtain ⟨v, hv, rv⟩ := rs.get h0
  refine ⟨⟨vs, v, hs, hv⟩, fun x H3 ⟨T, y, e1, e2, e3, e4⟩ => ?_⟩
  subst e1 e3
  have e : v = y := Option.some.inj (hv.symm.trans (e4 vs hs))
  subst e
  exact ⟨Le.laid e2, w2.laid e2, R.fresh w2 e2 (.cons (.int _) (.one rv))⟩
theorem di_enum {elts : List Expr} {kk : Nat} {tpos : Pos} (hK : X.K = G.K) (hg : Gl X "enumerate") (hm : X.mg "enumerate" = none) (hp : plainE a = true) (ha : PE X a (tD G E fa)) : PI X (.Tuple elts kk tpos) (.Call (.Name "enumerate" p) [a] [] pos) (tSr G E (srEn fa)) :=
  PI.wk (pi_enum hg hm (pa_cons ha pa_nil (star_plain hp _ _)) (by rw [star_plain hp]; rfl)) fun σ H Rr ⟨μ, S, env, w, er, h⟩ => tD_go w er (post_bnd.1 h) fun x S1 v H1 μ1 l1 w1 er1 rx h1 => by
    split at h1
    · rename_i s es
      split at h1
      · rename_i ht
        obtain ⟨a', e1, ⟨vs, hs⟩, k⟩ := src_ok w1 rx es ht
        subst e1
        rw [hK]
        exact ⟨a', vs, rfl, hs, h1 _ H1 μ1 l1 w1 (Wk.enum k)⟩
      · exact h1.elim
    · exact h1.elim
end
end Bz

set_option Elab.async false
set_option linter.all false
set_option maxRecDepth 100000
set_option maxHeartbeats 2000000
/-! Bz, dicts by comprehensions; what is stored becomes a value; sources of any kind. -/
namespace Bz
open PySem PySem.Spec PyProof.Rows L2
def dcGo (gs : Gs) (tg : TgM) (ts : TsM) (fk fv : ExM) (env0 : Env) : List D → List (Key × D) → Sto → Res (List (Key × D))
  | [], acc, S => if gok gs S = true then .ok acc S else .bad
  | x :: xs, acc, S => if gok gs S = true then
      bnd (noex (tg x env0 S)) fun env1 S1 => bnd (noex (ts env1 S1)) fun k S2 =>
        if k = true then bnd (noex (fk env1 S2)) fun y S3 => bnd (stl y S3) fun kd S4 => bnd (noex (fv env1 S4)) fun z S5 => bnd (stl z S5) fun vd S6 => (match keyOf kd with
          | some key => dcGo gs tg ts fk fv env0 xs (putA acc key vd) S6
          | none => .bad)
        else dcGo gs tg ts fk fv env0 xs acc S2
    else .bad
def eDc (own : List Nat) (src : SrM) (tg : TgM) (ts : TsM) (fk fv : ExM) : ExM := fun env S => bnd (src env S) fun s S1 =>
  if s.1.length < big then bnd (dcGo s.2 tg ts fk fv (wipeE env own) s.1 [] S1) fun kvs S2 => .ok (.newk kvs) S2 else .bad
theorem putA_len {κ α : Type} [DecidableEq κ] (kvs : List (κ × α)) (k : κ) (v : α) : (putA kvs k v).length ≤ kvs.length + 1 := by
  unfold putA
  split <;> simp
section
variable {G : Gm} {E : XK} {μ μ' : Mp} {H H' H0 : Hp} {S S' : Sto} {X : Cx}
theorem tDc_of {src : SrM} {tgm : TgM} {tsm : TsM} {fk fv : ExM} {tl vs : List Nat} (hl : ∀ i ∈ tl, i ∈ vs) {σ : L2.St} {H : Hp} {Q : VK} (h : tD G E (eDc vs src tgm tsm fk fv) σ H Q) : tDc (tSr G E src) (tTg G X0 tl tgm) (tTs G X0 tsm) (tD G X0 fk) (tD G X0 fv) vs σ H Q := by
  obtain ⟨μ, S, env, w, er, h⟩ := h
  refine ⟨μ, S, env, w, er, (post_bnd.1 h).imp (fun s S1 h1 J H1 μ1 l1 w1 wk D hD => ?_) fun _ _ z => z⟩
  obtain ⟨items, gs⟩ := s
  by_cases hbig : items.length < big
  · have h1 : Post (if items.length < big then _ else Res.bad) _ _ := h1
    rw [if_pos hbig] at h1
    have h1 := post_bnd.1 h1
    have h0D : H D = none := l1.free hD
    refine ⟨fun i m Hh => ∃ μ2 S2 acc accD, Le μ H μ2 Hh ∧ Le μ1 H1 μ2 Hh ∧ Wd G μ2 Hh S2 ∧ Hh D = some (.dK acc) ∧ (∀ n, μ2 n ≠ some D) ∧ KvR G μ2 Hh accD acc ∧ accD.length ≤ i ∧ i ≤ items.length ∧ m = items.length - i ∧
      Post (dcGo gs tgm tsm fk fv (wipeE env vs) (items.drop i) accD S2) (fun ds S' => Gd G μ H Q (.newk ds) S') (ExP G E μ H), ⟨items.length, μ1, S1, [], [], l1.trans (Le.laid hD), Le.laid hD, w1.laid hD, upd_same, w1.free hD, .nil, Nat.le_refl _, Nat.zero_le _, rfl, ?_⟩, ?_⟩
    · rw [List.drop_zero]
      exact h1
    · rintro i m Hh ⟨μ2, S2, acc, accD, la, lb, w2, hDh, hnD, rs, hlen, hi, rfl, hp⟩
      by_cases hlt : i < items.length
      · refine .inr ?_
        rw [List.drop_eq_getElem_cons hlt] at hp
        unfold dcGo at hp
        by_cases g : gok gs S2 = true
        · rw [if_pos g] at hp
          obtain ⟨_, kd⟩ := wk i μ2 Hh S2 lb w2 g
          obtain ⟨go, yl⟩ := kd items[i] (List.getElem?_eq_getElem hlt)
          refine ⟨go, fun H' => ∃ m', m' < items.length - i ∧ ∃ μ2 S2 acc accD, Le μ H μ2 H' ∧ Le μ1 H1 μ2 H' ∧ Wd G μ2 H' S2 ∧ H' D = some (.dK acc) ∧ (∀ n, μ2 n ≠ some D) ∧ KvR G μ2 H' accD acc ∧ accD.length ≤ i + 1 ∧ i + 1 ≤ items.length ∧ m' = items.length - (i + 1) ∧
            Post (dcGo gs tgm tsm fk fv (wipeE env vs) (items.drop (i + 1)) accD S2) (fun ds S' => Gd G μ H Q (.newk ds) S') (ExP G E μ H), fun H' q => q, fun x H3 y => ?_⟩
          obtain ⟨l3, w3, r3⟩ := yl x H3 y
          have er3 : EnvR G μ2 H3 (wipeE env vs) (wipe σ vs) := ((la.trans l3).envR w er).wipe vs
          refine ⟨μ2, S2, wipeE env vs, items[i], w3, er3, r3, (post_noex (post_bnd.1 hp)).imp (fun env4 S4 h4 σ4 H4 μ4 l4 w4 er4 o4 => ⟨wipe_off o4 hl, ?_⟩) fun _ _ z => z⟩
          refine ⟨μ4, S4, env4, w4, er4, (post_noex (post_bnd.1 h4)).imp (fun k S5 h5 H5 μ5 l5 w5 => ?_) fun _ _ z => z⟩
          have L5 : Le μ2 Hh μ5 H5 := (l3.trans l4).trans l5
          have hD5 : H5 D = some (.dK acc) := L5.kept _ _ hDh hnD
          have hn5 : ∀ n, μ5 n ≠ some D := L5.fresh hDh hnD
          cases k with
          | true =>
            refine iteT ?_
            rw [if_pos rfl] at h5
            refine ⟨μ5, S5, env4, w5, l5.envR w4 er4, (post_noex (post_bnd.1 h5)).imp (fun y S6 h6 v H6 μ6 l6 w6 r6 => ?_) fun _ _ z => z⟩
            obtain ⟨d, S7, μ7, e7, l7, w7, r7, m7⟩ := stl_ok l6 w6 r6
            rw [e7] at h6
            refine ⟨μ7, S7, env4, w7, (l5.trans l7).envR w4 er4, (post_noex (post_bnd.1 h6)).imp (fun z S8 h8 u H8 μ8 l8 w8 r8 => ?_) fun _ _ z => z⟩
            obtain ⟨d2, S9, μ9, e9, l9, w9, r9, m9⟩ := stl_ok l8 w8 r8
            rw [e9] at h8
            have h8 : Post (match keyOf d with
              | some key => dcGo gs tgm tsm fk fv (wipeE env vs) (items.drop (i + 1)) (putA accD key d2) S9
              | none => .bad) _ _ := h8
            have L9 : Le μ2 Hh μ9 H8 := (L5.trans l7).trans l9
            have hD9 : H8 D = some (.dK acc) := L9.kept _ _ hDh hnD
            have hn9 : ∀ n, μ9 n ≠ some D := L9.fresh hDh hnD
            split at h8
            · rename_i key ek
              have ev := keyOf_ok r7 ek
              have kv9 := rs.mono fun _ _ q => L9.rs w2 q
              refine ⟨acc, key, ev, hD9, big_lt (by rw [← rs.len]; omega), items.length - (i + 1), by omega, μ9, S9, putK acc key u, putA accD key d2, (la.trans L9).outs h0D, (lb.trans L9).outs hD, w9.outs hD9 rfl hn9, upd_same, hn9, (kv9.put r9 key).mono fun _ _ q => q.outs hD9 rfl, ?_, by omega, rfl, h8⟩
              exact Nat.le_trans (putA_len _ _ _) (by omega)
            · exact h8.elim
          | false =>
            refine iteF ?_
            rw [if_neg Bool.false_ne_true] at h5
            exact ⟨items.length - (i + 1), by omega, μ5, S5, acc, accD, la.trans L5, lb.trans L5, w5, hD5, hn5, rs.mono fun _ _ q => L5.rs w2 q, by omega, by omega, rfl, h5⟩
        · rw [if_neg g] at hp
          exact hp.elim
      · have e : i = items.length := by omega
        subst e
        rw [List.drop_length] at hp
        unfold dcGo at hp
        by_cases g : gok gs S2 = true
        · rw [if_pos g] at hp
          have hp : Gd G μ H Q (.newk accD) S2 := hp
          exact .inl ⟨(wk items.length μ2 Hh S2 lb w2 g).1 (Nat.le_refl _), hp _ Hh μ2 la w2 ⟨D, acc, rfl, hDh, hnD, h0D, rs⟩⟩
        · rw [if_neg g] at hp
          exact hp.elim
  · have h1 : Post (if items.length < big then _ else Res.bad) _ _ := h1
    rw [if_neg hbig] at h1
    exact h1.elim
/-- y = {k: v for ..}: stored from within -/
theorem ps_setDc {i : Nat} {y : Str} {py : Pos} {kx vx tg iter : Expr} {ifs : List Expr} {scope : Scope} {own : List (Str × Nat)} {pos spos : Pos} {wi : TI} {g : TG} {tt : TT} {tk tv : TE} (hc : X.calm = true) (hN : X.N.Nodup) (hy : X.N[i]? = some y) (hyl : X.env.scope.names.lookup y = some .local)
    (hsw : swapsWith (.DictComp kx vx [⟨tg, iter, ifs, 0⟩] scope pos) (some (.Name y py)) spos.line X.env = pure true) (hi : PI X tg iter wi) (ok : BlkOk X.N X.env.scope scope own)
    (hg : ∀ (s : Shared) (H : Hp) (C : Addr) (cl : List (Str × Addr)) (fp : List Addr), PG (X.blk s H scope (compEnvC scope cl C X.env) fp) tg g) (ht : ∀ (s : Shared) (H : Hp) (C : Addr) (cl : List (Str × Addr)) (fp : List Addr), PTs (X.blk s H scope (compEnvC scope cl C X.env) fp) ifs tt)
    (hk : ∀ (s : Shared) (H : Hp) (C : Addr) (cl : List (Str × Addr)) (fp : List Addr), PE (X.blk s H scope (compEnvC scope cl C X.env) fp) kx tk)
    (he : ∀ (s : Shared) (H : Hp) (C : Addr) (cl : List (Str × Addr)) (fp : List Addr), PE (X.blk s H scope (compEnvC scope cl C X.env) fp) vx tv) (hs : ∀ x, foldedSetIterable iter X.env x = pure x) :
    PS X (.Assign [.Name y py] (.DictComp kx vx [⟨tg, iter, ifs, 0⟩] scope pos) spos) (tAsg (tDc wi g tt tk tv (own.map (·.2))) (gName i)) := by
  refine ⟨fun pins s σ H D I h => ?_⟩
  rw [exec_Assign_Name_used _ _ _ _ hsw]
  refine wpAny_bind (wpAny_standAt (wpAny_bind ?_))
  show wpAny _ X.A (do let _ ← comprehension (.DictComp kx vx [⟨tg, iter, ifs, 0⟩] scope pos) scope X.env (firstIterPos [⟨tg, iter, ifs, 0⟩] pos) newDict false (eval iter X.env) (some (assign (.Name y py) X.env))) _ _ s
  have h : tDc wi g tt tk tv (own.map (·.2)) σ H (fun x H1 => gName i x σ H1 D.nx) := h
  refine wpAny_bind (thn (dc_core (Qf := fun _ s' => SP X pins D .next s') hc hN I hi ok hg ht hk he hs h fun L C s' m H' I' q hn f => ?_) fun _ s' hq => wpAny_pure (wpAny_pure hq))
  show wpAny _ _ (assign (.Name y py) X.env (.ref L)) _ _ _
  refine wpAny_assign_Name (store_ok2 (v := V.ref L) I' hN hy (.inl hyl) rfl (fun s2 I2 ⟨a, sb, ha⟩ => ?_) (.inr hyl))
  obtain ⟨f0, f1, f2, f3, f4, f5⟩ := f
  have haC : C ≠ a := by
    rcases ha with z | z
    · rw [z]; exact f1
    · exact fun e => f4 y a z e.symm
  refine ⟨m, hn.sameBut sb haC, fun h3 sb3 => ?_⟩
  exact ⟨_, H', I2.turned (t' := s2.toks) (fun b o hb e => (sb3.2 b hb).trans e) f0 f1 f3 f4 f5, q⟩
theorem sw_trueD {kx vx : Expr} {gs : List Comprehension} {scope : Scope} {pos py : Pos} {y : Str} {l : Nat} {env : PySem.Env} (hk : env.scope.kind = .function) (hy : env.scope.names.lookup y = some .local) (hl : (py.line == pos.line) = true)
    (ha : (scope.names.any fun (n, k) => n == y && (k == .local || k == .cell)) = false) : swapsWith (.DictComp kx vx gs scope pos) (some (.Name y py)) l env = pure true := by
  have ky : env.kindOf y = some .local := hy
  have hb : env.blockKind = .function := by unfold Env.blockKind; rw [hk]; rfl
  unfold swapsWith
  simp only [hb, ky, ha, Expr.pos, hl]
  rfl
variable {env : Env} {σ : L2.St}
/-! ### what is stored is locked behind the statement -/
def LkP (P : Hp → Prop) (H : Hp) : Prop := P H ∨ ∃ d u, H d = some u ∧ Mut (some u) ∧ ∀ od, P (upd H d (.frz od u))
def tLkA (t : TS) : TS := fun D σ H => t ⟨fun σ' H' => LkP (D.nx σ') H', D.rt, D.bk, D.ct⟩ σ H
theorem ps_lkA {st : Stmt} {t : TS} (h : PS X st t) : PS X st (tLkA t) := ⟨fun pins s σ H D I hw => by
  refine thn (h.run pins s σ _ _ I hw) fun f s1 q => ?_
  cases f with
  | next =>
    obtain ⟨σ', H', I2, q⟩ := q
    rcases q with q | ⟨d, u, hd, mu, q⟩
    · exact ⟨σ', H', I2, q⟩
    · obtain ⟨od, I3⟩ := I2.lock hd mu
      exact ⟨σ', _, I3, q od⟩
  | brk => exact q
  | cont => exact q
  | ret v => exact q⟩
theorem EnvR.outs {env : Env} {σ : L2.St} {p : Addr} {o u : HO} (h : H p = some u) (hs : soft u = true) (er : EnvR G μ H env σ) : EnvR G μ (upd H p o) env σ := ⟨er.1, fun i d e => let ⟨v, e', r⟩ := er.2 i d e; ⟨v, e', r.outs h hs⟩⟩
theorem lkA_set {i : Nat} {fe : ExM} {Z : Ends} {σ : L2.St} {t : TE} (k : ∀ σ H Q, tD G E fe σ H Q → t σ H Q) (h : tSt G E (sAsg (eFz fe) (gNm i)) Z σ H) : tLkA (tAsg t (gName i)) Z σ H := by
  obtain ⟨μ, S, env, w, er, h⟩ := h
  show t σ H fun v H1 => gName i v σ H1 fun σ' H' => LkP (Z.nx σ') H'
  refine k _ _ _ ?_
  refine tD_go w er (post_bnd.1 (post_bnd.1 h)) fun x S1 v H1 μ1 l1 w1 er1 rx h1 => ?_
  show LkP (Z.nx (σ.set i (some v))) H1
  have fin : ∀ dd, Post (bnd (stl (.val dd) S1) fun d S2 => bnd (gNm i d env S2) fun env1 S3 => .ok (.nx env1) S3) (GdF G μ H Z) (ExP G E μ H) → GdF G μ H Z (.nx (env.set i (some dd))) S1 := fun dd hh => by
    have hh : Post (bnd (gNm i dd env S1) fun env1 S3 => .ok (.nx env1) S3) (GdF G μ H Z) (ExP G E μ H) := hh
    unfold gNm at hh
    by_cases hi : i < env.length
    · rw [if_pos hi] at hh
      exact hh
    · rw [if_neg hi] at hh
      exact hh.elim
  have h1 : Post (bnd (stl (fzN x) S1) fun d S2 => bnd (gNm i d env S2) fun env1 S3 => .ok (.nx env1) S3) (GdF G μ H Z) (ExP G E μ H) := h1
  cases x with
  | val d => exact .inl (fin d h1 H1 μ1 l1 w1 _ (er1.set rx))
  | new xs =>
    obtain ⟨a, vs, e, ha, hn, h0, rs⟩ := rx
    subst e
    exact .inr ⟨a, _, ha, trivial, fun od => fin _ h1 _ μ1 (l1.outs h0) (w1.outs ha rfl hn) _ ((er1.outs ha rfl).set (.rol (.inl ⟨od, upd_same⟩) (rs.outs ha rfl)))⟩
  | newk xs =>
    obtain ⟨a, vs, e, ha, hn, h0, rs⟩ := rx
    subst e
    exact .inr ⟨a, _, ha, trivial, fun od => fin _ h1 _ μ1 (l1.outs h0) (w1.outs ha rfl hn) _ ((er1.outs ha rfl).set (.rod ⟨od, upd_same⟩ rs.1 (rs.2.outs ha rfl)))⟩
  | newt xs =>
    obtain ⟨a, vs, e, ha, hn, h0, rs⟩ := rx
    subst e
    exact .inr ⟨a, _, ha, trivial, fun od => fin _ h1 _ μ1 (l1.outs h0) (w1.outs ha rfl hn) _ ((er1.outs ha rfl).set (.rot ⟨od, upd_same⟩ rs.1 (rs.2.outs ha rfl)))⟩
/-! ### what is walked: anything -/
def srB (fa : ExM) : SrM := fun env S => bnd (fa env S) fun x S1 => match x with
  | .val (.str z) => .ok (signs z, []) S1
  | .val (.rod ks _) => .ok (ks.map keyD, []) S1
  | .val (.rot ks _) => .ok (ks.map (fun k => .tup (k.map keyD)), []) S1
  | x => match srcOf x S1 with
    | some s => .ok s S1
    | none => .bad
def isDicV : Rv → Bool
  | .val (.rod _ _) => true
  | .val (.rot _ _) => true
  | _ => false
theorem di_B {tg e : Expr} {fa : ExM} (hK : X.K = G.K) (ha : PE X e (tD G E fa)) : PI X tg e (tSr G E (srB fa)) :=
  PI.wk (PI.or (di_keys ha) (di_any hK ha)) fun σ H Rr ⟨μ, S, env, w, er, h⟩ => by
    unfold srB at h
    cases q : fa env S with
    | ok x S1 =>
      rw [q] at h
      by_cases hx : isDicV x = true
      · refine .inl ⟨μ, S, env, w, er, ?_⟩
        unfold srKeys
        rw [q]
        unfold isDicV at hx
        split at hx
        · exact h
        · exact h
        · cases hx
      · refine .inr ⟨μ, S, env, w, er, ?_⟩
        unfold srA
        rw [q]
        have h : Post (match x with
          | .val (.str z) => Res.ok (signs z, []) S1
          | .val (.rod ks _) => .ok (ks.map keyD, []) S1
          | .val (.rot ks _) => .ok (ks.map (fun k => .tup (k.map keyD)), []) S1
          | x => match srcOf x S1 with
            | some s => .ok s S1
            | none => .bad) _ _ := h
        show Post (match x with
          | .val (.str z) => Res.ok (signs z, []) S1
          | x => match srcOf x S1 with
            | some s => .ok s S1
            | none => .bad) _ _
        split at h
        · exact h
        · exact absurd rfl hx
        · exact absurd rfl hx
        · rename_i n1 n2 n3
          split
          · exact absurd rfl (n1 _)
          · exact h
    | exc e S1 => exact .inr ⟨μ, S, env, w, er, by unfold srA; rw [q] at h ⊢; exact h⟩
    | bad => rw [q] at h; exact h.elim
end
end Bz

set_option Elab.async false
set_option linter.all false
set_option maxRecDepth 100000
set_option maxHeartbeats 4000000
/-! Bz, sorted(d.items()). -/
namespace Bz
open PySem PySem.Spec PyProof.Rows L2 PySem.W
mutual
theorem reads_lt {h : Heap} : ∀ {v : Value} {d : PyData} {as : List Addr}, Reads h v d as → ∀ a ∈ as, a < h.objs.size
  | _, _, _, .none, a, ha => nomatch ha
  | _, _, _, .bool b, a, ha => nomatch ha
  | _, _, _, .int i t, a, ha => nomatch ha
  | _, _, _, .str x t, a, ha => nomatch ha
  | _, _, _, .list e _ _ r, a, ha => by
    rcases List.mem_cons.mp ha with rfl | ha
    · exact Heap.lt_size e
    · exact readsAll_lt r a ha
  | _, _, _, .tuple _ _ _ r, a, ha => readsAll_lt r a ha
  | _, _, _, .dict e _ _ r1 r2, a, ha => by
    rcases List.mem_append.mp ha with ha | ha
    · rcases List.mem_cons.mp ha with rfl | ha
      · exact Heap.lt_size e
      · exact readsAll_lt r1 a ha
    · exact readsAll_lt r2 a ha
theorem readsAll_lt {h : Heap} : ∀ {vs : List Value} {ds : List PyData} {as : List Addr}, ReadsAll h vs ds as → ∀ a ∈ as, a < h.objs.size
  | _, _, _, .nil, a, ha => nomatch ha
  | _, _, _, .cons r1 r2, a, ha => by
    rcases List.mem_append.mp ha with ha | ha
    · exact reads_lt r1 a ha
    · exact readsAll_lt r2 a ha
end
def keyP : L2.Key → PyData
  | .inl i => .int i
  | .inr x => .str x
def pairP (k : L2.Key) (p : PyData) : PyData := .tuple [keyP k, p]
def rSortItems (K : PySem.W.Frag) : V → Hp → VK → Prop := fun x H Q => ∃ (d : Addr) (kvs : List (L2.Key × V)) (ps : List PyData), x = .ref d ∧ Rd H d (.dK kvs) ∧ DpAll K H (kvs.map Prod.snd) ps ∧ sortOk ((kvs.zip ps).map fun z => pairP z.1.1 z.2) = true ∧
  ∀ (H' : Hp) (p : Addr) (ts : List Addr), (∀ b o, H b = some o → H' b = some o) → H p = none → H' p = some (.lst (sortBy (ts.map V.ref) ((kvs.zip ps).map fun z => pairP z.1.1 z.2))) → Paired (fun (t : Addr) (q : L2.Key × V) => H' t = some (.tup [kV q.1, q.2])) ts kvs → Q (.ref p) H'
def tSortItems (K : PySem.W.Frag) (te : TE) : TE := fun σ H Q => te σ H fun x H1 => rSortItems K x H1 Q
section
variable {X : Cx} {e : Expr} {te : TE} {p apos cpos pos : Pos}
theorem pairs_laid {pins : List (Addr × Obj)} {σ : L2.St} {H : Hp} {s : Shared} {h' : Heap} {tk : Nat} {kvs : List (L2.Key × V)} {vs : List (L2.Key × Value)} {acc : Array Value} {c : Nat} {as : List Addr} {B : Addr} {L : List V} (I : Inv X pins σ H s) (hz : kvs.length ≤ sizeLine) (kv : KV kvs vs)
    (hk : ∀ b o, s.heap.get? b = some o → h'.get? b = some o) (hB : s.heap.objs.size ≤ B) (hS : h'.get? B = some { cls := .type "list", dict := none, data := .seq acc c, slots := #[] }) (hl : as.length = vs.length) (hG : PySem.W.KdxG (mixKind X.prog X.w) vs s.heap.objs.size h' as) (hBn : B ∉ as) (hacc : Vals L acc.toList) (hL : L.length = kvs.length) :
    ∃ H' : Hp, (∀ b o, H b = some o → H' b = some o) ∧ H B = none ∧ H' B = some (.lst L) ∧ Paired (fun (t : Addr) (q : L2.Key × V) => H' t = some (.tup [kV q.1, q.2])) as kvs ∧ Inv X pins σ H' { s with heap := h', toks := tk } := by
  have lk : kvs.length = vs.length := Paired.length kv
  have nd : as.Nodup := List.Pairwise.imp (fun {a b} (h : a < b) => Nat.ne_of_lt h) hG.rise
  have new : ∀ t ∈ as, H t = none := fun t ht => I.hok.fresh (Nat.le_of_lt (hG.above t ht))
  have newB : H B = none := I.hok.fresh hB
  have atP := LiI.putT_at as kvs (upd H B (.lst L)) (by omega) nd
  have off : ∀ b, b ∉ as → b ≠ B → LiI.putT (upd H B (.lst L)) as kvs b = H b := fun b h1 h2 => by rw [LiI.putT_off as kvs _ h1, upd_ne h2]
  have low : ∀ b o, s.heap.get? b = some o → b ∉ as ∧ b ≠ B := fun b o e => ⟨fun z => absurd (Heap.lt_size e) (Nat.not_lt.mpr (Nat.le_of_lt (hG.above b z))), Nat.ne_of_lt (Nat.lt_of_lt_of_le (Heap.lt_size e) hB)⟩
  have kp : ∀ b u, H b = some u → (LiI.putT (upd H B (.lst L)) as kvs) b = some u := fun b u e => by
    rw [off b (fun z => by rw [new b z] at e; cases e) (fun z => by rw [z, newB] at e; cases e)]
    exact e
  have eS : LiI.putT (upd H B (.lst L)) as kvs B = some (.lst L) := by rw [LiI.putT_off as kvs _ hBn, upd_same]
  refine ⟨LiI.putT (upd H B (.lst L)) as kvs, kp, newB, eS, atP, ?_⟩
  refine I.call' (ch := []) rfl ⟨fun b o q _ _ _ => hk b o q, fun b o q _ _ _ => ⟨o.slots, hk b o q⟩, fun b o q n _ => ?_, fun b o q _ => ⟨o, hk b o q⟩, fun b xs q => kp b _ q, fun b o u q => kp b _ q, fun b ps q => ⟨#[], by rw [kp b _ q]; simp⟩⟩ (fun b u q => ?_) I.bare fun b z => by simp at z
  · obtain ⟨z1, z2⟩ := low b o q
    rw [off b z1 z2]
    exact n
  · by_cases hb : b ∈ as
    · obtain ⟨j, pk, e1, e2, e3⟩ := LiI.paired_ix atP hb
      rw [e3] at q
      cases q
      obtain ⟨key, k, x, f1, f2, f3⟩ := hG.pairs j b e1
      obtain ⟨qv, g1, g2, g3⟩ := LiI.paired_get kv e2
      rw [f1] at g1
      cases g1
      have rk : RelV (kV pk.1) key := by
        rw [g2]
        exact relV_key (show keyIs k key = true from f2)
      exact ⟨by show 2 ≤ sizeLine; decide, [key, x], .cons rk (.cons g3 .nil), ⟨_, f3, rfl, _, rfl⟩⟩
    · by_cases hb2 : b = B
      · rw [hb2] at q ⊢
        rw [eS] at q
        cases q
        refine ⟨by omega, acc.toList, c, hacc, ?_⟩
        rw [Array.toArray_toList]
        exact hS
      · rw [off b hb hb2] at q
        exact (I.hok b u q).stay (fun d v _ y => hk d v y) (fun d y => kp d _ y) fun d xs y => kp d _ y
theorem key_reads {h : Heap} {k : L2.Key} {v : Value} (hk : keyIs k v = true) : Reads h v (keyP k) [] := by
  have r := relV_key hk
  cases k with
  | inl i => obtain ⟨t, rfl⟩ := r; exact .int i t
  | inr x => obtain ⟨t, rfl⟩ := r; exact .str x t
theorem kv_vals : ∀ {kvs : List (L2.Key × V)} {vs : List (L2.Key × Value)}, KV kvs vs → Vals (kvs.map Prod.snd) (vs.map Prod.snd)
  | _, _, .nil => .nil
  | _, _, .cons h t => .cons h.2 (kv_vals t)
theorem pe_sortItems (hc : X.calm = true) (hu : X.A.units + 64 < cLine) (he : PE X e te) (hg : Gl X "sorted") (hm : X.mg "sorted" = none) (hbase : attributeBase e "items" X.env (eval e X.env) = eval e X.env) (hline : (apos.endLine == cpos.line) = true) :
    PE X (.Call (.Name "sorted" p) [.Call (.Attribute e "items" apos) [] [] cpos] [] pos) (tSortItems X.K te) := by
  refine ⟨fun pins s σ H Q I hq => ?_⟩
  have hs : starEach [.Call (.Attribute e "items" apos) [] [] cpos] X.env = (false, eval (.Call (.Attribute e "items" apos) [] [] cpos) X.env) :: starEach [] X.env := rfl
  refine wpAny_Call_Name_kw (ld_blt I hg hm (by decide +kernel : bootBuiltins "sorted" = some (.builtin "sorted")) ?_)
  refine PyProof.Rows.callWith_builtin1 ?_ hs rfl
  rw [hs]
  show wpAny _ _ (spliced ((false, eval (.Call (.Attribute e "items" apos) [] [] cpos) X.env) :: backTo pos (starEach [] X.env))) _ _ s
  refine Calls.spliced_cons ?_
  refine wpAny_Call_method (T := "dict") (id := "dict.items") hbase rfl hline F.plainAttrs_dict F.slot_dict_items F.type_dict_items (thn (he.run pins s σ H _ I hq) fun u s1 ⟨x, H1, I1, rx, d, kvs, ps, ex, hd, hdp, hok, q⟩ => ?_)
  subst ex
  obtain rfl : u = Value.ref d := rx
  obtain ⟨hz, hs0, vs, kv, hdo⟩ := dk_rd I1.hok hd
  obtain ⟨ep, hat⟩ := hdo.dictAt
  have lk : kvs.length = vs.length := Paired.length kv
  have I2 : Inv X pins σ H1 { s1 with heap := s1.heap.push { cls := .type "dict_items", data := .fields #[.ref d] } } := I1.kept (t' := s1.toks) fun b ob q => Heap.get?_push_of_some _ q
  refine ⟨hdo.typeIs, hdo.mapOf.noDict, ?_⟩
  show wpAny _ _ (callWith cpos (.builtin "dict.items") [.ref d] [] []) _ X.xe s1
  refine method_meetsIn F.slot_dict_items F.entry_dict_items rfl (PySem.evalArgs_none ⟨rfl, hdo.typeIs, F.args_dict_items_1 _, _, meets_dict_items (mixKind X.prog X.w) d hs0, ⟨vs, hdo⟩, ?_⟩)
  refine Calls.spliced_nil ?_
  refine PySem.Calls.call_function_entry kind_sorted plain_sorted entry_sorted (args_sorted1 _) ?_
  unfold Builtin.«sorted»
  refine wpAny_bind (m := checkCount "sorted" 1 1 _) (wpAny_pure ?_)
  refine wpAny_bind (kdx_collect (A := X.A.in1) (knd := mixKind X.prog X.w) (kvs := vs) (ep := ep) (I1.ok.hd hc) ⟨_, Heap.get?_push_size _ rfl, rfl, rfl⟩ (hat.push _) (by omega) fun h' tk as hk hl hG => ?_)
  refine wpAny_bind (wpAny_newList ?_ (by rw [List.length_map, hl, ← lk]; exact hz))
  have hlo : (s1.heap.push { cls := .type "dict_items", data := .fields #[.ref d] }).objs.size ≤ h'.objs.size := by
    have hv0 : (s1.heap.push { cls := .type "dict_items", data := .fields #[.ref d] }).get? s1.heap.objs.size = some { cls := .type "dict_items", data := .fields #[.ref d] } := Heap.get?_push_size _ rfl
    have := Heap.lt_size (hk _ _ hv0)
    rw [Heap.size_push]
    exact this
  have asl : ∀ t ∈ as, t < h'.objs.size := fun t ht => hG.there ht
  have lps : (kvs.map Prod.snd).length = ps.length := dpAll_len hdp
  rw [List.length_map] at lps
  have lds : ((kvs.zip ps).map fun z => pairP z.1.1 z.2).length = kvs.length := by rw [List.length_map, List.length_zip]; omega
  obtain ⟨k1, k2, k3⟩ := sortOk_ok hok
  have lar : (as.map V.ref).length = kvs.length := by rw [List.length_map, hl, lk]
  have hsnd : ((as.map V.ref).zip ((kvs.zip ps).map fun z => pairP z.1.1 z.2)).map Prod.snd = (kvs.zip ps).map fun z => pairP z.1.1 z.2 := by rw [← List.unzip_snd, List.unzip_zip_right (by omega)]
  have hlen : ((as.map V.ref).zip ((kvs.zip ps).map fun z => pairP z.1.1 z.2)).length = kvs.length := by rw [List.length_zip]; omega
  have hBpush : (h'.push { cls := .type "list", data := .seq (as.map Value.ref).toArray }).get? h'.objs.size = some (seqObj "list" (as.map Value.ref).toArray 0) := Heap.get?_push_size _ rfl
  obtain ⟨vas, hvr⟩ := Dp.readsAll I2 ps (kvs.map Prod.snd) (vs.map Prod.snd) hdp (kv_vals kv)
  have er : EachIs (fun v (b : V × PyData) => ∃ as', Reads (h'.push { cls := .type "list", data := .seq (as.map Value.ref).toArray }) v b.2 as' ∧ h'.objs.size ∉ as') (as.map Value.ref) ((as.map V.ref).zip ((kvs.zip ps).map fun z => pairP z.1.1 z.2)) :=
    each_zip (by rw [List.length_map, List.length_map]) (by rw [lar, lds]) fun i u x dd a b c => by
      rw [List.getElem?_map] at a b c
      obtain ⟨t, ht, rfl⟩ := Option.map_eq_some_iff.mp a
      obtain ⟨key, k, x', f1, f2, f3⟩ := hG.pairs i t ht
      obtain ⟨z, hz1, rfl⟩ := Option.map_eq_some_iff.mp c
      obtain ⟨hzk, hzp⟩ := List.getElem?_zip_eq_some.mp hz1
      obtain ⟨qv, g1, g2, g3⟩ := LiI.paired_get kv hzk
      rw [f1] at g1
      cases g1
      obtain ⟨as', r⟩ := readsAll_get hvr i x' z.2 (by rw [List.getElem?_map, f1]; rfl) hzp
      have r2 : Reads h' x' z.2 as' := Reads.keeps (fun b o q => hk b o q) r
      have hkey : Reads h' key (keyP z.1.1) [] := by rw [g2]; exact key_reads f2
      have rt : Reads h' (.ref t) (pairP z.1.1 z.2) ([] ++ (as' ++ [])) := .tuple f3 rfl rfl (.cons hkey (.cons r2 .nil))
      refine ⟨_, Reads.keeps (fun b o q => Heap.get?_push_of_some _ q) rt, fun hm => ?_⟩
      exact absurd (reads_lt rt _ hm) (Nat.lt_irrefl _)
  have e1 : EachIs (fun u (b : V × PyData) => RelV b.1 u) (as.map Value.ref) ((as.map V.ref).zip ((kvs.zip ps).map fun z => pairP z.1.1 z.2)) := each_zip (by rw [List.length_map, List.length_map]) (by rw [lar, lds]) fun i u x dd a b c => by
    rw [List.getElem?_map] at a b
    obtain ⟨t, ht, rfl⟩ := Option.map_eq_some_iff.mp a
    rw [ht] at b
    cases b
    rfl
  refine wpAny_bind (wpAny_holding (list_sort_data (enc := Prod.snd) hBpush e1 er (by rw [hsnd]; exact k1) (by rw [hsnd]; exact k2) (by rw [hlen]; exact hz) (fun b hb => ?_) fun out ho hout => ?_))
  · have hm2 : b.2 ∈ (kvs.zip ps).map fun z => pairP z.1.1 z.2 := by rw [← hsnd]; exact List.mem_map_of_mem hb
    have := depth_le hm2
    show X.A.in1.units + 1 + b.2.depth < cLine
    have e : X.A.in1.units = X.A.units + 1 := rfl
    omega
  refine wpAny_pure ⟨_, rfl, ?_⟩
  have hv := vals_each hout
  obtain ⟨ep2, he2⟩ := sortedHeap_at (out := out.toArray) hBpush
  have hold : ∀ b o, b ≠ h'.objs.size → (h'.push { cls := .type "list", data := .seq (as.map Value.ref).toArray }).get? b = some o → (sortedHeap (h'.push { cls := .type "list", data := .seq (as.map Value.ref).toArray }) h'.objs.size (as.map Value.ref) out.toArray).get? b = some o := fun b o hb q => by
    rw [sortedHeap_old hb (Heap.lt_size q)]
    exact q
  have hk2 : ∀ b o, (s1.heap.push { cls := .type "dict_items", data := .fields #[.ref d] }).get? b = some o → (sortedHeap (h'.push { cls := .type "list", data := .seq (as.map Value.ref).toArray }) h'.objs.size (as.map Value.ref) out.toArray).get? b = some o := fun b o q =>
    hold b o (Nat.ne_of_lt (Heap.lt_size (hk b o q))) (Heap.get?_push_of_some _ (hk b o q))
  have hlen' : (sortBy (as.map V.ref) ((kvs.zip ps).map fun z => pairP z.1.1 z.2)).length = kvs.length := by
    unfold sortBy
    rw [List.length_map, (List.mergeSort_perm _ _).length_eq, hlen]
  obtain ⟨H', m1, m2, m3, m4, J⟩ := pairs_laid (tk := tk) (h' := sortedHeap (h'.push { cls := .type "list", data := .seq (as.map Value.ref).toArray }) h'.objs.size (as.map Value.ref) out.toArray) (L := sortBy (as.map V.ref) ((kvs.zip ps).map fun z => pairP z.1.1 z.2)) I2 hz kv hk2 hlo he2 hl
    ⟨hG.rise, hG.above, fun j a ha => by
      obtain ⟨key, k, x, f1, f2, f3⟩ := hG.pairs j a ha
      have hm : a ∈ as := List.mem_of_getElem? ha
      exact ⟨key, k, x, f1, f2, hold a _ (Nat.ne_of_lt (asl a hm)) (Heap.get?_push_of_some _ f3)⟩⟩ (fun z => Nat.lt_irrefl _ (asl _ z)) (by rw [List.toList_toArray]; exact hv) hlen'
  exact ⟨.ref _, H', J, rfl, q H' _ as m1 m2 m3 m4⟩
variable {G : Gm} {E : XK} {o : Expr} {fo : ExM} {μ : Mp} {H H0 : Hp} {S : Sto}
def eSIt (fo : ExM) : ExM := fun env S => bnd (fo env S) fun x S1 => match kOf x S1 with
  | some kvs => (match rfds (lkS S1 12) (kvs.map Prod.snd) with
    | some ps => if sortOk ((kvs.zip ps).map fun z => pairP z.1.1 z.2) = true then .ok (.new (sortBy (itemsD kvs) ((kvs.zip ps).map fun z => pairP z.1.1 z.2))) S1 else .bad
    | none => .bad)
  | none => .bad
theorem zip_keys {β : Type} : ∀ {kvs : List (L2.Key × D)} {vs : List (L2.Key × V)} {ps : List PyData}, kvs.map Prod.fst = vs.map Prod.fst → ((kvs.zip ps).map fun z => pairP z.1.1 z.2) = (vs.zip ps).map fun z => pairP z.1.1 z.2
  | [], [], _, _ => by simp
  | [], _ :: _, _, h => by cases h
  | _ :: _, [], _, h => by cases h
  | x :: xs, y :: ys, [], h => by simp
  | x :: xs, y :: ys, p :: ps, h => by
    rw [List.map_cons, List.map_cons, List.cons.injEq] at h
    rw [List.zip_cons_cons, List.zip_cons_cons, List.map_cons, List.map_cons, zip_keys (β := β) h.2, h.1]
theorem de_sortItems (hK : X.K = G.K) (hc : X.calm = true) (hu : X.A.units + 64 < cLine) (ho : PE X o (tD G E fo)) (hg : Gl X "sorted") (hm : X.mg "sorted" = none) (hb : baseOk o = true) (hl : (apos.endLine == cpos.line) = true) :
    PE X (.Call (.Name "sorted" p) [.Call (.Attribute o "items" apos) [] [] cpos] [] pos) (tD G E (eSIt fo)) :=
  PE.wk (pe_sortItems hc hu ho hg hm (base_plain hb _ _ _) hl) fun σ H Q ⟨μ, S, env, w, er, h⟩ => by
    refine tD_go w er (post_bnd.1 h) fun x S1 v H1 μ1 l1 w1 er1 rx h1 => ?_
    split at h1
    · rename_i kvs e
      split at h1
      · rename_i ps ep
        split at h1
        · rename_i hk
          obtain ⟨a, vs, rfl, hx, kv⟩ := kOf_ok w1 rx e
          have ez := zip_keys (β := Unit) (ps := ps) kv.1
          have hlk : kvs.length = ps.length := by have := rfds_len ep; rwa [List.length_map] at this
          rw [ez] at h1 hk
          refine ⟨a, vs, ps, rfl, hx, by rw [hK]; exact rfds_ok (lkS_ok w1 12) _ _ _ kv.2 ep, hk, fun H' p ts k1 k2 k5 k6 => ?_⟩
          have l := Le.more (μ := μ1) k1
          have hrs := Rs.items (L := ts) (kv.mono fun _ _ q => l.rs w1 q) k6
          have hkl : kvs.length = vs.length := by have := congrArg List.length kv.1; rwa [List.length_map, List.length_map] at this
          exact h1 _ H' μ1 (l1.trans l) (w1.more k1) ⟨p, _, rfl, k5, w1.free k2, l1.free k2, hrs.sortBy (by unfold itemsD; rw [List.length_map, List.length_map, List.length_zip]; omega)⟩
        · exact h1.elim
      · exact h1.elim
    · exact h1.elim
end
end Bz

set_option Elab.async false
set_option linter.all false
set_option maxRecDepth 100000
set_option maxHeartbeats 4000000
/-! Bz, zip of a tuple and a list. -/
namespace Bz
open PySem PySem.Spec PyProof.Rows L2 PySem.W
def sqB : Bool → PySem.W.Frag → Hp → Addr → List V → Prop
  | true => SqT
  | false => SqL
def itB : Bool → Heap → Addr → Addr → Nat → Prop
  | true => fun h i a n => h.IsTupleIter i a n
  | false => fun h i a n => h.IsListIter i a n
def isB : Bool → Heap → Addr → Array Value → Prop
  | true => fun h a its => h.IsTuple a its
  | false => fun h a its => h.IsList a its
section
variable {X : Cx} {pins : List (Addr × Obj)} {σ : L2.St} {H : Hp} {s : Shared} {a : Addr} {xs ys : List V} {k : Bool}
theorem seqB (I : Inv X pins σ H s) (h : sqB k X.K H a xs) : ∃ its : List Value, Vals xs its ∧ isB k s.heap a its.toArray ∧ xs.length ≤ sizeLine := by
  cases k with
  | true => exact I.tuple h
  | false => obtain ⟨its, r, p, z⟩ := I.list h; exact ⟨its, r, p.isList, z⟩
theorem injB (I : Inv X pins σ H s) (h : sqB k X.K H a xs) (h' : sqB k X.K H a ys) : xs = ys := by
  cases k with
  | true => exact I.tuple_inj h h'
  | false => exact I.list_inj h h'
theorem drawsB {prog : Program} {w : World} {A : Around} (hh : A.handled = none) (it t : Addr) (hne : t ≠ it) (items : Array Value) :
    Draws prog w A it [it, t] items.size (fun i v => items[i]? = some v) (fun i h => itB k h it t i ∧ isB k h t items) := by
  cases k with
  | true => exact Draws.tuple hh it t hne items
  | false => exact Draws.list hh it t hne items
theorem itB_at {h h' : Heap} {i t : Addr} {n : Nat} (x : itB k h i t n) (e : ∀ o, h.get? i = some o → h'.get? i = some o) : itB k h' i t n := by
  cases k with
  | true => exact Heap.IsTupleIter.at x e
  | false => exact Heap.IsListIter.at x e
theorem itB_obj {h : Heap} {i t : Addr} {n : Nat} (x : itB k h i t n) : ∃ o, h.get? i = some o ∧ ∀ v, o.data ≠ .cell v := by
  cases k with
  | true => obtain ⟨o, e, _, d⟩ := x; exact ⟨o, e, fun v q => by rw [d] at q; cases q⟩
  | false => obtain ⟨o, e, _, d⟩ := x; exact ⟨o, e, fun v q => by rw [d] at q; cases q⟩
theorem beginsB (t : Addr) (items : Array Value) : Begins (.ref t) { cls := .type (if k = true then "tuple_iterator" else "list_iterator"), data := .fields #[.ref t, .int 0 0] } fun h => isB k h t items := by
  cases k with
  | true => exact begins_tuple t items
  | false => exact begins_list t items
theorem itB_new {h : Heap} {i t : Addr} (e : h.get? i = some { cls := .type (if k = true then "tuple_iterator" else "list_iterator"), data := .fields #[.ref t, .int 0 0] }) : itB k h i t 0 := by
  cases k with
  | true => exact ⟨_, e, rfl, rfl⟩
  | false => exact ⟨_, e, rfl, rfl⟩
theorem ltB {h : Heap} {its : Array Value} (x : isB k h a its) : a < h.objs.size := by
  cases k with
  | true => obtain ⟨o, e, _⟩ := x; exact Heap.lt_size e
  | false => obtain ⟨o, e, _⟩ := x; exact Heap.lt_size e
end
def ItzB (k1 k2 : Bool) (K : PySem.W.Frag) (n : Nat) (a b : Addr) : It :=
  ⟨fun i H => i < n ∧ ∃ (xs ys : List V) (x y : V), sqB k1 K H a xs ∧ sqB k2 K H b ys ∧ xs[i]? = some x ∧ ys[i]? = some y,
    fun i H v H' => ∃ T x y, v = .ref T ∧ H T = none ∧ H' = upd H T (.tup [x, y]) ∧ (∀ xs, sqB k1 K H a xs → xs[i]? = some x) ∧ ∀ ys, sqB k2 K H b ys → ys[i]? = some y,
    fun i H => n ≤ i ∧ ∃ xs ys : List V, sqB k1 K H a xs ∧ sqB k2 K H b ys ∧ (xs.length = n ∨ ys.length = n) ∧ n ≤ xs.length ∧ n ≤ ys.length⟩
theorem turn_zipB {P : Program} {w : World} {K : PySem.W.Frag} {elts : List Expr} {kk : Nat} {tpos : Pos} {n : Nat} {k1 k2 : Bool} {a b z TI TO i1 i2 : Addr} (D : ZipSep2 z TI TO i1 i2 [i1, a] [i2, b]) (n1 : a ≠ i1) (n2 : b ≠ i2) :
    Turn P w K (.Tuple elts kk tpos) (ItzB k1 k2 K n a b) [z, TI, TO, i1, i2] z (fun i h => i ≤ n ∧ IsZip h z TI TO .none ∧ IsTupOf2 h TI (.ref i1) (.ref i2) ∧ (∃ x y, IsTupOf2 h TO x y) ∧ itB k1 h i1 a i ∧ itB k2 h i2 b i) where
  mem := List.mem_cons_self
  obj := fun i h st d hd => by
    obtain ⟨hin, hz, hTI, ⟨x, y, hTO⟩, h1, h2⟩ := st
    simp only [List.mem_cons, List.not_mem_nil, or_false] at hd
    rcases hd with rfl | rfl | rfl | rfl | rfl
    · exact ⟨_, hz, fun v q => nomatch q⟩
    · exact ⟨_, hTI, fun v q => nomatch q⟩
    · exact ⟨_, hTO, fun v q => nomatch q⟩
    · exact itB_obj h1
    · exact itB_obj h2
  keep := fun i h h' st k => by
    obtain ⟨hin, hz, hTI, ⟨x, y, hTO⟩, h1, h2⟩ := st
    exact ⟨hin, k z (by simp) _ hz, k TI (by simp) _ hTI, ⟨x, y, k TO (by simp) _ hTO⟩, itB_at h1 fun o q => k i1 (by simp) o q, itB_at h2 fun o q => k i2 (by simp) o q⟩
  item := by
    intro X hP hw hK hc i pins s σ H E I hf st hg
    subst hP hw hK
    obtain ⟨hin, hz, hTI, ⟨x0, y0, hTO⟩, h1, h2⟩ := st
    obtain ⟨hlt, xs, ys, x, y, q1, q2, e1, e2⟩ := hg
    obtain ⟨its1, rv1, p1, _⟩ := seqB I q1
    obtain ⟨its2, rv2, p2, _⟩ := seqB I q2
    obtain ⟨u1, hu1, ru1⟩ := rv1.get e1
    obtain ⟨u2, hu2, ru2⟩ := rv2.get e2
    have hzl : z < s.heap.objs.size := Heap.lt_size hz
    have hh : X.A.in1.handled = none := I.ok.hd hc
    have lt1 := (List.getElem?_eq_some_iff.mp hu1).1
    have lt2 := (List.getElem?_eq_some_iff.mp hu2).1
    refine wpAny_pyNext_zipD2_item D (drawsB (k := k1) hh i1 a n1 its1.toArray) (drawsB (k := k2) hh i2 b n2 its2.toArray) hz hTI hTO ⟨h1, p1⟩ ⟨h2, p2⟩ (by simpa using lt1) (by simpa using lt2)
      fun v1 v2 h' tk r1 r2 z' TO' t1 t2 hT hsz hk => ?_
    have r1 : v1 = u1 := by
      have : its1[i]? = some v1 := by simpa using r1
      rw [hu1] at this; cases this; rfl
    have r2 : v2 = u2 := by
      have : its2[i]? = some v2 := by simpa using r2
      rw [hu2] at this; cases this; rfl
    subst r1 r2
    refine ⟨_, rfl, wpAny_letOwnedTupleGo_zip (s := { s with heap := h', toks := tk }) z' fun h'' z'' sb => ?_⟩
    have hT2 : h''.get? s.heap.objs.size = some { cls := .type "tuple", data := .seq #[v1, v2] } := (sb.2 _ (Nat.ne_of_gt hzl)).trans hT
    have new : ObjOk X.prog X.w (upd H s.heap.objs.size (.tup [x, y])) h'' s.heap.objs.size (.tup [x, y]) :=
      ⟨by show 2 ≤ sizeLine; decide, [v1, v2], .cons ru1 (.cons ru2 .nil), ⟨_, hT2, rfl, _, rfl⟩⟩
    have I1 : Inv X pins σ (upd H s.heap.objs.size (.tup [x, y])) { s with heap := h'', toks := tk } :=
      I.turnedNew (t' := tk) (ch := [z, TI, TO, i1, i2]) (fun c o hb q => (sb.2 c (fun q' => hb (by simp [q']))).trans (hk c o (fun q' => hb (by simp [q'])) (fun q' => hb (by simp [q'])) (fun q' => hb (by simp [q'])) (fun q' => hb (by simp [q'])) q)) hf (Nat.le_refl _) new
    refine ⟨.ref s.heap.objs.size, _, I1, rfl, ⟨_, x, y, rfl, I.hok.fresh (Nat.le_refl _), rfl, fun l hl => by rw [injB I hl q1]; exact e1, fun l hl => by rw [injB I hl q2]; exact e2⟩, ⟨hlt, z'', ?_, ⟨v1, v2, ?_⟩, ?_, ?_⟩, fun d hd => ?_⟩
    · exact (sb.2 _ D.TIz).trans (hk _ _ D.TIz D.TITO D.TIi1 D.TIi2 hTI)
    · exact (sb.2 _ D.TOz).trans TO'
    · exact itB_at t1.1 fun o q => (sb.2 _ (fun z => D.zf1 (by rw [← z]; simp))).trans q
    · exact itB_at t2.1 fun o q => (sb.2 _ (fun z => D.zf2 (by rw [← z]; simp))).trans q
    · have hlt : d < s.heap.objs.size := by
        have hd' := hd
        simp only [List.mem_cons, List.not_mem_nil, or_false] at hd'
        rcases hd' with rfl | rfl | rfl | rfl | rfl
        · exact hzl
        · exact Heap.lt_size hTI
        · exact Heap.lt_size hTO
        · obtain ⟨_, e, _⟩ := itB_obj h1; exact Heap.lt_size e
        · obtain ⟨_, e, _⟩ := itB_obj h2; exact Heap.lt_size e
      rw [upd_ne (Nat.ne_of_lt hlt)]
      exact (hf d hd).1
  done := by
    intro X hP hw hK hc i pins s σ H E I hf st hg
    subst hP hw hK
    obtain ⟨hin, hz, hTI, ⟨x0, y0, hTO⟩, h1, h2⟩ := st
    obtain ⟨hni, xs, ys, q1, q2, hend, g1, g2⟩ := hg
    obtain ⟨its1, rv1, p1, _⟩ := seqB I q1
    obtain ⟨its2, rv2, p2, _⟩ := seqB I q2
    have hh : X.A.in1.handled = none := I.ok.hd hc
    have l1 := rv1.length
    have l2 := rv2.length
    exact wpAny_pyNext_zipD2_end D (drawsB (k := k1) hh i1 a n1 its1.toArray) (drawsB (k := k2) hh i2 b n2 its2.toArray) hz hTI hTO ⟨h1, p1⟩ ⟨h2, p2⟩ (by rw [List.size_toArray]; omega) (by rw [List.size_toArray]; omega)
      (by rw [List.size_toArray, List.size_toArray]; omega) fun h' tk hk => ⟨rfl, I.turnedL (t' := tk) (ch := [z, TI, TO, i1, i2]) (fun c o hb q =>
      hk c o (fun q' => hb (by simp [q'])) (fun q' => hb (by simp [q'])) (fun q' => hb (by simp [q'])) (fun q' => hb (by simp [q'])) q) hf⟩
  self := fun A i s Q E st h => wpAny_pyIter_zip st.2.1 h
def iZipB (k1 k2 : Bool) (K : PySem.W.Frag) (ta : TA) : TI := fun σ H R => ta σ H fun vs H1 => ∃ a b xs ys, vs = [.ref a, .ref b] ∧ sqB k1 K H1 a xs ∧ sqB k2 K H1 b ys ∧ ∃ n, R (ItzB k1 k2 K n a b) H1
theorem pi_zipB {X : Cx} {e e2 : Expr} {ta : TA} {p pos tpos : Pos} {elts : List Expr} {kk : Nat} {k1 k2 : Bool} (hg : Gl X "zip") (hm : X.mg "zip" = none) (ha : PA X [e, e2] ta)
    (hs : starEach [e, e2] X.env = (false, eval e X.env) :: starEach [e2] X.env := by rfl) (hpl : (backTo pos (starEach [e2] X.env)).any (·.1) = false := by rfl) :
    PI X (.Tuple elts kk tpos) (.Call (.Name "zip" p) [e, e2] [] pos) (iZipB k1 k2 X.K ta) := by
  refine ⟨fun pins s σ H R I h => Call_ (ld_blt I hg hm PyProof.Rows.boot_zip (PyProof.Rows.callWith_type1 (thn (ha.run pos pins s σ H _ I h) fun us s1 ⟨vs, H1, I1, r1, q1⟩ => ?_) hs hpl))⟩
  obtain ⟨a, b, xs, ys, ex, hqx, hqy, n, q⟩ := q1
  subst ex
  cases r1 with
  | cons r rr =>
    cases rr with
    | cons r' rr =>
        cases rr; cases r; cases r'
        obtain ⟨its1, rv1, p1, _⟩ := seqB I1 hqx
        obtain ⟨its2, rv2, p2, _⟩ := seqB I1 hqy
        have la : a < s1.heap.objs.size := ltB p1
        have lb : b < s1.heap.objs.size := ltB p2
        refine zip_begins2 (beginsB (k := k1) a its1.toArray) (beginsB (k := k2) b its2.toArray) p1 p2 fun h' hz hTI hTO h1 h2 hsz hk => wpAny_pyIter_zip hz ?_
        have I2 : Inv X pins σ H1 { s1 with heap := h' } := I1.kept (t' := s1.toks) hk
        refine ⟨s1.heap.objs.size + 4, [s1.heap.objs.size + 4, s1.heap.objs.size + 2, s1.heap.objs.size + 3, s1.heap.objs.size, s1.heap.objs.size + 1], _, _, H1, rfl, I2,
          turn_zipB (zip_sep2 (fp1 := [a]) (fp2 := [b]) (by simpa using la) (by simpa using lb)) (Nat.ne_of_lt la) (Nat.ne_of_lt (Nat.lt_succ_of_lt lb)),
          ⟨Nat.zero_le _, hz, hTI, ⟨_, _, hTO⟩, itB_new h1, itB_new h2⟩, fun d hd => ?_, q⟩
        have hle : s1.heap.objs.size ≤ d := by
          simp only [List.mem_cons, List.not_mem_nil, or_false] at hd
          rcases hd with rfl | rfl | rfl | rfl | rfl
          · exact Nat.le_add_right _ _
          · exact Nat.le_add_right _ _
          · exact Nat.le_add_right _ _
          · exact Nat.le_refl _
          · exact Nat.le_add_right _ _
        exact I1.fpOk hle (I1.hok.fresh hle)
/-! ### the source -/
section
variable {G : Gm} {E : XK} {X : Cx} {a b : Expr} {fa fb : ExM} {p pos tpos : Pos} {elts : List Expr} {kk : Nat} {μ : Mp} {H H0 : Hp} {S : Sto}
/-- zip of a tuple and a list, of lists, of tuples, of a list and a tuple -/
def srZB (fa fb : ExM) : SrM := fun env S => bnd (fa env S) fun x S1 => bnd (fb env S1) fun y S2 => match srcOf x S2, srcOf y S2 with
  | some s, some t => .ok (zipD s.1 t.1, s.2 ++ t.2) S2
  | _, _ => .bad
theorem src_B {x : Rv} {v : V} {xs : List D} {gs : Gs} (w : Wd G μ H S) (r : Rx G H0 μ H x v) (h : srcOf x S = some (xs, gs)) :
    ∃ a, v = .ref a ∧ (∃ vs, sqB (isTup x) G.K H a vs) ∧ ∀ μ2 H2 S2, Le μ H μ2 H2 → Wd G μ2 H2 S2 → gok gs S2 = true → ∃ vs, sqB (isTup x) G.K H2 a vs ∧ Rs G μ2 H2 xs vs := by
  cases ht : isTup x with
  | true =>
    obtain ⟨a, vs, rfl, hs, rs⟩ := src_tup r h ht
    exact ⟨a, rfl, ⟨vs, hs⟩, fun μ2 H2 S2 l w2 g => ⟨vs, l.sqT w hs, l.rs w rs⟩⟩
  | false => exact src_ok w r h ht
theorem Wk.zipB {k1 k2 : Bool} {a b : Addr} {xs ys : List D} {gs hs : Gs} (k : ∀ μ2 H2 S2, Le μ H μ2 H2 → Wd G μ2 H2 S2 → gok gs S2 = true → ∃ vs, sqB k1 G.K H2 a vs ∧ Rs G μ2 H2 xs vs) (k' : ∀ μ2 H2 S2, Le μ H μ2 H2 → Wd G μ2 H2 S2 → gok hs S2 = true → ∃ vs, sqB k2 G.K H2 b vs ∧ Rs G μ2 H2 ys vs)
    (J : ∀ (i : Nat) (μ2 : Mp) (H2 : Hp) (S2 : Sto), Le μ H μ2 H2 → Wd G μ2 H2 S2 → ∀ v w : List V, sqB k1 G.K H2 a v → sqB k1 G.K H2 a w → v = w) (J' : ∀ (i : Nat) (μ2 : Mp) (H2 : Hp) (S2 : Sto), Le μ H μ2 H2 → Wd G μ2 H2 S2 → ∀ v w : List V, sqB k2 G.K H2 b v → sqB k2 G.K H2 b w → v = w) : True := trivial
theorem Wk.zipB' {k1 k2 : Bool} {a b : Addr} {xs ys : List D} {gs hs : Gs} (k : ∀ μ2 H2 S2, Le μ H μ2 H2 → Wd G μ2 H2 S2 → gok gs S2 = true → ∃ vs, sqB k1 G.K H2 a vs ∧ Rs G μ2 H2 xs vs) (k' : ∀ μ2 H2 S2, Le μ H μ2 H2 → Wd G μ2 H2 S2 → gok hs S2 = true → ∃ vs, sqB k2 G.K H2 b vs ∧ Rs G μ2 H2 ys vs) :
    Wk G (ItzB k1 k2 G.K (min xs.length ys.length) a b) (zipD xs ys) (gs ++ hs) μ H := fun i μ2 H2 S2 l w2 g => by
  obtain ⟨g1, g2⟩ := gok_append g
  obtain ⟨vs, hs1, rs1⟩ := k μ2 H2 S2 l w2 g1
  obtain ⟨ws, hs2, rs2⟩ := k' μ2 H2 S2 l w2 g2
  have e1 := rs1.length
  have e2 := rs2.length
  have hzl : (zipD xs ys).length = min xs.length ys.length := by unfold zipD; rw [List.length_map, List.length_zip]
  refine ⟨fun hi => ⟨by rw [← hzl]; exact hi, vs, ws, hs1, hs2, by omega, by omega, by omega⟩, fun d hd => ?_⟩
  have hi := (List.getElem?_eq_some_iff.mp hd).1
  obtain ⟨x, y, h1, h2, rfl⟩ := zipD_get hd
  obtain ⟨v, hv, rv⟩ := rs1.get h1
  obtain ⟨u, hu, ru⟩ := rs2.get h2
  refine ⟨⟨by rw [← hzl]; exact hi, vs, ws, v, u, hs1, hs2, hv, hu⟩, fun z H3 ⟨T, x', y', e3, e4, e5, e6, e7⟩ => ?_⟩
  subst e3 e5
  have q1 : v = x' := Option.some.inj (hv.symm.trans (e6 vs hs1))
  have q2 : u = y' := Option.some.inj (hu.symm.trans (e7 ws hs2))
  subst q1 q2
  exact ⟨Le.laid e4, w2.laid e4, R.fresh w2 e4 (.cons rv (.one ru))⟩
theorem PI.or4 {tg e : Expr} {t1 t2 t3 t4 : TI} (h1 : PI X tg e t1) (h2 : PI X tg e t2) (h3 : PI X tg e t3) (h4 : PI X tg e t4) : PI X tg e (fun σ H Q => t1 σ H Q ∨ t2 σ H Q ∨ t3 σ H Q ∨ t4 σ H Q) := PI.or h1 (PI.or h2 (PI.or h3 h4))
theorem di_zipB (hK : X.K = G.K) (hg : Gl X "zip") (hm : X.mg "zip" = none) (hp : plainE a = true) (hp2 : plainE b = true) (ha : PE X a (tD G E fa)) (hb : PE X b (tD G E fb)) :
    PI X (.Tuple elts kk tpos) (.Call (.Name "zip" p) [a, b] [] pos) (tSr G E (srZB fa fb)) := by
  have pa := pa_cons ha (pa_cons hb pa_nil (star_plain hp2 _ _)) (star_plain hp _ _)
  have st := star_any pos X.env (es := [b]) (by simp [hp2])
  have sp := star_plain hp [b] X.env
  refine PI.wk (PI.or4 (pi_zipB (k1 := true) (k2 := true) hg hm pa sp st) (pi_zipB (k1 := true) (k2 := false) hg hm pa sp st) (pi_zipB (k1 := false) (k2 := true) hg hm pa sp st) (pi_zipB (k1 := false) (k2 := false) hg hm pa sp st)) fun σ H Rr ⟨μ, S, env, w, er, h⟩ => ?_
  have key : ∀ k1 k2 : Bool, (∀ x S1, fa env S = .ok x S1 → ∀ y S2, fb env S1 = .ok y S2 → isTup x = k1 ∧ isTup y = k2) → iZipB k1 k2 X.K (tCons (tD G E fa) (tCons (tD G E fb) tNil)) σ H Rr := fun k1 k2 hk => by
    have hx : Post (fa env S) (fun x S1 => (fa env S = .ok x S1) ∧ Post (bnd (fb env S1) fun y S2 => match srcOf x S2, srcOf y S2 with
      | some s, some t => .ok (zipD s.1 t.1, s.2 ++ t.2) S2
      | _, _ => .bad) (fun s S' => ∀ J H' μ', Le μ H μ' H' → Wd G μ' H' S' → Wk G J s.1 s.2 μ' H' → Rr J H') (ExP G E μ H)) (ExP G E μ H) := by
      have h := post_bnd.1 h
      cases q : fa env S with
      | ok x S1 => rw [q] at h; exact ⟨rfl, h⟩
      | exc e S1 => rw [q] at h; exact h
      | bad => rw [q] at h; exact h
    refine tD_go w er hx fun x S1 v H1 μ1 l1 w1 er1 rx ⟨ex, h1⟩ => ?_
    have hy : Post (fb env S1) (fun y S2 => (fb env S1 = .ok y S2) ∧ Post (match srcOf x S2, srcOf y S2 with
      | some s, some t => .ok (zipD s.1 t.1, s.2 ++ t.2) S2
      | _, _ => .bad) (fun s S' => ∀ J H' μ', Le μ H μ' H' → Wd G μ' H' S' → Wk G J s.1 s.2 μ' H' → Rr J H') (ExP G E μ H)) (ExP G E μ H) := by
      have h1 := post_bnd.1 h1
      cases q : fb env S1 with
      | ok y S2 => rw [q] at h1; exact ⟨rfl, h1⟩
      | exc e S2 => rw [q] at h1; exact h1
      | bad => rw [q] at h1; exact h1
    refine tD_go w1 er1 (post_ex l1 hy fun _ _ z => z) fun y S2 u H2 μ2 l2 w2 er2 ry ⟨ey, h2⟩ => ?_
    obtain ⟨e1, e2⟩ := hk x S1 ex y S2 ey
    split at h2
    · rename_i s t es et
      obtain ⟨a', e3, ⟨vs, hs1⟩, k⟩ := src_B w2 (l2.rx w1 rx) es
      obtain ⟨b', e4, ⟨ws, hs2⟩, k'⟩ := src_B w2 ry et
      rw [e1] at hs1 k
      rw [e2] at hs2 k'
      subst e3 e4
      rw [hK]
      exact ⟨a', b', vs, ws, rfl, hs1, hs2, _, h2 _ H2 μ2 (l1.trans l2) w2 (Wk.zipB' k k')⟩
    · exact h2.elim
  have hd : ∃ k1 k2 : Bool, ∀ x S1, fa env S = .ok x S1 → ∀ y S2, fb env S1 = .ok y S2 → isTup x = k1 ∧ isTup y = k2 := by
    cases q : fa env S with
    | ok x S1 =>
      cases q2 : fb env S1 with
      | ok y S2 => exact ⟨isTup x, isTup y, fun x' S1' e y' S2' e2 => by cases e; rw [q2] at e2; cases e2; exact ⟨rfl, rfl⟩⟩
      | exc e S2 => exact ⟨true, true, fun x' S1' e y' S2' e2 => by cases e; rw [q2] at e2; cases e2⟩
      | bad => exact ⟨true, true, fun x' S1' e y' S2' e2 => by cases e; rw [q2] at e2; cases e2⟩
    | exc e S1 => exact ⟨true, true, fun x' S1' e => by cases e⟩
    | bad => exact ⟨true, true, fun x' S1' e => by cases e⟩
  obtain ⟨k1, k2, hk⟩ := hd
  have := key k1 k2 hk
  cases k1 <;> cases k2
  · exact .inr (.inr (.inr this))
  · exact .inr (.inr (.inl this))
  · exact .inr (.inl this)
  · exact .inl this
end
end Bz

set_option Elab.async false
set_option linter.all false
set_option maxRecDepth 100000
set_option maxHeartbeats 4000000
/-! Bz, texts counted, sets of texts. -/
namespace Bz
open PySem PySem.Spec PyProof.Rows L2 PySem.W PySem.Froz
/-! ### names.count(name) -/
def eqs (k : Str) (v : Value) : Bool := match v with
  | .str n _ => n.cps.toList == k.cps.toList
  | _ => false
theorem strs_vals : ∀ {xs : List Str} {us : List Value}, Vals (xs.map V.str) us → StrsAre us xs
  | [], _, .nil => .nil
  | x :: xs, _, .cons r t => by
    obtain ⟨tk, rfl⟩ := r
    exact .cons x tk (strs_vals t)
theorem eqs_gives {k : Str} {t : Tok} : ∀ {us : List Value} {ns : List Str}, StrsAre us ns → ∀ y ∈ us, MeetsSeq.EqGives y (.str k t) (eqs k y)
  | _, _, .nil => fun y hy => by cases hy
  | _, _, .cons n t' h => fun y hy => by
    rcases List.mem_cons.mp hy with e | e
    · rw [e]
      exact SeqRoads2.EqGives.str n k t' t
    · exact eqs_gives h y e
theorem str_cps (a b : Str) : (a.cps.toList == b.cps.toList) = decide (a = b) := by
  by_cases h : a = b
  · subst h; simp
  · have : a.cps.toList ≠ b.cps.toList := fun e => h (by cases a; cases b; congr; exact Array.toList_inj.mp e)
    rw [decide_eq_false h]
    exact beq_eq_false_iff_ne.mpr this
theorem eqs_count {k : Str} : ∀ {us : List Value} {ns : List Str}, StrsAre us ns → us.countP (eqs k) = ns.countP fun n => decide (n = k)
  | _, _, .nil => rfl
  | _, _, .cons n t h => by
    have ih := eqs_count (k := k) h
    rw [List.countP_cons, List.countP_cons, ih]
    show _ + (if (n.cps.toList == k.cps.toList) = true then 1 else 0) = _
    rw [str_cps]
def rCntS (K : PySem.W.Frag) : V → List V → Hp → VK → Prop := fun x xs H Q => ∃ (p : Addr) (ns : List Str) (k : Str), x = .ref p ∧ xs = [.str k] ∧ SqL K H p (ns.map V.str) ∧ Q (.int ((ns.countP fun n => decide (n = k)) : Nat)) H
theorem mt_cntS {X : Cx} : MtR X "list.count" (rCntS X.K) := by
  intro pins s σ H x xs v us Q I rx rxs h
  obtain ⟨p, ns, k, rfl, rfl, hs, q⟩ := h
  cases rx
  obtain ⟨u, rfl, ru⟩ := rxs.one
  obtain ⟨t, rfl⟩ := ru
  obtain ⟨its, rv, ⟨⟨cls, dd, data, sl⟩, n, ho, hc, hdn, hd⟩, hlen⟩ := I.list hs
  simp only at hc hd
  subst hc hd
  have hi := strs_vals rv
  refine call_meets PySem.F.slot_list_count ⟨_, ho, rfl⟩ PySem.F.entry_list_count (PySem.F.args_list_count_2 _ _)
    (SeqAt.list_countAt p its.toArray n dd sl (.str k t) (eqs k)) ⟨ho, fun y hy => (eqs_gives hi y (by simpa using hy)).at _ _, ?_⟩
  have ec : its.toArray.toList.countP (eqs k) = ns.countP fun n => decide (n = k) := by
    rw [List.toList_toArray]; exact eqs_count hi
  refine ⟨.int ((ns.countP fun n => decide (n = k)) : Nat), H, I.tok _, ⟨s.toks, ?_⟩, q⟩
  show Value.int ((its.toArray.toList.countP (eqs k) : Nat) : Int) s.toks = Value.int ((ns.countP fun n => decide (n = k) : Nat) : Int) s.toks
  rw [ec]
def strsOf : List D → Option (List Str)
  | [] => some []
  | .str x :: ds => (strsOf ds).map (x :: ·)
  | _ :: _ => none
theorem strsOf_eq : ∀ {ds : List D} {ss : List Str}, strsOf ds = some ss → ds = ss.map D.str
  | [], _, h => by cases h; rfl
  | d :: ds, ss, h => by
    cases d with
    | str x =>
      obtain ⟨r, h1, h2⟩ := Option.map_eq_some_iff.mp (show (strsOf ds).map (x :: ·) = some ss from h)
      subst h2
      rw [List.map_cons, ← strsOf_eq h1]
    | _ => exact absurd (show (none : Option (List Str)) = some ss from h) (by simp)
theorem strsOf_map : ∀ ss : List Str, strsOf (ss.map D.str) = some ss
  | [] => rfl
  | s :: ss => by
    show (strsOf (ss.map D.str)).map (s :: ·) = _
    rw [strsOf_map ss]
    rfl
theorem vals_strs {G : Gm} {μ : Mp} {H : Hp} : ∀ {ss : List Str} {vs : List V}, Rs G μ H (ss.map D.str) vs → vs = ss.map V.str
  | [], _, r => by cases r; rfl
  | s :: ss, _, r => by
    cases r with
    | cons h t =>
      cases h
      rw [vals_strs t]
      rfl
def mCount (x : Rv) (ds : List D) (S : Sto) : Res Rv := match ds with
  | [.str k] => (match lrdOf x S with
    | some xs => (match strsOf xs with
      | some ss => .ok (.val (.int ((ss.countP fun n => decide (n = k)) : Nat))) S
      | none => .bad)
    | none => .bad)
  | _ => .bad
theorem ok_count {G : Gm} {K : PySem.W.Frag} (hK : K = G.K) : OkM G (rCntS K) mCount := by
  intro x ds S v vs μ H H0 Q QE w rx rs q
  unfold mCount at q
  split at q
  · rename_i k
    split at q
    · rename_i xs e1
      split at q
      · rename_i ss e2
        obtain ⟨a, us, rfl, hs, r⟩ := lrdOf_ok w rx e1
        rw [strsOf_eq e2] at r
        rw [vals_strs r] at hs
        cases rs with
        | cons h t =>
          cases t
          cases h
          exact ⟨a, ss, k, rfl, rfl, by rw [hK]; exact hs, q _ H μ Le.refl w (.int _)⟩
      · exact q.elim
    · exact q.elim
  · exact q.elim
/-! ### sets of texts: the payload -/
def sOf (e : Int × Value) : Str := match e.2 with
  | .str k _ => k
  | _ => Str.empty
section
variable {P : Program} {w : World}
theorem tail_perm (ep : Nat) (es : Array (Int × Value)) (t : SetTable) (b : Bool) : (tailTx ep es t b).1.toList.Perm es.toList := by
  unfold tailTx
  split
  · exact relayAll_perm _ _ _
  · exact List.Perm.refl _
theorem tail_ris (ep : Nat) (es : Array (Int × Value)) {t : SetTable} (b : Bool) (r : Ris t.place.toList) : Ris (tailTx ep es t b).2.2.place.toList := by
  unfold tailTx
  split
  · exact relayAll_ris _ _ _
  · exact r
theorem tail_led (ep : Nat) (es : Array (Int × Value)) (t : SetTable) (b : Bool) : (tailTx ep es t b).2.2.led = t.led := by
  unfold tailTx
  split
  · exact relayAll_led _ _ _
  · rfl
theorem add_perm (h : Int) (v : Value) (D : SD) : (addTx h v D).1.toList.Perm ((h, v) :: D.1.toList) := by
  have h1 := layNew_perm D.2.2 D.1 h v
  rw [Array.toList_push] at h1
  exact (tail_perm _ _ _ _).trans (h1.trans (List.perm_append_singleton _ _))
theorem add_ris (h : Int) (v : Value) {D : SD} (r : Ris D.2.2.place.toList) : Ris (addTx h v D).2.2.place.toList := by
  have h1 := layNew_ris D.2.2 D.1 h v r
  refine tail_ris _ _ _ ?_
  split
  · exact h1
  · exact h1
theorem add_led (h : Int) (v : Value) (D : SD) : (addTx h v D).2.2.led = D.2.2.led := by
  have h1 := layNew_led D.2.2 D.1 h v
  refine (tail_led _ _ _ _).trans ?_
  split
  · exact h1
  · exact h1
/-- the set of the texts l at a -/
structure SetS (P : Program) (w : World) (h : Heap) (a : Addr) (l : List Str) (D : SD) : Prop where
  at' : h.get? a = some (sObj "set" D)
  ok : TxOk P w D l
  vals : ∀ e ∈ D.1.toList, ∃ k tk, e.2 = Value.str k tk
  perm : (D.1.toList.map sOf).Perm l
  nd : l.Nodup
  ris : Ris D.2.2.place.toList
  led : w.params.followText "set-order" = true ∨ D.2.2.led = true
variable {A : Around} {E : Value → Shared → Prop} {s : Shared} {h h' : Heap} {a : Addr} {l : List Str} {D : SD}
theorem SetS.keep (R : SetS P w h a l D) (k : ∀ o, h.get? a = some o → h'.get? a = some o) : SetS P w h' a l D := ⟨k _ R.at', R.ok, R.vals, R.perm, R.nd, R.ris, R.led⟩
theorem SetS.fresh (ho : h.get? a = some { cls := .type "set", dict := none, data := .set #[] 0 (.fresh 0 0 (!w.params.followText "set-order")) }) : SetS P w h a [] (#[], 0, .fresh 0 0 (!w.params.followText "set-order")) where
  at' := ho
  ok := TxOk.nil rfl
  vals := fun e he => by simp at he
  perm := List.Perm.refl _
  nd := List.nodup_nil
  ris := List.Pairwise.nil
  led := by
    show _ ∨ (!w.params.followText "set-order") = true
    cases w.params.followText "set-order"
    · exact .inr rfl
    · exact .inl rfl
/-- a text that is there is added: nothing turns -/
theorem add_old {k : Str} {u : Tok} {Q : Bool → Shared → Prop} (R : SetS P w s.heap a l D) (hk : k ∈ l) (hb : l.length < scanBound) (q : Q false s) : wpAny (model P w) A (setAddHashed a (.str k u) (hashStr w k)) Q E s := by
  obtain ⟨es, ep, t⟩ := D
  have ho := R.at'
  have hd : (sObj "set" (es, ep, t)).data = .set es ep t := rfl
  have hf : t.fits es.size = true := R.ok.fit
  have hel : ElemsOf (strKind P w) es.toList := R.ok.el
  have hsz : es.size = l.length := R.ok.sz
  have hb0 : es.size < scanBound := by omega
  have hkey : (strKind P w).is k (.str k u) = true := is_str k u
  unfold setAddHashed setAddHashedIn
  refine wpAny_holding (wpAny_bind (wpAny_setState_of ho hd hf ?_))
  dsimp only
  rw [byScan_of rfl hb0 hel]
  simp only [↓reduceIte]
  unfold setAddByScan
  refine wpAny_bind ?_
  refine wpAny_bind (wpAny_rule ?_)
  refine wpAny_bind (wpAny_setScan_of (knd := strKind P w) (k := k) hkey ho hd hf hel ?_)
  cases hfi : List.findIdx? (fun e => (strKind P w).is k e.2) es.toList with
  | some j =>
    dsimp only
    exact wpAny_pure (wpAny_pure q)
  | none =>
    obtain ⟨e, he, h1⟩ := (R.ok.mem k).mp hk
    have c := List.findIdx?_eq_none_iff.mp hfi e he
    rw [h1] at c
    cases c
def addS (l : List Str) (k : Str) : List Str := if k ∈ l then l else k :: l
theorem addS_len (l : List Str) (k : Str) : (addS l k).length ≤ l.length + 1 := by
  unfold addS
  split
  · omega
  · rw [List.length_cons]; omega
/-- a text added -/
theorem add_any {k : Str} {u : Tok} {Q : Bool → Shared → Prop} (R : SetS P w s.heap a l D) (hb : l.length + 1 < scanBound)
    (q : ∀ b h' D', Heap.SameBut a s.heap h' → SetS P w h' a (addS l k) D' → Q b { s with heap := h' }) : wpAny (model P w) A (setAddHashed a (.str k u) (hashStr w k)) Q E s := by
  by_cases hk : k ∈ l
  · refine add_old R hk (by omega) (q _ s.heap D (Heap.SameBut.refl a s.heap) ?_)
    unfold addS
    rw [if_pos hk]
    exact R
  · refine add_x R.at' R.ok hk hb (q _ _ (addTx (hashStr w k) (.str k u) D) ?_ ?_)
    · exact Heap.SameBut.update ..
    · have hp := add_perm (hashStr w k) (.str k u) D
      unfold addS
      rw [if_neg hk]
      refine ⟨get_upd _ R.at' rfl, add_ok u R.ok, fun e he => ?_, (hp.map sOf).trans (R.perm.cons k), List.nodup_cons.mpr ⟨hk, R.nd⟩, add_ris _ _ R.ris, R.led.imp id fun z => by rw [add_led]; exact z⟩
      rcases List.mem_cons.mp (hp.mem_iff.mp he) with z | z
      · rw [z]; exact ⟨k, u, rfl⟩
      · exact R.vals e z
def addsS (l ns : List Str) : List Str := ns.foldl addS l
theorem addsS_len : ∀ (ns l : List Str), (addsS l ns).length ≤ l.length + ns.length
  | [], l => Nat.le_refl _
  | n :: ns, l => by
    have h1 := addsS_len ns (addS l n)
    have h2 := addS_len l n
    show (addsS (addS l n) ns).length ≤ _
    rw [List.length_cons]
    omega
theorem set_update_strs {I : Addr} {fp wr : List Addr} {G : Array GenState → Array GenState → Prop} {n : Nat} {Pv : Nat → Value → Prop} {St : Nat → Shared → Prop} {R : Result → Shared → Prop}
    (W : WalksS P w A.in1 I fp wr G n Pv St) (S : Addr) (hSf : S ∉ fp) (ns : List Str) (hn : n = ns.length) (hb : ns.length + 1 < scanBound) (hval : ∀ i v, Pv i v → ∃ k t, ns[i]? = some k ∧ v = .str k t) :
    ∀ (k i : Nat) (s : Shared), n - i = k → i ≤ n → St i s → (∃ D, SetS P w s.heap S (addsS [] (ns.take i)) D) →
      (∀ s' D, Moved (S :: wr) G s s' → SetS P w s'.heap S (addsS [] ns) D → R (.ok (.ret .none)) s') →
      codeAny (model P w) A (.builtin "set.update.loop" ⟨[.ref S, .ref I], []⟩) R s := by
  have hSw : S ∉ wr := fun h => hSf (W.sub _ h)
  have hsub : ∀ b ∈ wr, b ∈ S :: wr := fun b hb => List.mem_cons_of_mem _ hb
  intro k
  induction k with
  | zero =>
    intro i s hk' hi hst ⟨D, hS⟩ hR
    have hin : i = n := by omega
    subst hin
    refine codeAny_builtin F.entry_set_update_loop ?_
    rw [Around.under_plainId F.plain_set_update_loop _]
    show wpAny _ A.in1 (pyNext (.ref I) >>= _) _ _ s
    refine wpAny_bind (W.done s _ _ hst fun s' hm => ?_)
    show wpAny _ A.in1 (ret Value.none) _ _ s'
    have e : ns.take i = ns := List.take_of_length_le (by omega)
    rw [e] at hS
    exact wpAny_pure (hR s' D (hm.mono hsub) (hS.keep fun o e => hm.heap S o hSw e))
  | succ k ih =>
    intro i s hk' hi hst ⟨D, hS⟩ hR
    have hlt : i < n := by omega
    refine codeAny_builtin F.entry_set_update_loop ?_
    rw [Around.under_plainId F.plain_set_update_loop _]
    show wpAny _ A.in1 (pyNext (.ref I) >>= _) _ _ s
    refine wpAny_bind (W.item i s _ _ hlt hst fun v s' hP hst' hm => ?_)
    obtain ⟨z, t, hz, rfl⟩ := hval i v hP
    have hS' : SetS P w s'.heap S (addsS [] (ns.take i)) D := hS.keep fun o e => hm.heap S o hSw e
    show wpAny _ A.in1 (holding [Value.str z t] (setAdd S (.str z t)) >>= _) _ _ s'
    refine wpAny_bind (wpAny_holding ?_)
    unfold setAdd
    refine wpAny_holding ?_
    refine wpAny_bind ((strKind P w).pyHash (k := z) (is_str _ _) ?_)
    have hl1 := addsS_len (ns.take i) []
    have hl2 : (ns.take i).length ≤ i := by rw [List.length_take]; omega
    rw [List.length_nil] at hl1
    refine add_any (P := P) (w := w) (s := { s' with toks := s'.toks + 1 }) hS' (by omega) fun b h' D2 hsb hS2 => ?_
    have hS3 : SetS P w h' S (addsS [] (ns.take (i + 1))) D2 := by
      have e : addsS [] (ns.take (i + 1)) = addS (addsS [] (ns.take i)) z := by
        unfold addsS
        rw [List.take_add_one, hz, List.foldl_append]
        rfl
      rw [e]
      exact hS2
    refine wpAny_pure ⟨plainId_quiet F.plain_set_update_loop _, ih (i + 1) _ (by omega) hlt (W.frame _ s' _ _ hst' (Nat.le_succ _) fun b hb o e => ?_) ⟨_, hS3⟩ fun s'' c2 hm'' hS'' => ?_⟩
    · rw [hsb.2 b (fun h : b = S => hSf (by rw [← h]; exact hb))]; exact e
    · refine hR s'' c2 (Moved.trans W.gtrans ((hm.mono hsub).then_heap (Nat.le_succ _) fun b o hb e => ?_) hm'') hS''
      rw [hsb.2 b (fun h : b = S => hb (by rw [h]; exact List.mem_cons_self))]; exact e
/-- set(list of texts) -/
theorem call_set_strs {l : Addr} {items : Array Value} (ns : List Str) {Q : Value → Shared → Prop} (hh : A.handled = none) (hl : s.heap.IsList l items) (hit : StrsAre items.toList ns) (hb : ns.length + 1 < scanBound)
    (h : ∀ (h' : Heap) (tk : Nat) (D : SD), SetS P w h' s.heap.objs.size (addsS [] ns) D → (∀ b o, s.heap.get? b = some o → h'.get? b = some o) → Q (.ref s.heap.objs.size) { s with heap := h', toks := tk }) :
    wpAny (model P w) A (call (.type "set") [.ref l]) Q E s := by
  have hisz : items.size = ns.length := by rw [← StrsAre.len_eq hit, Array.length_toList]
  obtain ⟨c, tl, hmro⟩ := F.called_set.mro
  have hmade := F.called_set.made
  have hsub := F.called_set.sub
  refine wpAny_call (codeAny_of_tree ?_)
  show wpAny _ _ (callAny (.type "set") _) _ _ _
  refine wpAny_pure ⟨Code.quiet_builtin _ (by decide +kernel), codeAny_builtin F.entry_type_call ?_⟩
  rw [Around.under_plain (weight_type_call_type "set" [.ref l] []) rfl]
  have h1 := F.called_set.notType
  have h2 := F.called_set.canCreate
  have hct := F.typeCall_set_1 (.ref l)
  repeat (any_goals (first | assumption | wp_step))
  refine codeAny_mono (code_set_led1 (.ref l) (E := E) (Q₁ := fun obj s₁ => obj = .ref s.heap.objs.size ∧ s₁ = { s with heap := s.heap.push { cls := .type "set", dict := none, data := .set #[] 0 (.fresh 0 0 (!w.params.followText "set-order")) } }) ⟨rfl, rfl⟩) fun r s₁ hr => ?_
  cases r with
  | error e => exact hr
  | ok fl =>
    cases fl with
    | ret obj =>
      obtain ⟨rfl, rfl⟩ := hr
      have hS : (s.heap.push { cls := .type "set", dict := none, data := .set #[] 0 (.fresh 0 0 (!w.params.followText "set-order")) }).get? s.heap.objs.size = some { cls := .type "set", dict := none, data := .set #[] 0 (.fresh 0 0 (!w.params.followText "set-order")) } := Heap.get?_push_size _ rfl
      have hT : Shared.TypeIs { s with heap := s.heap.push { cls := .type "set", dict := none, data := .set #[] 0 (.fresh 0 0 (!w.params.followText "set-order")) } } (.ref s.heap.objs.size) "set" := ⟨_, hS, rfl⟩
      have hli := F.called_set.init.lookup
      have hbi := F.called_set.init.bind (.ref s.heap.objs.size)
      repeat (any_goals (first | assumption | wp_step))
      refine codeAny_mono (codeAny_call_builtin (R := wants (fun r s₂ => r = .none ∧ ∃ h' tk D, s₂ = { s with heap := h', toks := tk } ∧ SetS P w h' s.heap.objs.size (addsS [] ns) D ∧
          (∀ b o, s.heap.get? b = some o → h'.get? b = some o)) E) F.called_set.init.plain F.entry_set_init (check_set_init_1 hT ?_)) fun r₂ s₂ hr₂ => ?_
      · obtain ⟨ol, hol, hcl, nl, hdl⟩ := hl
        obtain ⟨ocls, odict, odata, oslots⟩ := ol
        simp only at hcl hdl
        subst hcl; subst hdl
        have hol' : (s.heap.push { cls := .type "set", dict := none, data := .set #[] 0 (.fresh 0 0 (!w.params.followText "set-order")) }).get? l = some { cls := .type "list", dict := odict, data := .seq items nl, slots := oslots } := Heap.get?_push_of_some _ hol
        have hsls := PySem.F.sub_list_set
        have hslf := PySem.F.sub_list_frozenset
        have hne : (Value.type "list" == Value.type "dict") = false := by decide
        have hl1 : (s.heap.push { cls := .type "set", dict := none, data := .set #[] 0 (.fresh 0 0 (!w.params.followText "set-order")) }).IsList l items := ⟨_, hol', rfl, nl, rfl⟩
        unfold Builtin.«set.__init__» noKeywords Builtin.Frozenset.updateFrom
        generalize hPI : pyIter = PI
        wp_walk
        subst hPI
        refine wpAny_pyIter_list hl1 ?_
        refine wpAny_bind (wpAny_runValue ?_)
        have hlS : l < s.heap.objs.size := Heap.lt_size hol
        have hh3 : A.in1.in1.in1.handled = none := by simp [hh]
        have hneI : l ≠ (s.heap.push { cls := .type "set", dict := none, data := .set #[] 0 (.fresh 0 0 (!w.params.followText "set-order")) }).objs.size := by
          rw [Heap.size_push]; exact Nat.ne_of_lt (Nat.lt_succ_of_lt hlS)
        have hSf : s.heap.objs.size ∉ [(s.heap.push { cls := .type "set", dict := none, data := .set #[] 0 (.fresh 0 0 (!w.params.followText "set-order")) }).objs.size, l] := by
          rw [Heap.size_push]; simp only [List.mem_cons, List.mem_singleton, List.not_mem_nil, or_false, not_or]
          exact ⟨Nat.ne_of_lt (Nat.lt_succ_self _), Nat.ne_of_gt hlS⟩
        have hval : ∀ (i : Nat) (v : Value), items[i]? = some v → ∃ k t, ns[i]? = some k ∧ v = .str k t := fun i v hv => by
          have hi : i < ns.length := by rw [← hisz]; exact (Array.getElem?_eq_some_iff.mp hv).1
          obtain ⟨t, e⟩ := SS.strs_at hit i v (by rw [Array.getElem?_toList]; exact hv)
          refine ⟨ns[i], t, List.getElem?_eq_getElem hi, ?_⟩
          rw [e, List.getD_eq_getElem?_getD, List.getElem?_eq_getElem hi] <;> rfl
        refine set_update_strs ((Walks.list hh3 _ l hneI items).toS) s.heap.objs.size
          hSf ns hisz hb hval (items.size - 0) 0 _ (by omega) (Nat.zero_le _)
          ⟨⟨_, Heap.get?_push_size _ rfl, rfl, rfl⟩, (hl1.push _)⟩ ?hS0 ?hR
        case hS0 =>
          have hget : ((s.heap.push { cls := .type "set", dict := none, data := .set #[] 0 (.fresh 0 0 (!w.params.followText "set-order")) }).push { cls := .type "list_iterator", data := .fields #[.ref l, .int 0 0] }).get? s.heap.objs.size = some { cls := .type "set", dict := none, data := .set #[] 0 (.fresh 0 0 (!w.params.followText "set-order")) } := Heap.get?_push_of_some _ hS
          exact ⟨_, SetS.fresh hget⟩
        case hR =>
          intro s' D' hm hS'
          obtain ⟨h', g2, d', tk', os'⟩ := s'
          have eg : g2 = s.gens := hm.gens
          have ed : d' = s.drawn := hm.drawn
          have eo : os' = s.os := hm.os
          subst eg; subst ed; subst eo
          show wpAny _ _ _ _ _ _
          refine wpAny_pure ?_
          show wpAny _ _ (ret Value.none) _ _ _
          refine wpAny_pure ⟨rfl, h', tk', D', rfl, hS', fun b o e => ?_⟩
          have hb0 : b < s.heap.objs.size := Heap.lt_size e
          have hb1 : b ≠ s.heap.objs.size := Nat.ne_of_lt hb0
          have hb2 : b ≠ (s.heap.push { cls := .type "set", dict := none, data := .set #[] 0 (.fresh 0 0 (!w.params.followText "set-order")) }).objs.size := by
            rw [Heap.size_push]; exact Nat.ne_of_lt (Nat.lt_succ_of_lt hb0)
          exact hm.heap b o (by simp only [List.mem_cons, List.mem_singleton, List.not_mem_nil, or_false, not_or]; exact ⟨hb1, hb2⟩) (Heap.get?_push_of_some _ (Heap.get?_push_of_some _ e))
      · cases r₂ with
        | error e => exact hr₂
        | ok fl₂ =>
          cases fl₂ with
          | ret r =>
            obtain ⟨rfl, h', tk, D', rfl, hS', hk'⟩ := hr₂
            repeat (any_goals (first | assumption | wp_step))
            exact h _ _ _ hS' hk'
          | _ => exact hr₂.elim
    | _ => exact hr.elim
/-- sorted(set of texts) -/
theorem sorted_strs_set (R : SetS P w s.heap a l D) (hh : A.handled = none) (h64 : l.length < 64) {Q : Value → Shared → Prop}
    (hQ : ∀ s' p (out : Array Value) (c : Nat) (ys : List Str), (∀ b o, s.heap.get? b = some o → s'.heap.get? b = some o) → s'.gens = s.gens → s'.os = s.os → s.heap.objs.size ≤ p →
      s'.heap.get? p = some (seqObj "list" out c) → StrsAre out.toList ys → ys.Perm l → sortedS ys = true → Q (.ref p) s') :
    wpAny (model P w) A (call (.builtin "sorted") [.ref a]) Q E s := by
  have hsz : D.1.size = l.length := R.ok.sz
  refine Calls.call_function_entry kind_sorted plain_sorted entry_sorted (args_sorted1 _) ?_
  unfold Builtin.«sorted»
  refine wpAny_bind (m := checkCount "sorted" 1 1 _) (wpAny_pure ?_)
  refine wpAny_bind (collect_set (A := A.in1) hh ⟨_, R.at', rfl, rfl⟩ R.ok.fit (by rw [hsz]; exact Nat.lt_trans h64 (by decide)) R.ris R.led fun s1 vs k1 hz g1 o1 pm => ?_)
  have hvl : vs.length = l.length := by rw [pm.length_eq, List.length_map, Array.length_toList]; exact hsz
  have hvs : ∀ v ∈ vs, ∃ k tk, v = Value.str k tk := fun v hv => by
    obtain ⟨e, he, q⟩ := List.mem_map.mp (pm.mem_iff.mp hv)
    obtain ⟨k, tk, h1⟩ := R.vals e he
    exact ⟨k, tk, by rw [← q]; exact h1⟩
  have hS : ∀ vs : List Value, (∀ v ∈ vs, ∃ k tk, v = Value.str k tk) → StrsAre vs (vs.map fun v => sOf (0, v)) := by
    intro vs
    induction vs with
    | nil => intro _; exact .nil
    | cons v vs ih =>
      intro h
      obtain ⟨k, tk, rfl⟩ := h v List.mem_cons_self
      exact .cons k tk (ih fun u hu => h u (List.mem_cons_of_mem _ hu))
  have hS := hS vs hvs
  have pk : (vs.map fun v => sOf (0, v)).Perm l := by
    have q := pm.map fun v => sOf (0, v)
    rw [List.map_map] at q
    exact q.trans R.perm
  refine wpAny_bind (wpAny_newList ?_ (by rw [hvl, sizeLine_eq]; omega))
  have hoL : (s1.heap.push (seqObj "list" vs.toArray 0)).get? s1.heap.objs.size = some (seqObj "list" vs.toArray 0) := Heap.get?_push_size _ rfl
  refine wpAny_bind (wpAny_holding (wpAny_call_entry slot_list_sort ⟨_, hoL, rfl⟩ entry_list_sort
    (list_sort_treeK strKind_oneLt (s := { s1 with heap := s1.heap.push (seqObj "list" vs.toArray 0) }) hoL hS.keysOf (fun v₁ v₂ rest e => keyKind_strs (by rw [← e]; exact hS)) (by rw [hvl]; exact h64) fun st' hp hs => ⟨_, rfl, ?_⟩)
    (args_list_sort _)))
  obtain ⟨ys, q1, q2, q3⟩ := sorted_out_str hS hp hs
  obtain ⟨c, hc⟩ := sortedHeap_at (vs := vs) (out := (arrOf st').map (·.2)) hoL
  refine wpAny_pure ⟨_, rfl, hQ _ s1.heap.objs.size _ c ys (fun b u e => ?_) g1 o1 hz hc q1 (q2.trans pk) q3⟩
  have q := k1 b u e
  have hlt := Heap.lt_size q
  show (sortedHeap (s1.heap.push (seqObj "list" vs.toArray 0)) s1.heap.objs.size vs _).get? b = some u
  rw [sortedHeap_old (Nat.ne_of_lt hlt) (by rw [size_push']; exact Nat.lt_succ_of_lt hlt)]
  exact Heap.get?_push_of_some _ q
end
theorem addsS_mem (k : Str) : ∀ (ns l : List Str), k ∈ addsS l ns ↔ k ∈ l ∨ k ∈ ns
  | [], l => by simp [addsS]
  | n :: ns, l => by
    show k ∈ addsS (addS l n) ns ↔ _
    rw [addsS_mem k ns, List.mem_cons]
    unfold addS
    split
    · rename_i h
      constructor
      · rintro (h1 | h1)
        · exact .inl h1
        · exact .inr (.inr h1)
      · rintro (h1 | rfl | h1)
        · exact .inl h1
        · exact .inl h
        · exact .inr h1
    · rw [List.mem_cons]
      constructor
      · rintro ((rfl | h1) | h1)
        · exact .inr (.inl rfl)
        · exact .inl h1
        · exact .inr (.inr h1)
      · rintro (h1 | rfl | h1)
        · exact .inl (.inr h1)
        · exact .inl (.inl rfl)
        · exact .inr h1
theorem addsS_nd : ∀ (ns : List Str) {l : List Str}, l.Nodup → (addsS l ns).Nodup
  | [], _, h => h
  | n :: ns, l, h => by
    show (addsS (addS l n) ns).Nodup
    refine addsS_nd ns ?_
    unfold addS
    split
    · exact h
    · rename_i hk
      exact List.nodup_cons.mpr ⟨hk, h⟩
section
variable {X : Cx} {a : Expr} {ta : TE} {p p2 q pos : Pos}
def tSortSet (K : PySem.W.Frag) (ta : TE) : TE := fun σ H Q => ta σ H fun x H1 => ∃ l, ∃ xs : List Str, x = .ref l ∧ SqL K H1 l (xs.map V.str) ∧ xs.length < 64 ∧ ∀ b, H1 b = none → Q (.ref b) (upd H1 b (.lst ((sortStrs (addsS [] xs)).map V.str)))
theorem pe_sortSet (hc : X.calm = true) (hg : Gl X "sorted") (hm : X.mg "sorted" = none) (hg2 : Gl X "set") (hm2 : X.mg "set" = none) (ha : PE X a ta)
    (na : starEach [a] X.env = (false, eval a X.env) :: starEach [] X.env := by rfl) : PE X (.Call (.Name "sorted" p) [.Call (.Name "set" p2) [a] [] q] [] pos) (tSortSet X.K ta) := by
  refine ⟨fun pins s σ H Q I h => ?_⟩
  have hs : starEach [.Call (.Name "set" p2) [a] [] q] X.env = (false, eval (.Call (.Name "set" p2) [a] [] q) X.env) :: starEach [] X.env := rfl
  refine wpAny_Call_Name_kw (ld_blt I hg hm (by decide +kernel : bootBuiltins "sorted" = some (.builtin "sorted")) ?_)
  refine PyProof.Rows.callWith_builtin1 ?_ hs rfl
  rw [hs]
  show wpAny _ _ (spliced ((false, eval (.Call (.Name "set" p2) [a] [] q) X.env) :: backTo pos (starEach [] X.env))) _ _ s
  refine Calls.spliced_cons ?_
  refine Call_ (ld_blt I hg2 hm2 (by decide +kernel : bootBuiltins "set" = some (.type "set")) ?_)
  refine PyProof.Rows.callWith_type1 (PyProof.Rows.args_cons (thn (ha.run pins s σ H _ I h) fun v s1 ⟨x, H1, I1, r1, q1⟩ => PyProof.Rows.args_nil ?_) na) na rfl
  obtain ⟨l, xs, rfl, hq, h64, q1⟩ := q1
  cases r1
  obtain ⟨its, r, pl, hz⟩ := I1.list hq
  have hl := addsS_len xs []
  rw [List.length_nil] at hl
  refine call_set_strs xs (I1.ok.hd hc) pl.isList (by simpa using strs_vals r) (Nat.lt_trans (Nat.succ_lt_succ h64) (by decide)) fun h' tk D hS hk => ?_
  refine Calls.spliced_nil ?_
  refine sorted_strs_set (s := { s1 with heap := h', toks := tk }) hS (I1.ok.hd hc) (by omega) fun s' p out c ys k g o hp hg hi hs hm => ?_
  have hlen : (ys.map V.str).length ≤ sizeLine := by rw [List.length_map, hs.length_eq, sizeLine_eq]; omega
  have I2 : Inv X pins σ H1 { s1 with heap := h', toks := tk } := I1.kept fun b o e => hk b o e
  have hn : H1 p = none := I2.hok.fresh hp
  have J : Inv X pins σ (upd H1 p (.lst (ys.map V.str))) { ({ s1 with heap := h', toks := tk } : Shared) with heap := s'.heap, gens := s'.gens, drawn := s'.drawn, toks := s'.toks } :=
    Inv.call (s := { s1 with heap := h', toks := tk }) I2 (ch := []) (Un.laid k hp hn) (I2.hok.laid k hp ⟨hlen, out.toList, c, vals_of_strs hi, hg⟩) (by rw [g]; exact I2.bare) (fun _ z => nomatch z)
  have e : s' = { s1 with heap := s'.heap, gens := s'.gens, drawn := s'.drawn, toks := s'.toks } := by
    cases s'
    cases s1
    cases o
    rfl
  rw [e]
  refine ⟨.ref p, _, J, rfl, ?_⟩
  have ey : ys = sortStrs (addsS [] xs) := sortStrs_eq hs hm
  rw [ey]
  exact q1 p hn
def tLenSetS (K : PySem.W.Frag) (ta : TE) : TE := fun σ H Q => ta σ H fun x H1 => ∃ l, ∃ xs : List Str, x = .ref l ∧ SqL K H1 l (xs.map V.str) ∧ xs.length < 64 ∧ Q (.int ((addsS [] xs).length : Nat)) H1
theorem pe_lenSetS (hc : X.calm = true) (hg : Gl X "len") (hm : X.mg "len" = none) (hg2 : Gl X "set") (hm2 : X.mg "set" = none) (ha : PE X a ta)
    (na : starEach [a] X.env = (false, eval a X.env) :: starEach [] X.env := by rfl) : PE X (.Call (.Name "len" p) [.Call (.Name "set" p2) [a] [] q] [] pos) (tLenSetS X.K ta) := by
  refine ⟨fun pins s σ H Q I h => ?_⟩
  refine Call_ (ld_blt I hg hm boot_len ?_)
  refine PyProof.Rows.callWith_builtin1 (PyProof.Rows.args_cons ?_ rfl) rfl rfl
  refine Call_ (ld_blt I hg2 hm2 (by decide +kernel : bootBuiltins "set" = some (.type "set")) ?_)
  refine PyProof.Rows.callWith_type1 (PyProof.Rows.args_cons (thn (ha.run pins s σ H _ I h) fun v s1 ⟨x, H1, I1, r1, q1⟩ => PyProof.Rows.args_nil ?_) na) na rfl
  obtain ⟨l, xs, rfl, hq, h64, q1⟩ := q1
  cases r1
  obtain ⟨its, r, pl, hz⟩ := I1.list hq
  have hl := addsS_len xs []
  rw [List.length_nil] at hl
  refine call_set_strs xs (I1.ok.hd hc) pl.isList (by simpa using strs_vals r) (Nat.lt_trans (Nat.succ_lt_succ h64) (by decide)) fun h' tk D hS hk => ?_
  refine PyProof.Rows.args_nil ?_
  have I2 : Inv X pins σ H1 { s1 with heap := h', toks := tk } := I1.kept fun b o e => hk b o e
  have hsz : D.1.size = (addsS [] xs).length := hS.ok.sz
  refine call_len_set (s := { s1 with heap := h', toks := tk }) hS.at' ⟨rfl, rfl, rfl⟩ rfl hS.ok.fit (by rw [hsz]; omega) ⟨.int ((addsS [] xs).length : Nat), H1, I2.tok _, ⟨_, by rw [hsz]⟩, q1⟩
variable {G : Gm} {E : XK} {fa : ExM}
def eSS (fa : ExM) : ExM := fun env S => bnd (fa env S) fun x S1 => match (lrdOf x S1).bind strsOf with
  | some ss => if ss.length < 64 then .ok (.new ((sortStrs (addsS [] ss)).map D.str)) S1 else .bad
  | none => .bad
def eLS (fa : ExM) : ExM := fun env S => bnd (fa env S) fun x S1 => match (lrdOf x S1).bind strsOf with
  | some ss => if ss.length < 64 then .ok (.val (.int ((addsS [] ss).length : Nat))) S1 else .bad
  | none => .bad
theorem de_sortSet (hK : X.K = G.K) (hc : X.calm = true) (ha : PE X a (tD G E fa)) (hg : Gl X "sorted") (hm : X.mg "sorted" = none) (hg2 : Gl X "set") (hm2 : X.mg "set" = none) (hp : plainE a = true) :
    PE X (.Call (.Name "sorted" p) [.Call (.Name "set" p2) [a] [] q] [] pos) (tD G E (eSS fa)) :=
  PE.wk (pe_sortSet hc hg hm hg2 hm2 ha (star1 hp _)) fun σ H Q ⟨μ, S, env, w, er, h⟩ => by
    refine tD_go w er (post_bnd.1 h) fun x S1 v H1 μ1 l1 w1 er1 rx h1 => ?_
    split at h1
    · rename_i ss e
      split at h1
      · rename_i hz
        obtain ⟨xs, e1, e2⟩ := Option.bind_eq_some_iff.mp e
        obtain ⟨b, us, rfl, hs, r⟩ := lrdOf_ok w1 rx e1
        rw [strsOf_eq e2] at r
        rw [vals_strs r] at hs
        refine ⟨b, ss, rfl, by rw [hK]; exact hs, hz, fun t ht => ?_⟩
        exact h1 _ _ μ1 (l1.trans (Le.laid ht)) (w1.laid ht) (Rx.fresh w1 ht (l1.free ht) (Rs.of_strs _))
      · exact h1.elim
    · exact h1.elim
theorem de_lenSet (hK : X.K = G.K) (hc : X.calm = true) (ha : PE X a (tD G E fa)) (hg : Gl X "len") (hm : X.mg "len" = none) (hg2 : Gl X "set") (hm2 : X.mg "set" = none) (hp : plainE a = true) :
    PE X (.Call (.Name "len" p) [.Call (.Name "set" p2) [a] [] q] [] pos) (tD G E (eLS fa)) :=
  PE.wk (pe_lenSetS hc hg hm hg2 hm2 ha (star1 hp _)) fun σ H Q ⟨μ, S, env, w, er, h⟩ => by
    refine tD_go w er (post_bnd.1 h) fun x S1 v H1 μ1 l1 w1 er1 rx h1 => ?_
    split at h1
    · rename_i ss e
      split at h1
      · rename_i hz
        obtain ⟨xs, e1, e2⟩ := Option.bind_eq_some_iff.mp e
        obtain ⟨b, us, rfl, hs, r⟩ := lrdOf_ok w1 rx e1
        rw [strsOf_eq e2] at r
        rw [vals_strs r] at hs
        exact ⟨b, ss, rfl, by rw [hK]; exact hs, hz, h1 _ _ μ1 l1 w1 (.int _)⟩
      · exact h1.elim
    · exact h1.elim
end
end Bz

set_option Elab.async false
set_option linter.all false
set_option maxRecDepth 100000
set_option maxHeartbeats 4000000
/-! Bz, ninth part: from the syntax to functions. -/
namespace Bz
open PySem PySem.Spec PyProof.Rows L2

/-! ### what the syntax says of stores -/
def swNames (env : PySem.Env) (ts : List Expr) : List Str := ts.filterMap fun
    | .Name id pos => if env.kindOf id == some .local && pos.line == (ts.head?.map (·.pos.line)).getD 0 then some id else none
    | _ => none
theorem sw_eq (ts vs : List Expr) (kt k2 : Nat) (pt pt2 : Pos) (env : PySem.Env) : swappedStores [.Tuple ts kt pt] (.Tuple vs k2 pt2) env =
    (if (!(ts.length == 2 || ts.length == 3) || vs.length != ts.length || env.blockKind != .function) = true then pure none
     else if (vs.any fun | .Starred .. => true | _ => false) = true then pure none
     else if ((swNames env ts).length != ts.length || (swNames env ts).eraseDups.length != (swNames env ts).length) = true then pure none
     else if vs.all (foldedForSure 8) = true then pure none
     else if vs.all (constantsAlone 8) = true then (do unsupported "assign.tuple-of-constant-expressions:order-of-the-stores"; pure (some (swNames env ts)))
     else pure (some (swNames env ts))) := by
  unfold swappedStores
  rfl
theorem sw_other {t v : Expr} (h : ¬ ∃ vs k p, v = .Tuple vs k p) (env : PySem.Env) : swappedStores [t] v env = pure none := by
  unfold swappedStores
  cases v <;> first | (cases t <;> rfl) | exact absurd ⟨_, _, _, rfl⟩ h
theorem sw_other2 {t v : Expr} (h : ¬ ∃ vs k p, t = .Tuple vs k p) (h2 : ¬ ∃ vs p, t = .List vs p) (env : PySem.Env) : swappedStores [t] v env = pure none := by
  unfold swappedStores
  cases t <;> first | (cases v <;> rfl) | exact absurd ⟨_, _, _, rfl⟩ h | exact absurd ⟨_, _, rfl⟩ h2
def isComp : Expr → Bool
  | .ListComp .. => true
  | .SetComp .. => true
  | .DictComp .. => true
  | _ => false
theorem swaps_plain {e : Expr} (h : isComp e = false) (t : Option Expr) (l : Nat) (env : PySem.Env) : swapsWith e t l env = pure false := by
  cases e <;> first | rfl | (simp [isComp] at h)
def notSet : Expr → Bool
  | .Set .. => false
  | _ => true
theorem folded_plain {e : Expr} (h : notSet e = true) (env : PySem.Env) (x : Value) : foldedSetIterable e env x = pure x := by
  cases e <;> first | rfl | (simp [notSet] at h)
/-- whether the stores of names go from the right: some (some ..) yes, some none no -/
def swCalc (sc : Scope) (ts vs : List Expr) : Option (Option (List Str)) :=
  let names := ts.filterMap fun
    | .Name id pos => if sc.names.lookup id == some .local && pos.line == (ts.head?.map (·.pos.line)).getD 0 then some id else none
    | _ => none
  if (!(ts.length == 2 || ts.length == 3) || vs.length != ts.length) = true then some none
  else if (vs.any fun | .Starred .. => true | _ => false) = true then some none
  else if (names.length != ts.length || names.eraseDups.length != names.length) = true then some none
  else if vs.all (foldedForSure 8) = true then some none
  else if vs.all (constantsAlone 8) = true then none
  else some (some names)
theorem swCalc_ok {sc : Scope} {ts vs : List Expr} {o : Option (List Str)} (h : swCalc sc ts vs = some o) (kt k2 : Nat) (pt pt2 : Pos) {env : PySem.Env} (hs : env.scope = sc) (hk : sc.kind = .function) : swappedStores [.Tuple ts kt pt] (.Tuple vs k2 pt2) env = pure o := by
  have hb : env.blockKind = .function := by unfold Env.blockKind; rw [hs, hk]; rfl
  have hn : swNames env ts = ts.filterMap fun
    | .Name id pos => if sc.names.lookup id == some .local && pos.line == (ts.head?.map (·.pos.line)).getD 0 then some id else none
    | _ => none := by
    unfold swNames
    subst hs
    rfl
  have hb2 : (env.blockKind != ScopeKind.function) = false := by rw [hb]; rfl
  rw [sw_eq, hn, hb2, Bool.or_false]
  unfold swCalc at h
  simp only at h
  split at h
  · rename_i c
    cases h
    rw [if_pos c]
  · rename_i c
    rw [if_neg c]
    split at h
    · rename_i c
      cases h
      rw [if_pos c]
    · rename_i c
      rw [if_neg c]
      split at h
      · rename_i c
        cases h
        rw [if_pos c]
      · rename_i c
        rw [if_neg c]
        split at h
        · rename_i c
          cases h
          rw [if_pos c]
        · rename_i c
          rw [if_neg c]
          split at h
          · cases h
          · rename_i c
            cases h
            rw [if_neg c]

/-! ### the program's defs, as they are called -/
structure Cc where
  N : List Str
  fns : List Str
  F : Str → FnM
  np : Str → Nat
  gl : List (Str × Int)
  /-- the names that hold what changes; tuples known to have no dict; what is told may change; names of dicts whose keys are tuples -/
  mu : List Str := []
  tf : Bool := false
  rm : Bool := false
  tk : List Str := []
def ixOf (N : List Str) (x : Str) : Option Nat := N.findIdx? fun y => decide (y = x)
theorem ixOf_ok {N : List Str} {x : Str} {i : Nat} (h : ixOf N x = some i) : N[i]? = some x := by
  unfold ixOf at h
  obtain ⟨h1, h2, _⟩ := List.findIdx?_eq_some_iff_getElem.mp h
  have := of_decide_eq_true h2
  rw [List.getElem?_eq_getElem h1, this]
def bltNames : List Str := ["len", "abs", "max", "min", "sum", "all", "list", "tuple", "isinstance", "int", "bool", "str", "dict", "range", "zip", "sorted", "set", "enumerate"]
structure Cok (C : Cc) (G : Gm) (E : XK) (sc : Scope) (fq : Str → Bool) (X : Cx) : Prop where
  hN : X.N = C.N
  nd : C.N.Nodup
  hsc : X.env.scope = sc
  kind : sc.kind = .function
  hK : X.K = G.K
  hmg : X.mg = G.mg
  calm : X.calm = true
  fq : ∀ x, fq x = true → X.fn x = true
  own : PassesOwn (model X.prog X.w) X.A X.env X.xe
  units : X.A.units + 64 < cLine
  fns : ∀ x ∈ C.fns, ∃ (CX : CXT) (k : Nat) (f : Addr) (fd : FuncData) (ps : List Str), FnOk X.prog X.w X.K X.mg X.base CX k f fd ps (spF G (C.np x) (C.F x)) ∧ Room k X.A ∧ X.mg x = some (.ref f) ∧ PySem.W.keepIn X.K (.ref f) = true ∧ Binds X.K fd ps [] ∧ Passes CX X E ∧
    (∀ outer H s e s', CX outer H s X0 e s' → False) ∧ ∀ ds S, ds.length ≠ C.np x → C.F x ds S = .bad
  blt : ∀ x ∈ bltNames, X.mg x = none
  glb : ∀ x i, C.gl.lookup x = some i → ∃ t, X.mg x = some (.int i t)
theorem Cok.gl {C : Cc} {G : Gm} {E : XK} {sc : Scope} {fq : Str → Bool} {X : Cx} (c : Cok C G E sc fq X) {x : Str} (h : sc.names.lookup x = some .globalImplicit) : Gl X x := by
  unfold Gl Env.kindOf
  rw [c.hsc]
  exact h
/-- a name of the def that is read -/
def visOf (sc : Scope) (x : Str) : Bool := match sc.names.lookup x with
  | some .local => true
  | some .cell => true
  | some .free => true
  | _ => false
theorem visOf_ok {sc : Scope} {x : Str} (h : visOf sc x = true) : Vis sc x := by
  unfold visOf at h
  split at h <;> first | exact .inl (by assumption) | exact .inr (.inl (by assumption)) | exact .inr (.inr (by assumption)) | cases h
def glOf (sc : Scope) (x : Str) : Bool := decide (sc.names.lookup x = some .globalImplicit)
/-- a name of the def that is stored -/
def locOf (sc : Scope) (fq : Str → Bool) (x : Str) : Bool := match sc.names.lookup x with
  | some .local => true
  | some .cell => fq x
  | _ => false
theorem locOf_ok {C : Cc} {G : Gm} {E : XK} {sc : Scope} {fq : Str → Bool} {X : Cx} (c : Cok C G E sc fq X) {x : Str} (h : locOf sc fq x = true) : Loc X.env.scope x ∧ (X.fn x = true ∨ X.env.scope.names.lookup x = some .local) := by
  rw [c.hsc]
  unfold locOf at h
  split at h
  · exact ⟨.inl (by assumption), .inr (by assumption)⟩
  · exact ⟨.inr (by assumption), .inl (c.fq x h)⟩
  · cases h

/-! ### operators -/
def opB : Operator → Option (Rv → Rv → Sto → Res Rv)
  | .Add => some addV
  | .Sub => some subV
  | .Mult => some mulV
  | .FloorDiv => some divV
  | .Mod => some modV
  | .Pow => some powV
  | _ => none
theorem opB_ok {G : Gm} {E : XK} {X : Cx} (hK : X.K = G.K) {op : Operator} {g : Rv → Rv → Sto → Res Rv} (h : opB op = some g) : ∃ r, OpR X (binaryOp op) r ∧ OkOp G E r g := by
  cases op <;> cases h
  · exact ok_add hK
  · exact ok_sub
  · exact ok_mul
  · exact ok_mod
  · exact ok_pow
  · exact ok_div
def opC : CmpOp → (Rv → Rv → Sto → Res Rv)
  | .Eq => eqV'
  | .NotEq => neV'
  | .Lt => ltV
  | .LtE => leV
  | .Gt => gtV
  | .GtE => geV
  | .Is => isV'
  | .IsNot => isNotV'
  | .In => inV'
  | .NotIn => notInV'
theorem opC_ok {G : Gm} {E : XK} {X : Cx} (hK : X.K = G.K) (hu : X.A.units + 64 < cLine) (op : CmpOp) : ∃ r, OpR X (compareOp op) r ∧ OkOp G E r (opC op) := by
  cases op
  · exact ok_eq hK hu
  · exact ok_ne hK hu
  · exact ok_lt hK hu
  · exact ok_le hK hu
  · exact ok_gt hK hu
  · exact ok_ge hK hu
  · exact ok_is
  · exact ok_isnot
  · exact ok_in hK hu
  · exact ok_notin hK hu
def isSet : Expr → Bool
  | .Set .. => true
  | _ => false
theorem marks_plain {op : CmpOp} {b : Expr} (h : isSet b = false) : behindInMarks op b = false := by
  cases b <;> first | rfl | (simp [isSet] at h)

/-! ### built-ins -/
def b1s : List (Str × (Rv → Sto → Res Rv)) := [("len", lenV), ("abs", absI), ("sum", sumV), ("all", allV), ("list", listV), ("tuple", tupleV), ("min", min1V), ("max", max1V), ("sorted", sortedV), ("dict", dictV)]
def b2s : List (Str × (Rv → Rv → Sto → Res Rv)) := [("max", maxV), ("min", minV)]
def tys : List (Str × Ty) := [("int", .int), ("bool", .bool), ("str", .str), ("tuple", .tuple), ("list", .list), ("dict", .dict)]

structure Pk where
  E : Expr → Option ExM
  T : Expr → Option TsM
def Pk.none : Pk := ⟨fun _ => Option.none, fun _ => Option.none⟩

/-- what is stored under a name that changes stays in the store; else it becomes a value -/
def fzBy (C : Cc) (t : Expr) (f : ExM) : ExM := match t with
  | .Name x _ => if x ∈ C.mu then f else eFz f
  | .Subscript _ _ _ => eFzL f
  | _ => eFz f
def isItems (m : Str) (o : Expr) (apos cpos : Pos) : Bool := decide (m = ("items" : Str)) && baseOk o && (apos.endLine == cpos.line)
section
variable (C : Cc) (P : Scope → Pk) (sc : Scope)
/-- arguments, items -/
def cArgs (w : ExM → ExM) : List Expr → Option ArM
  | [] => some aNil
  | e :: es => if plainE e = true then (match (P sc).E e, cArgs w es with
      | some f, some g => some (aCons (w f) g)
      | _, _ => none) else none
/-- what is stored under names, side by side -/
def cArgsN : List Expr → List Expr → Option ArM
  | [], [] => some aNil
  | t :: ts, e :: es => if plainE e = true then (match (P sc).E e, cArgsN ts es with
      | some f, some g => some (aCons (fzBy C t f) g)
      | _, _ => none) else none
  | _, _ => none
def cPairs : List (Option Expr) → List Expr → Option (List (ExM × ExM))
  | [], [] => some []
  | some k :: ks, v :: vs => (match (P sc).E k, (P sc).E v, cPairs ks vs with
      | some f, some g, some r => some ((eFz f, eFzL g) :: r)
      | _, _, _ => none)
  | _, _ => none
def cAnd : List Expr → Option ExM
  | [] => none
  | [a] => (P sc).E a
  | a :: b :: rest => match (P sc).E a, cAnd (b :: rest) with
    | some f, some g => some (eAnd f g)
    | _, _ => none
def cOr : List Expr → Option ExM
  | [] => none
  | [a] => (P sc).E a
  | a :: b :: rest => match (P sc).E a, cOr (b :: rest) with
    | some f, some g => some (eOr f g)
    | _, _ => none
def cAndT : List Expr → Option TsM
  | [] => none
  | [a] => (P sc).T a
  | a :: b :: rest => match (P sc).T a, cAndT (b :: rest) with
    | some f, some g => some (tsAnd f g)
    | _, _ => none
def cOrT : List Expr → Option TsM
  | [] => none
  | [a] => (P sc).T a
  | a :: b :: rest => match (P sc).T a, cOrT (b :: rest) with
    | some f, some g => some (tsOr f g)
    | _, _ => none
def cPart : Option Expr → Option (Env → Sto → Res (Option Int))
  | none => some ptNo
  | some e => ((P sc).E e).map ptI
/-- what is walked; tt: the target is a tuple -/
def cSrcB (e : Expr) : Option SrM := ((P sc).E e).map fun f => srB (eFz f)
def cSrc (tt : Bool) (e : Expr) : Option SrM := match e with
  | .Call (.Attribute o m apos) [] [] cpos => if isItems m o apos cpos = true ∧ tt = true then ((P sc).E o).map fun f => srItems (eFz f)
      else if m = ("values" : Str) ∧ baseOk o = true ∧ (apos.endLine == cpos.line) = true then ((P sc).E o).map fun f => srVals (eFz f)
      else none
  | .Call (.Name x _) [a] [] _ => if x = ("range" : Str) ∧ glOf sc x = true ∧ plainE a = true then ((P sc).E a).map srR1
      else if x = ("enumerate" : Str) ∧ glOf sc x = true ∧ plainE a = true ∧ tt = true then ((P sc).E a).map fun f => srEn (eFz f)
      else cSrcB P sc e
  | .Call (.Name x _) [a, b] [] _ => if x = ("range" : Str) ∧ glOf sc x = true ∧ plainE a = true ∧ plainE b = true then (match (P sc).E a, (P sc).E b with
        | some f, some g => some (srR2 f g)
        | _, _ => none)
      else if x = ("zip" : Str) ∧ glOf sc x = true ∧ plainE a = true ∧ plainE b = true ∧ tt = true then (match (P sc).E a, (P sc).E b with
        | some f, some g => some (srZB (eFz f) (eFz g))
        | _, _ => none)
      else cSrcB P sc e
  | .Call (.Name x _) [a, b, d] [] _ => if x = ("zip" : Str) ∧ glOf sc x = true ∧ plainE a = true ∧ plainE b = true ∧ plainE d = true ∧ tt = true then (match (P sc).E a, (P sc).E b, (P sc).E d with
        | some f, some g, some h => some (srZ3 (eFz f) (eFz g) (eFz h))
        | _, _, _ => none)
      else cSrcB P sc e
  | e => cSrcB P sc e
/-- targets of names -/
def cTgN (fq : Str → Bool) : Expr → Option (List Nat × TgM)
  | .Name x _ => if locOf sc fq x = true then (ixOf C.N x).map fun i => ([i], gNm i) else none
  | _ => none
def cTgsN (fq : Str → Bool) : List Expr → Option (List Nat × TgsM)
  | [] => some ([], gsNil)
  | e :: es => match cTgN C sc fq e, cTgsN fq es with
    | some (ts, f), some (us, g) => some (ts ++ us, gsCons f g)
    | _, _ => none
def cTg1 (fq : Str → Bool) : Expr → Option (List Nat × TgM)
  | .Tuple es _ _ => (cTgsN C sc fq es).map fun p => (p.1, gTp es.length p.2)
  | e => cTgN C sc fq e
def cTgs1 (fq : Str → Bool) : List Expr → Option (List Nat × TgsM)
  | [] => some ([], gsNil)
  | e :: es => match cTg1 C sc fq e, cTgs1 fq es with
    | some (ts, f), some (us, g) => some (ts ++ us, gsCons f g)
    | _, _ => none
def cTg (fq : Str → Bool) : Expr → Option (List Nat × TgM)
  | .Tuple es _ _ => (cTgs1 C sc fq es).map fun p => (p.1, gTp es.length p.2)
  | e => cTgN C sc fq e
def isTupE : Expr → Bool
  | .Tuple .. => true
  | _ => false
def ownOf (scope : Scope) : List (Str × Nat) := scope.names.filterMap fun (n, k) => if k = .local ∨ k = .cell then (ixOf C.N n).map fun i => (n, i) else none
def cIfs : List Expr → Option TsM
  | [] => some tsYes
  | [c] => (P sc).T c
  | _ => none
def cComp (elt tg iter : Expr) (ifs : List Expr) (scope : Scope) : Option ExM :=
  if blkC C.N sc scope (ownOf C scope) = true ∧ notSet iter = true then
    match cSrc P sc (isTupE tg) iter, cTg C (relS scope sc) (fun x => scope.names.lookup x == some .cell) tg, cIfs P (relS scope sc) ifs, (P (relS scope sc)).E elt with
    | some src, some (ts, g), some t, some f => if (ts.all fun i => decide (i ∈ (ownOf C scope).map (·.2))) = true then some (eLc ((ownOf C scope).map (·.2)) src g t (eFz f)) else none
    | _, _, _, _ => none
  else none
def cDComp (kx vx tg iter : Expr) (ifs : List Expr) (scope : Scope) : Option ExM :=
  if blkC C.N sc scope (ownOf C scope) = true ∧ notSet iter = true then
    match cSrc P sc (isTupE tg) iter, cTg C (relS scope sc) (fun x => scope.names.lookup x == some .cell) tg, cIfs P (relS scope sc) ifs, (P (relS scope sc)).E kx, (P (relS scope sc)).E vx with
    | some src, some (ts, g), some t, some f, some f2 => if (ts.all fun i => decide (i ∈ (ownOf C scope).map (·.2))) = true then some (eDc ((ownOf C scope).map (·.2)) src g t (eFz f) (eFz f2)) else none
    | _, _, _, _, _ => none
  else none
def cCallB (x : Str) (a : Expr) : Option ExM := match b1s.lookup x, (P sc).E a with
    | some g, some f => some (eUn g f)
    | _, _ => none
def cCall1t (x : Str) (a : Expr) : Option ExM := if x = ("tuple" : Str) ∧ C.tf = true then ((P sc).E a).map (eUn tufV) else cCallB P sc x a
def cCall1 (x : Str) (a : Expr) : Option ExM := if plainE a = true ∧ glOf sc x = true then (match a with
    | .Call (.Attribute o m apos) [] [] cpos => if isItems m o apos cpos = true then (if x = ("list" : Str) then ((P sc).E o).map eLIt else if x = ("sorted" : Str) then ((P sc).E o).map eSIt else none) else none
    | .Call (.Name y _) [b] [] _ => if y = ("set" : Str) ∧ glOf sc y = true ∧ plainE b = true then (if x = ("sorted" : Str) then ((P sc).E b).map eSS else if x = ("len" : Str) then ((P sc).E b).map eLS else none)
      else cCall1t C P sc x a
    | a => cCall1t C P sc x a) else none
def cCall2 (x : Str) (a b : Expr) : Option ExM := if plainE a = true ∧ plainE b = true ∧ glOf sc x = true then
    (if x = ("isinstance" : Str) then (match b with
      | .Name n _ => if glOf sc n = true then (match tys.lookup n, (P sc).E a with
        | some T, some f => some (eUn (isiV T) f)
        | _, _ => none) else none
      | .Tuple [.Name n _, .Name m _] _ _ => if glOf sc n = true ∧ glOf sc m = true then (match tys.lookup n, tys.lookup m, (P sc).E a with
        | some T, some U, some f => some (eUn (isiV2 T U) f)
        | _, _, _ => none) else none
      | _ => none)
    else (match b2s.lookup x, (P sc).E a, (P sc).E b with
    | some g, some f, some f2 => some (eBin g f f2)
    | _, _, _ => none)) else none
def cMeth1 (o : Expr) (m : Str) (a : Expr) : Option ExM := if plainE a = true ∧ baseOk o = true then (match (P sc).E o, (P sc).E a with
    | some f, some g => if m = ("append" : Str) then some (eM1 .list (fun x d S => mAppend x [d] S) f (eFzL g)) else if m = ("get" : Str) then some (eGet1 f g) else if m = ("pop" : Str) then some (eM1 .list (fun x d S => mPopAt x [d] S) f g) else if m = ("count" : Str) then some (eM1 .list (fun x d S => mCount x [d] S) f g) else none
    | _, _ => none) else none
def cMeth2 (o : Expr) (m : Str) (a b : Expr) : Option ExM := if plainE a = true ∧ plainE b = true ∧ baseOk o = true then (match (P sc).E o, (P sc).E a, (P sc).E b with
    | some f, some g, some h => if m = ("insert" : Str) then some (eM2 .list (fun x d e S => mInsert x [d, e] S) f g (eFzL h)) else if m = ("get" : Str) then some (eGet2 f g h) else none
    | _, _, _ => none) else none
def stepE (e : Expr) : Option ExM := match e with
  | .Constant (.int i) _ _ => some (eC (.int i))
  | .Constant (.bool i) _ _ => some (eC (.bl i))
  | .Constant (.str i) _ _ => some (eC (.str i))
  | .Constant .none _ _ => some (eC .non)
  | .Name x _ => if visOf sc x = true ∧ (x == ("__debug__" : Str)) = false ∧ (x == ("__classdict__" : Str)) = false then (ixOf C.N x).map eNm else if glOf sc x = true ∧ (x == ("__debug__" : Str)) = false then (C.gl.lookup x).map (fun i => eC (.int i)) else none
  | .BinOp a op b _ => match opB op, (P sc).E a, (P sc).E b with
    | some g, some f, some f2 => some (eBin g f f2)
    | _, _, _ => none
  | .Compare a [op] [b] _ => if isSet b = false then (match (P sc).E a, (P sc).E b with
    | some f, some f2 => some (eBin (opC op) f f2)
    | _, _ => none) else none
  | .Compare a [op, op2] [b, c] _ => if isSet c = false then (match (P sc).E a, (P sc).E b, (P sc).E c with
    | some f, some f2, some f3 => some (eChain (opC op) (opC op2) f f2 f3)
    | _, _, _ => none) else none
  | .BoolOp .And es _ => cAnd P sc es
  | .BoolOp .Or es _ => cOr P sc es
  | .UnaryOp .Not a _ => ((P sc).E a).map eNot
  | .UnaryOp .USub a _ => ((P sc).E a).map (eUn (fun x S => match x with
    | .val (.int i) => .ok (.val (.int (-i))) S
    | _ => .bad))
  | .IfExp c a b _ => match (P sc).T c, (P sc).E a, (P sc).E b with
    | some t, some f, some f2 => some (eIf t f f2)
    | _, _, _ => none
  | .Tuple es _ _ => (cArgs P sc eFzL es).map (if C.tf = true then eTuf else eTup)
  | .List es _ => (cArgs P sc eFzL es).map eLst
  | .Dict [] [] _ => some eDnK
  | .Dict (k :: ks) vs _ => if ks.length + 1 = vs.length ∧ ks.length < 15 then (cPairs P sc (k :: ks) vs).map eDisp else none
  | .Subscript a (.Slice none none (some (.UnaryOp .USub (.Constant (.int 1) _ _) _)) _) _ => ((P sc).E a).map (eUn revV)
  | .Subscript a (.Slice lo hi none _) _ => match (P sc).E a, cPart P sc lo, cPart P sc hi with
    | some f, some f2, some f3 => some (eSl f f2 f3)
    | _, _, _ => none
  | .Subscript a b _ => if plainE b = true then (match (P sc).E a, (P sc).E b with
    | some f, some f2 => some (eBin ixV f f2)
    | _, _ => none) else none
  | .Call (.Name x _) (e :: es) [] _ => if x ∈ C.fns then (if glOf sc x = true ∧ (e :: es).all plainE = true ∧ (x == ("__debug__" : Str)) = false then (cArgs P sc eFz (e :: es)).map (eCall (C.F x)) else none)
    else (match es with
      | [] => cCall1 C P sc x e
      | [b] => cCall2 P sc x e b
      | _ => none)
  | .Call (.Attribute o m apos) [a] [] cpos => if (apos.endLine == cpos.line) = true then cMeth1 P sc o m a else none
  | .Call (.Attribute o m apos) [a, b] [] cpos => if (apos.endLine == cpos.line) = true then cMeth2 P sc o m a b else none
  | .ListComp elt [⟨tg, iter, ifs, 0⟩] scope _ => cComp C P sc elt tg iter ifs scope
  | .DictComp kx vx [⟨tg, iter, ifs, 0⟩] scope _ => cDComp C P sc kx vx tg iter ifs scope
  | _ => none
def stepT (e : Expr) : Option TsM := match e with
  | .Compare a [op] [b] _ => if isSet b = false then (match (P sc).E a, (P sc).E b with
    | some f, some f2 => some (asB (eBin (opC op) f f2))
    | _, _ => none) else none
  | .Compare a [op, op2] [b, c] _ => if isSet c = false then (match (P sc).E a, (P sc).E b, (P sc).E c with
    | some f, some f2, some f3 => some (asB (eChain (opC op) (opC op2) f f2 f3))
    | _, _, _ => none) else none
  | .BoolOp .And es _ => cAndT P sc es
  | .BoolOp .Or es _ => cOrT P sc es
  | .UnaryOp .Not a _ => ((P sc).T a).map tsNot
  | e => if testPlain e = true then ((P sc).E e).map tru else none
end
def cP (C : Cc) : Nat → Scope → Pk
  | 0 => fun _ => Pk.none
  | n + 1 => fun sc => ⟨stepE C (cP C n) sc, stepT (cP C n) sc⟩
end Bz

set_option Elab.async false
set_option linter.all false
set_option maxRecDepth 100000
set_option maxHeartbeats 4000000
/-! Bz, tenth part: the functions that the syntax gives are what the model does: expressions. -/
namespace Bz
open PySem PySem.Spec PyProof.Rows L2
def PkOk (C : Cc) (G : Gm) (P : Scope → Pk) : Prop := ∀ (E : XK) (sc : Scope) (fq : Str → Bool) (X : Cx), Cok C G E sc fq X →
  (∀ e f, (P sc).E e = some f → PE X e (tD G E f)) ∧ (∀ e t, (P sc).T e = some t → PT X e (tTs G E t))
section
variable {C : Cc} {G : Gm} {E : XK} {sc : Scope} {fq : Str → Bool} {X : Cx} {P : Scope → Pk}
theorem Cok.blk (c : Cok C G E sc fq X) {scope : Scope} (hk : scope.kind = .function) (s : Shared) (H : Hp) (Cl : Addr) (cl : List (Str × Addr)) (fp : List Addr) :
    Cok C G X0 (relS scope sc) (fun x => scope.names.lookup x == some .cell) (X.blk s H scope (compEnvC scope cl Cl X.env) fp) where
  hN := c.hN
  nd := c.nd
  hsc := by show relS scope X.env.scope = _; rw [c.hsc]
  kind := hk
  hK := c.hK
  hmg := c.hmg
  calm := c.calm
  fq := fun x h => h
  own := PassesOwn.never
  units := c.units
  fns := fun x hx => by
    obtain ⟨CX, k, f, fd, ps, F, hr, hm, hkp, hb, hp, hno, har⟩ := c.fns x hx
    exact ⟨CX, k, f, fd, ps, F, hr, hm, hkp, hb, fun pins σ H s e s' I q => hno _ _ _ _ _ q, hno, har⟩
  blt := c.blt
  glb := c.glb
variable (ok : PkOk C G P) (c : Cok C G E sc fq X)
include ok c
theorem okE {e : Expr} {f : ExM} (h : (P sc).E e = some f) : PE X e (tD G E f) := (ok E sc fq X c).1 e f h
theorem okT {e : Expr} {f : TsM} (h : (P sc).T e = some f) : PT X e (tTs G E f) := (ok E sc fq X c).2 e f h
omit ok c in
theorem fzBy_ok {X : Cx} {e t : Expr} {f : ExM} (h : PE X e (tD G E f)) : PE X e (tD G E (fzBy C t f)) := by
  unfold fzBy
  split
  · split
    · exact h
    · exact de_fz h
  · exact de_fzL h
  · exact de_fz h
theorem cArgs_ok {w : ExM → ExM} (hw : ∀ {e : Expr} {f : ExM}, PE X e (tD G E f) → PE X e (tD G E (w f))) : ∀ {es : List Expr} {f : ArM}, cArgs P sc w es = some f → PA X es (tAr G E f)
  | [], f, h => by cases h; exact da_nil
  | e :: es, f, h => by
    unfold cArgs at h
    split at h
    · rename_i hp
      split at h
      · rename_i f1 f2 e1 e2
        cases h
        exact da_cons (star_plain hp _ _) (hw (okE ok c e1)) (cArgs_ok hw e2)
      · cases h
    · cases h
theorem cArgsN_ok : ∀ {ts es : List Expr} {f : ArM}, cArgsN C P sc ts es = some f → PA X es (tAr G E f)
  | [], [], f, h => by cases h; exact da_nil
  | t :: ts, e :: es, f, h => by
    unfold cArgsN at h
    split at h
    · rename_i hp
      split at h
      · rename_i f1 f2 e1 e2
        cases h
        exact da_cons (star_plain hp _ _) (fzBy_ok (okE ok c e1)) (cArgsN_ok e2)
      · cases h
    · cases h
  | [], _ :: _, f, h => by cases h
  | _ :: _, [], f, h => by cases h
theorem cPairs_ok {pos : Pos} : ∀ {ks : List (Option Expr)} {vs : List Expr} {fs : List (ExM × ExM)}, cPairs P sc ks vs = some fs → PPs X pos ks vs (fs.map fun p => (tD G E p.1, tD G E p.2)) ∧ ks.all (·.isSome) = true
  | [], [], fs, h => by cases h; exact ⟨pps_nil, rfl⟩
  | some k :: ks, v :: vs, fs, h => by
    unfold cPairs at h
    split at h
    · rename_i f g r e1 e2 e3
      cases h
      obtain ⟨h1, h2⟩ := cPairs_ok e3
      exact ⟨pps_cons (de_fz (okE ok c e1)) (de_fzL (okE ok c e2)) h1, by rw [List.all_cons, h2]; rfl⟩
    · cases h
  | [], _ :: _, _, h => by cases h
  | none :: _, _, _, h => by cases h
  | some _ :: _, [], _, h => by cases h
theorem cAnd_ok {pos : Pos} : ∀ {es : List Expr} {f : ExM}, cAnd P sc es = some f → PE X (.BoolOp .And es pos) (tD G E f)
  | [], f, h => by cases h
  | [a], f, h => de_one (okE ok c h)
  | a :: b :: rest, f, h => by
    unfold cAnd at h
    split at h
    · rename_i f1 f2 e1 e2
      cases h
      exact de_and c.hK (okE ok c e1) (cAnd_ok e2)
    · cases h
theorem cOr_ok {pos : Pos} : ∀ {es : List Expr} {f : ExM}, cOr P sc es = some f → PE X (.BoolOp .Or es pos) (tD G E f)
  | [], f, h => by cases h
  | [a], f, h => de_one (okE ok c h)
  | a :: b :: rest, f, h => by
    unfold cOr at h
    split at h
    · rename_i f1 f2 e1 e2
      cases h
      exact de_or c.hK (okE ok c e1) (cOr_ok e2)
    · cases h
theorem cAndT_ok {pos : Pos} : ∀ {es : List Expr} {f : TsM}, cAndT P sc es = some f → PW X (.BoolOp .And es pos) (tTs G E f)
  | [], f, h => by cases h
  | [a], f, h => dw_and1 (okT ok c h)
  | a :: b :: rest, f, h => by
    unfold cAndT at h
    split at h
    · rename_i f1 f2 e1 e2
      cases h
      exact dw_and (okT ok c e1) (cAndT_ok e2)
    · cases h
theorem cOrT_ok {pos : Pos} : ∀ {es : List Expr} {f : TsM}, cOrT P sc es = some f → PW X (.BoolOp .Or es pos) (tTs G E f)
  | [], f, h => by cases h
  | [a], f, h => dw_or1 (okT ok c h)
  | a :: b :: rest, f, h => by
    unfold cOrT at h
    split at h
    · rename_i f1 f2 e1 e2
      cases h
      exact dw_or (okT ok c e1) (cOrT_ok e2)
    · cases h
theorem cPart_ok {o : Option Expr} {f : Env → Sto → Res (Option Int)} (h : cPart P sc o = some f) : PO X o (tPt G E f) := by
  cases o with
  | none => cases h; exact dp_none
  | some e =>
    obtain ⟨g, e1, e2⟩ := Option.map_eq_some_iff.mp (show ((P sc).E e).map ptI = some f from h)
    subst e2
    exact dp_some (okE ok c e1)
theorem cSrcB_ok {tg e : Expr} {f : SrM} (h : cSrcB P sc e = some f) : PI X tg e (tSr G E f) := by
  obtain ⟨g, e1, e2⟩ := Option.map_eq_some_iff.mp h
  subst e2
  exact di_B c.hK (de_fz (okE ok c e1))
omit ok in
theorem noblt {x : Str} (h : x ∈ bltNames) : X.mg x = none := c.blt x h
omit ok c in
theorem isItems_ok {m : Str} {o : Expr} {apos cpos : Pos} (h : isItems m o apos cpos = true) : m = ("items" : Str) ∧ baseOk o = true ∧ (apos.endLine == cpos.line) = true := by
  unfold isItems at h
  rw [Bool.and_eq_true, Bool.and_eq_true] at h
  exact ⟨of_decide_eq_true h.1.1, h.1.2, h.2⟩
theorem cSrc_ok {tg e : Expr} {f : SrM} (h : cSrc P sc (isTupE tg) e = some f) : PI X tg e (tSr G E f) := by
  unfold cSrc at h
  split at h
  · split at h
    · rename_i hc
      obtain ⟨h1, h4⟩ := hc
      obtain ⟨rfl, h2, h3⟩ := isItems_ok h1
      obtain ⟨g, e1, e2⟩ := Option.map_eq_some_iff.mp h
      subst e2
      cases tg with
      | Tuple elts kk tpos => exact di_items h2 h3 (de_fz (okE ok c e1))
      | _ => simp [isTupE] at h4
    · split at h
      · rename_i hc
        obtain ⟨rfl, h2, h3⟩ := hc
        obtain ⟨g, e1, e2⟩ := Option.map_eq_some_iff.mp h
        subst e2
        exact di_vals h2 h3 (de_fz (okE ok c e1))
      · cases h
  · split at h
    · rename_i hc
      obtain ⟨rfl, h1, h2⟩ := hc
      obtain ⟨g, e1, e2⟩ := Option.map_eq_some_iff.mp h
      subst e2
      exact di_range1 (c.gl (of_decide_eq_true h1)) (noblt c (by decide)) h2 (okE ok c e1)
    · split at h
      · rename_i hc
        obtain ⟨rfl, h1, h2, h4⟩ := hc
        obtain ⟨g, e1, e2⟩ := Option.map_eq_some_iff.mp h
        subst e2
        cases tg with
        | Tuple elts kk tpos => exact di_enum c.hK (c.gl (of_decide_eq_true h1)) (noblt c (by decide)) h2 (de_fz (okE ok c e1))
        | _ => simp [isTupE] at h4
      · exact cSrcB_ok ok c h
  · split at h
    · rename_i hc
      obtain ⟨rfl, h1, h2, h3⟩ := hc
      split at h
      · rename_i f1 f2 e1 e2
        cases h
        exact di_range2 (c.gl (of_decide_eq_true h1)) (noblt c (by decide)) h2 h3 (okE ok c e1) (okE ok c e2)
      · cases h
    · split at h
      · rename_i hc
        obtain ⟨rfl, h1, h2, h3, h4⟩ := hc
        split at h
        · rename_i f1 f2 e1 e2
          cases h
          cases tg with
          | Tuple elts kk tpos => exact di_zipB c.hK (c.gl (of_decide_eq_true h1)) (noblt c (by decide)) h2 h3 (de_fz (okE ok c e1)) (de_fz (okE ok c e2))
          | _ => simp [isTupE] at h4
        · cases h
      · exact cSrcB_ok ok c h
  · split at h
    · rename_i hc
      obtain ⟨rfl, h1, h2, h3, h4, h5⟩ := hc
      split at h
      · rename_i f1 f2 f3 e1 e2 e3
        cases h
        cases tg with
        | Tuple elts kk tpos => exact di_zip3 c.hK (c.gl (of_decide_eq_true h1)) (noblt c (by decide)) h2 h3 h4 (de_fz (okE ok c e1)) (de_fz (okE ok c e2)) (de_fz (okE ok c e3))
        | _ => simp [isTupE] at h5
      · cases h
    · exact cSrcB_ok ok c h
  · exact cSrcB_ok ok c h
omit ok
theorem cTgN_ok {e : Expr} {ts : List Nat} {f : TgM} (h : cTgN C sc fq e = some (ts, f)) : PG X e (tTg G E ts f) := by
  unfold cTgN at h
  split at h
  · split at h
    · rename_i x pos hl
      obtain ⟨i, e1, e2⟩ := Option.map_eq_some_iff.mp h
      cases e2
      obtain ⟨l1, l2⟩ := locOf_ok c hl
      exact dg_name (pg_name (by rw [c.hN]; exact c.nd) (by rw [c.hN]; exact ixOf_ok e1) l1 l2)
    · cases h
  · cases h
theorem assign_plain {e : Expr} {es : List Expr} (h : ∃ p, cTgN C sc fq e = some p) (env : PySem.Env) : assignEach (e :: es) env = (false, assign e env) :: assignEach es env := by
  obtain ⟨p, h⟩ := h
  unfold cTgN at h
  split at h
  · rfl
  · cases h
theorem cTgsN_ok : ∀ {es : List Expr} {ts : List Nat} {f : TgsM}, cTgsN C sc fq es = some (ts, f) → PGs X es (tTgs G E ts f) ∧ (assignEach es X.env).length = es.length ∧ (assignEach es X.env).findIdx? (·.1) = none
  | [], _, _, h => by cases h; exact ⟨dgs_nil, rfl, rfl⟩
  | e :: es, ts, f, h => by
    unfold cTgsN at h
    split at h
    · rename_i t1 f1 t2 f2 e1 e2
      cases h
      obtain ⟨h1, h2, h3⟩ := cTgsN_ok e2
      have ha := assign_plain c (es := es) ⟨_, e1⟩ X.env
      refine ⟨dgs_cons (by rw [ha]; rfl) (cTgN_ok c e1) h1, by rw [ha, List.length_cons, List.length_cons, h2], ?_⟩
      rw [ha, List.findIdx?_cons, h3]
      rfl
    · cases h
theorem cTg1_ok {e : Expr} {ts : List Nat} {f : TgM} (h : cTg1 C sc fq e = some (ts, f)) : PG X e (tTg G E ts f) := by
  unfold cTg1 at h
  split at h
  · obtain ⟨p, e1, e2⟩ := Option.map_eq_some_iff.mp h
    cases e2
    obtain ⟨h1, h2, h3⟩ := cTgsN_ok c e1
    exact dg_tup c.hK c.calm h2 h3 h1
  · exact cTgN_ok c h
theorem assign_plain1 {e : Expr} {es : List Expr} (h : ∃ p, cTg1 C sc fq e = some p) (env : PySem.Env) : assignEach (e :: es) env = (false, assign e env) :: assignEach es env := by
  obtain ⟨p, h⟩ := h
  unfold cTg1 at h
  split at h
  · rfl
  · exact assign_plain c ⟨_, h⟩ env
theorem cTgs1_ok : ∀ {es : List Expr} {ts : List Nat} {f : TgsM}, cTgs1 C sc fq es = some (ts, f) → PGs X es (tTgs G E ts f) ∧ (assignEach es X.env).length = es.length ∧ (assignEach es X.env).findIdx? (·.1) = none
  | [], _, _, h => by cases h; exact ⟨dgs_nil, rfl, rfl⟩
  | e :: es, ts, f, h => by
    unfold cTgs1 at h
    split at h
    · rename_i t1 f1 t2 f2 e1 e2
      cases h
      obtain ⟨h1, h2, h3⟩ := cTgs1_ok e2
      have ha := assign_plain1 c (es := es) ⟨_, e1⟩ X.env
      refine ⟨dgs_cons (by rw [ha]; rfl) (cTg1_ok c e1) h1, by rw [ha, List.length_cons, List.length_cons, h2], ?_⟩
      rw [ha, List.findIdx?_cons, h3]
      rfl
    · cases h
theorem cTg_ok {e : Expr} {ts : List Nat} {f : TgM} (h : cTg C sc fq e = some (ts, f)) : PG X e (tTg G E ts f) := by
  unfold cTg at h
  split at h
  · obtain ⟨p, e1, e2⟩ := Option.map_eq_some_iff.mp h
    cases e2
    obtain ⟨h1, h2, h3⟩ := cTgs1_ok c e1
    exact dg_tup c.hK c.calm h2 h3 h1
  · exact cTgN_ok c h
include ok
theorem cIfs_ok {es : List Expr} {t : TsM} (h : cIfs P sc es = some t) : PTs X es (tTs G E t) := by
  unfold cIfs at h
  split at h
  · cases h; exact dts_nil
  · exact pts_one (okT ok c h)
  · cases h
theorem cComp_parts {elt tg iter : Expr} {ifs : List Expr} {scope : Scope} {f : ExM} (h : cComp C P sc elt tg iter ifs scope = some f) :
    ∃ (own : List (Str × Nat)) (src : SrM) (ts : List Nat) (g : TgM) (t : TsM) (fe : ExM), f = eLc (own.map (·.2)) src g t (eFz fe) ∧ BlkOk X.N X.env.scope scope own ∧ (∀ x, foldedSetIterable iter X.env x = pure x) ∧ PI X tg iter (tSr G E src) ∧ (∀ i ∈ ts, i ∈ own.map (·.2)) ∧
      (∀ (s : Shared) (H : Hp) (Cl : Addr) (cl : List (Str × Addr)) (fp : List Addr), PG (X.blk s H scope (compEnvC scope cl Cl X.env) fp) tg (tTg G X0 ts g)) ∧
      (∀ (s : Shared) (H : Hp) (Cl : Addr) (cl : List (Str × Addr)) (fp : List Addr), PTs (X.blk s H scope (compEnvC scope cl Cl X.env) fp) ifs (tTs G X0 t)) ∧
      (∀ (s : Shared) (H : Hp) (Cl : Addr) (cl : List (Str × Addr)) (fp : List Addr), PE (X.blk s H scope (compEnvC scope cl Cl X.env) fp) elt (tD G X0 (eFz fe))) := by
  unfold cComp at h
  split at h
  · rename_i hb
    split at h
    · rename_i src ts g t fe e1 e2 e3 e4
      split at h
      · rename_i hts
        cases h
        have hB : BlkOk X.N X.env.scope scope (ownOf C scope) := by rw [c.hN, c.hsc]; exact blkOk_by hb.1
        have cb := fun s H Cl cl fp => c.blk hB.kind s H Cl cl fp
        exact ⟨ownOf C scope, src, ts, g, t, fe, rfl, hB, fun x => folded_plain hb.2 _ x, cSrc_ok ok c e1, fun i hi => of_decide_eq_true (List.all_eq_true.mp hts i hi),
          fun s H Cl cl fp => cTg_ok (cb s H Cl cl fp) e2, fun s H Cl cl fp => cIfs_ok ok (cb s H Cl cl fp) e3, fun s H Cl cl fp => de_fz (okE ok (cb s H Cl cl fp) e4)⟩
      · cases h
    · cases h
  · cases h
theorem cDComp_parts {kx vx tg iter : Expr} {ifs : List Expr} {scope : Scope} {f : ExM} (h : cDComp C P sc kx vx tg iter ifs scope = some f) :
    ∃ (own : List (Str × Nat)) (src : SrM) (ts : List Nat) (g : TgM) (t : TsM) (fk fv : ExM), f = eDc (own.map (·.2)) src g t (eFz fk) (eFz fv) ∧ BlkOk X.N X.env.scope scope own ∧ (∀ x, foldedSetIterable iter X.env x = pure x) ∧ PI X tg iter (tSr G E src) ∧ (∀ i ∈ ts, i ∈ own.map (·.2)) ∧
      (∀ (s : Shared) (H : Hp) (Cl : Addr) (cl : List (Str × Addr)) (fp : List Addr), PG (X.blk s H scope (compEnvC scope cl Cl X.env) fp) tg (tTg G X0 ts g)) ∧
      (∀ (s : Shared) (H : Hp) (Cl : Addr) (cl : List (Str × Addr)) (fp : List Addr), PTs (X.blk s H scope (compEnvC scope cl Cl X.env) fp) ifs (tTs G X0 t)) ∧
      (∀ (s : Shared) (H : Hp) (Cl : Addr) (cl : List (Str × Addr)) (fp : List Addr), PE (X.blk s H scope (compEnvC scope cl Cl X.env) fp) kx (tD G X0 (eFz fk))) ∧
      (∀ (s : Shared) (H : Hp) (Cl : Addr) (cl : List (Str × Addr)) (fp : List Addr), PE (X.blk s H scope (compEnvC scope cl Cl X.env) fp) vx (tD G X0 (eFz fv))) := by
  unfold cDComp at h
  split at h
  · rename_i hb
    split at h
    · rename_i src ts g t fk fv e1 e2 e3 e4 e5
      split at h
      · rename_i hts
        cases h
        have hB : BlkOk X.N X.env.scope scope (ownOf C scope) := by rw [c.hN, c.hsc]; exact blkOk_by hb.1
        have cb := fun s H Cl cl fp => c.blk hB.kind s H Cl cl fp
        exact ⟨ownOf C scope, src, ts, g, t, fk, fv, rfl, hB, fun x => folded_plain hb.2 _ x, cSrc_ok ok c e1, fun i hi => of_decide_eq_true (List.all_eq_true.mp hts i hi),
          fun s H Cl cl fp => cTg_ok (cb s H Cl cl fp) e2, fun s H Cl cl fp => cIfs_ok ok (cb s H Cl cl fp) e3, fun s H Cl cl fp => de_fz (okE ok (cb s H Cl cl fp) e4), fun s H Cl cl fp => de_fz (okE ok (cb s H Cl cl fp) e5)⟩
      · cases h
    · cases h
  · cases h
theorem lookup_mem {α : Type} {x : Str} {v : α} : ∀ {l : List (Str × α)}, l.lookup x = some v → (x, v) ∈ l
  | (y, u) :: r, h => by
    rw [List.lookup_cons] at h
    split at h
    · rename_i e
      cases h
      rw [show x = y from by simpa using e]
      exact List.mem_cons_self
    · exact List.mem_cons_of_mem _ (lookup_mem h)
omit ok in
theorem b1_ok {x : Str} {g : Rv → Sto → Res Rv} (h : (x, g) ∈ b1s) : x ∈ bltNames ∧ ((∃ id r, CallR X (.builtin id) r ∧ OkB1 G r g ∧ bootBuiltins x = some (.builtin id)) ∨ (∃ T r, CallR X (.type T) r ∧ OkB1 G r g ∧ bootBuiltins x = some (.type T))) ∧ x ≠ "__name__" ∧ (x == ("__debug__" : Str)) = false := by
  unfold b1s at h
  simp only [List.mem_cons, List.not_mem_nil, or_false] at h
  rcases h with h | h | h | h | h | h | h | h | h | h
  · cases h
    obtain ⟨r, h1, h2⟩ := ok_len (G := G) c.hK
    exact ⟨by decide, .inl ⟨_, r, h1, h2, boot_len⟩, by decide, by decide⟩
  · cases h
    obtain ⟨r, h1, h2⟩ := ok_abs (G := G) (X := X)
    exact ⟨by decide, .inl ⟨_, r, h1, h2, by decide +kernel⟩, by decide, by decide⟩
  · cases h
    obtain ⟨r, h1, h2⟩ := ok_sum (G := G) c.hK c.calm
    exact ⟨by decide, .inl ⟨_, r, h1, h2, by decide +kernel⟩, by decide, by decide⟩
  · cases h
    obtain ⟨r, h1, h2⟩ := ok_all (G := G) c.hK c.calm
    exact ⟨by decide, .inl ⟨_, r, h1, h2, by decide +kernel⟩, by decide, by decide⟩
  · cases h
    obtain ⟨r, h1, h2⟩ := ok_list (G := G) c.hK
    exact ⟨by decide, .inr ⟨_, r, h1, h2, by decide +kernel⟩, by decide, by decide⟩
  · cases h
    obtain ⟨r, h1, h2⟩ := ok_tuple (G := G) c.hK
    exact ⟨by decide, .inr ⟨_, r, h1, h2, by decide +kernel⟩, by decide, by decide⟩
  · cases h
    exact ⟨by decide, .inl ⟨_, _, cr_minD c.calm c.units, ok_best1 c.hK, by decide +kernel⟩, by decide, by decide⟩
  · cases h
    exact ⟨by decide, .inl ⟨_, _, cr_maxD c.calm c.units, ok_best1 c.hK, by decide +kernel⟩, by decide, by decide⟩
  · cases h
    obtain ⟨r, h1, h2⟩ := ok_sorted (G := G) c.hK c.calm c.units
    exact ⟨by decide, .inl ⟨_, r, h1, h2, by decide +kernel⟩, by decide, by decide⟩
  · cases h
    obtain ⟨r, h1, h2⟩ := ok_dict (G := G) c.hK c.calm
    exact ⟨by decide, .inr ⟨_, r, h1, h2, by decide +kernel⟩, by decide, by decide⟩
omit ok in
theorem b2_ok {x : Str} {g : Rv → Rv → Sto → Res Rv} (h : (x, g) ∈ b2s) : x ∈ bltNames ∧ (∃ id r, CallR X (.builtin id) r ∧ OkB2 G r g ∧ bootBuiltins x = some (.builtin id)) ∧ x ≠ "__name__" ∧ (x == ("__debug__" : Str)) = false := by
  unfold b2s at h
  simp only [List.mem_cons, List.not_mem_nil, or_false] at h
  rcases h with h | h
  · cases h
    obtain ⟨r, h1, h2⟩ := ok_max (G := G) c.calm
    exact ⟨by decide, ⟨_, r, h1, h2, by decide +kernel⟩, by decide, by decide⟩
  · cases h
    obtain ⟨r, h1, h2⟩ := ok_min (G := G) c.calm
    exact ⟨by decide, ⟨_, r, h1, h2, by decide +kernel⟩, by decide, by decide⟩
omit ok in
theorem tys_ok {x : Str} {T : Ty} (h : (x, T) ∈ tys) : T ≠ .none ∧ x ∈ bltNames ∧ bootBuiltins x = some (.type T.nm) ∧ x ≠ "__name__" ∧ (x == ("__debug__" : Str)) = false := by
  unfold tys at h
  simp only [List.mem_cons, List.not_mem_nil, or_false] at h
  rcases h with h | h | h | h | h | h
  all_goals (cases h; exact ⟨by decide, by decide, by decide +kernel, by decide, by decide⟩)
theorem cCallB_ok {x : Str} {a : Expr} {f : ExM} {p pos : Pos} (hp : plainE a = true) (hg : glOf sc x = true) (h : cCallB P sc x a = some f) : PE X (.Call (.Name x p) [a] [] pos) (tD G E f) := by
  unfold cCallB at h
  split at h
  · rename_i g f1 e1 e2
    cases h
    obtain ⟨h1, h2, h3, h4⟩ := b1_ok (G := G) c (lookup_mem ok c e1)
    rcases h2 with ⟨id, r, q1, q2, q3⟩ | ⟨id, r, q1, q2, q3⟩
    · exact de_b1 q1 q2 (c.gl (of_decide_eq_true hg)) (noblt c h1) q3 h3 h4 hp (okE ok c e2)
    · exact de_t1 q1 q2 (c.gl (of_decide_eq_true hg)) (noblt c h1) q3 h3 h4 hp (okE ok c e2)
  · cases h
theorem cCall1t_ok {x : Str} {a : Expr} {f : ExM} {p pos : Pos} (hp : plainE a = true) (hg : glOf sc x = true) (h : cCall1t C P sc x a = some f) : PE X (.Call (.Name x p) [a] [] pos) (tD G E f) := by
  unfold cCall1t at h
  split at h
  · rename_i hx
    obtain ⟨rfl, _⟩ := hx
    obtain ⟨g, e1, e2⟩ := Option.map_eq_some_iff.mp h
    subst e2
    obtain ⟨r, q1, q2⟩ := ok_tuf (G := G) (X := X) c.hK
    exact de_t1 q1 q2 (c.gl (of_decide_eq_true hg)) (noblt c (by decide)) (by decide +kernel) (by decide) (by decide) hp (okE ok c e1)
  · exact cCallB_ok ok c hp hg h
theorem cCall1_ok {x : Str} {a : Expr} {f : ExM} {p pos : Pos} (h : cCall1 C P sc x a = some f) : PE X (.Call (.Name x p) [a] [] pos) (tD G E f) := by
  unfold cCall1 at h
  split at h
  · rename_i hp
    split at h
    · split at h
      · rename_i hi
        obtain ⟨rfl, h2, h3⟩ := isItems_ok hi
        split at h
        · rename_i hx
          subst hx
          obtain ⟨g, e1, e2⟩ := Option.map_eq_some_iff.mp h
          subst e2
          exact de_listItems c.calm (okE ok c e1) (c.gl (of_decide_eq_true hp.2)) (noblt c (by decide)) h2 h3
        · split at h
          · rename_i hx
            subst hx
            obtain ⟨g, e1, e2⟩ := Option.map_eq_some_iff.mp h
            subst e2
            exact de_sortItems c.hK c.calm c.units (okE ok c e1) (c.gl (of_decide_eq_true hp.2)) (noblt c (by decide)) h2 h3
          · cases h
      · cases h
    · split at h
      · rename_i hy
        obtain ⟨rfl, h2, h3⟩ := hy
        split at h
        · rename_i hx
          subst hx
          obtain ⟨g, e1, e2⟩ := Option.map_eq_some_iff.mp h
          subst e2
          exact de_sortSet c.hK c.calm (okE ok c e1) (c.gl (of_decide_eq_true hp.2)) (noblt c (by decide)) (c.gl (of_decide_eq_true h2)) (noblt c (by decide)) h3
        · split at h
          · rename_i hx
            subst hx
            obtain ⟨g, e1, e2⟩ := Option.map_eq_some_iff.mp h
            subst e2
            exact de_lenSet c.hK c.calm (okE ok c e1) (c.gl (of_decide_eq_true hp.2)) (noblt c (by decide)) (c.gl (of_decide_eq_true h2)) (noblt c (by decide)) h3
          · cases h
      · exact cCall1t_ok ok c hp.1 hp.2 h
    · exact cCall1t_ok ok c hp.1 hp.2 h
  · cases h
theorem cCall2_ok {x : Str} {a b : Expr} {f : ExM} {p pos : Pos} (h : cCall2 P sc x a b = some f) : PE X (.Call (.Name x p) [a, b] [] pos) (tD G E f) := by
  unfold cCall2 at h
  split at h
  · rename_i hp
    split at h
    · rename_i hx
      subst hx
      split at h
      · rename_i n p2
        split at h
        · rename_i hg
          split at h
          · rename_i T f1 e1 e2
            cases h
            obtain ⟨h1, h2, h3, h4, h5⟩ := tys_ok c (lookup_mem ok c e1)
            exact de_isi c.hK h1 (c.gl (of_decide_eq_true hp.2.2)) (noblt c (by decide)) (c.gl (of_decide_eq_true hg)) (noblt c h2) h3 h4 h5 hp.1 (okE ok c e2)
          · cases h
        · cases h
      · rename_i n p2 m p3 k4 p4
        split at h
        · rename_i hg
          split at h
          · rename_i T U f1 e1 e2 e3
            cases h
            obtain ⟨h1, h2, h3, h4, h5⟩ := tys_ok c (lookup_mem ok c e1)
            obtain ⟨g1, g2, g3, g4, g5⟩ := tys_ok c (lookup_mem ok c e2)
            exact de_isi2 c.hK h1 g1 (c.gl (of_decide_eq_true hp.2.2)) (noblt c (by decide)) (c.gl (of_decide_eq_true hg.1)) (noblt c h2) h3 h4 h5 (c.gl (of_decide_eq_true hg.2)) (noblt c g2) g3 g4 g5 hp.1 (okE ok c e3)
          · cases h
        · cases h
      · cases h
    · split at h
      · rename_i g f1 f2 e1 e2 e3
        cases h
        obtain ⟨h1, ⟨id, r, q1, q2, q3⟩, h3, h4⟩ := b2_ok (G := G) c (lookup_mem ok c e1)
        exact de_b2 q1 q2 (c.gl (of_decide_eq_true hp.2.2)) (noblt c h1) q3 h3 h4 hp.1 hp.2.1 (okE ok c e2) (okE ok c e3)
      · cases h
  · cases h
theorem MtM.r {id : String} {r : V → List V → Hp → VK → Prop} (h : MtM X id r) : MtR X id r := fun pins s σ H x xs v us Q I rx rs q => h pins s σ H x xs v us Q I rx rs q
theorem cMeth1_ok {o a : Expr} {m : Str} {f : ExM} {apos cpos : Pos} (hl : (apos.endLine == cpos.line) = true) (h : cMeth1 P sc o m a = some f) : PE X (.Call (.Attribute o m apos) [a] [] cpos) (tD G E f) := by
  unfold cMeth1 at h
  split at h
  · rename_i hp
    split at h
    · rename_i f1 f2 e1 e2
      split at h
      · rename_i hm
        subst hm
        cases h
        exact de_lm1 c.hK PySem.F.slot_list_append PySem.F.type_list_append (MtM.r ok c mt_append) ok_append hp.2 hl hp.1 (okE ok c e1) (de_fzL (okE ok c e2))
      · split at h
        · rename_i hm
          subst hm
          cases h
          exact de_get1 c.units hp.2 hl hp.1 (okE ok c e1) (okE ok c e2)
        · split at h
          · rename_i hm
            subst hm
            cases h
            exact de_lm1 c.hK PySem.F.slot_list_pop PySem.F.type_list_pop (MtM.r ok c mt_popAt) ok_popAt hp.2 hl hp.1 (okE ok c e1) (okE ok c e2)
          · split at h
            · rename_i hm
              subst hm
              cases h
              exact de_lm1 c.hK PySem.F.slot_list_count PySem.F.type_list_count mt_cntS (ok_count c.hK) hp.2 hl hp.1 (okE ok c e1) (okE ok c e2)
            · cases h
    · cases h
  · cases h
theorem cMeth2_ok {o a b : Expr} {m : Str} {f : ExM} {apos cpos : Pos} (hl : (apos.endLine == cpos.line) = true) (h : cMeth2 P sc o m a b = some f) : PE X (.Call (.Attribute o m apos) [a, b] [] cpos) (tD G E f) := by
  unfold cMeth2 at h
  split at h
  · rename_i hp
    split at h
    · rename_i f1 f2 f3 e1 e2 e3
      split at h
      · rename_i hm
        subst hm
        cases h
        exact de_lm2 c.hK PySem.F.slot_list_insert PySem.F.type_list_insert mt_insert ok_insert hp.2.2 hl hp.1 hp.2.1 (okE ok c e1) (okE ok c e2) (de_fzL (okE ok c e3))
      · split at h
        · rename_i hm
          subst hm
          cases h
          exact de_get2 c.units hp.2.2 hl hp.1 hp.2.1 (okE ok c e1) (okE ok c e2) (okE ok c e3)
        · cases h
    · cases h
  · cases h
theorem call_ok {x : Str} {e : Expr} {es : List Expr} {f : ArM} {p pos : Pos} (hx : x ∈ C.fns) (hg : glOf sc x = true) (hp : (e :: es).all plainE = true) (hd : (x == ("__debug__" : Str)) = false) (h : cArgs P sc eFz (e :: es) = some f) : PE X (.Call (.Name x p) (e :: es) [] pos) (tD G E (eCall (C.F x) f)) := by
  obtain ⟨CX, k, fa, fd, ps, F, hr, hm, hkp, hb, hpass, hno, har⟩ := c.fns x hx
  have hp' := hp
  rw [List.all_cons, Bool.and_eq_true] at hp'
  exact PE.wk (pe_call F hr (c.gl (of_decide_eq_true hg)) hm hkp hb .nil hpass (cArgs_ok ok c de_fz h) hd (star_plain hp'.1 _ _) (star_any pos _ hp'.2)) fun σ H Q q => tCall_of har q
theorem stepE_ok {e : Expr} {f : ExM} (h : stepE C P sc e = some f) : PE X e (tD G E f) := by
  unfold stepE at h
  split at h
  · cases h; exact de_int
  · cases h; exact de_bl
  · cases h; exact de_str
  · cases h; exact de_non
  · split at h
    · rename_i hv
      obtain ⟨i, e1, e2⟩ := Option.map_eq_some_iff.mp h
      subst e2
      exact de_nm (by rw [c.hN]; exact ixOf_ok e1) (by rw [c.hsc]; exact visOf_ok hv.1) hv.2.1 hv.2.2
    · split at h
      · rename_i hg
        obtain ⟨i, e1, e2⟩ := Option.map_eq_some_iff.mp h
        subst e2
        obtain ⟨t, ht⟩ := c.glb _ _ e1
        exact de_glob (c.gl (of_decide_eq_true hg.1)) ht hg.2
      · cases h
  · split at h
    · rename_i g f1 f2 e1 e2 e3
      cases h
      obtain ⟨r, h1, h2⟩ := opB_ok (G := G) (E := E) c.hK e1
      exact de_bin h1 h2 (okE ok c e2) (okE ok c e3)
    · cases h
  · split at h
    · rename_i hs
      split at h
      · rename_i f1 f2 e1 e2
        cases h
        obtain ⟨r, h1, h2⟩ := opC_ok (G := G) (E := E) c.hK c.units _
        exact de_cmp h1 h2 (marks_plain hs) (okE ok c e1) (okE ok c e2)
      · cases h
    · cases h
  · split at h
    · rename_i hs
      split at h
      · rename_i f1 f2 f3 e1 e2 e3
        cases h
        obtain ⟨r, h1, h2⟩ := opC_ok (G := G) (E := E) c.hK c.units _
        obtain ⟨r', h1', h2'⟩ := opC_ok (G := G) (E := E) c.hK c.units _
        exact de_chain h1 h1' h2 h2' (by unfold lastMarks lastMarks; exact marks_plain hs) (okE ok c e1) (okE ok c e2) (okE ok c e3)
      · cases h
    · cases h
  · exact cAnd_ok ok c h
  · exact cOr_ok ok c h
  · obtain ⟨g, e1, e2⟩ := Option.map_eq_some_iff.mp h
    subst e2
    exact de_not c.hK (okE ok c e1)
  · obtain ⟨g, e1, e2⟩ := Option.map_eq_some_iff.mp h
    subst e2
    exact de_neg (okE ok c e1)
  · split at h
    · rename_i t f1 f2 e1 e2 e3
      cases h
      exact de_if (okT ok c e1) (okE ok c e2) (okE ok c e3)
    · cases h
  · obtain ⟨g, e1, e2⟩ := Option.map_eq_some_iff.mp h
    subst e2
    split
    · exact de_tuf (cArgs_ok ok c de_fzL e1)
    · exact de_tup (cArgs_ok ok c de_fzL e1)
  · obtain ⟨g, e1, e2⟩ := Option.map_eq_some_iff.mp h
    subst e2
    exact de_lst (cArgs_ok ok c de_fzL e1)
  · cases h; exact de_dnK
  · split at h
    · rename_i hl
      obtain ⟨g, e1, e2⟩ := Option.map_eq_some_iff.mp h
      subst e2
      obtain ⟨h1, h2⟩ := cPairs_ok ok c e1
      exact de_disp h1 h2 (by rw [List.length_cons]; exact hl.1) (by simp) (by rw [List.length_cons]; omega)
    · cases h
  · obtain ⟨f1, e1, e2⟩ := Option.map_eq_some_iff.mp h
    subst e2
    exact de_rev c.hK (okE ok c e1)
  · split at h
    · rename_i f1 f2 f3 e1 e2 e3
      cases h
      exact de_sl c.hK (okE ok c e1) (cPart_ok ok c e2) (cPart_ok ok c e3)
    · cases h
  · split at h
    · rename_i hp
      split at h
      · rename_i f1 f2 e1 e2
        cases h
        obtain ⟨r, h1, h2⟩ := ok_ix (G := G) (E := E) c.hK c.units
        exact PE.wk (pe_ix h1 (okE ok c e1) (okE ok c e2) (plain_ix hp)) fun σ H Q q => tD_bin h2 q
      · cases h
    · cases h
  · split at h
    · rename_i hx
      split at h
      · rename_i hg
        obtain ⟨g, e1, e2⟩ := Option.map_eq_some_iff.mp h
        subst e2
        exact call_ok ok c hx hg.1 hg.2.1 hg.2.2 e1
      · cases h
    · split at h
      · exact cCall1_ok ok c h
      · exact cCall2_ok ok c h
      · cases h
  · split at h
    · exact cMeth1_ok ok c (by assumption) h
    · cases h
  · split at h
    · exact cMeth2_ok ok c (by assumption) h
    · cases h
  · obtain ⟨own, src, ts, g, t, fe, rfl, hB, hf, hI, hl, hg, ht, he⟩ := cComp_parts ok c h
    exact de_lc c.calm (by rw [c.hN]; exact c.nd) hI hB hg ht he hf hl
  · obtain ⟨own, src, ts, g, t, fk, fv, rfl, hB, hf, hI, hl, hg, ht, hk, he⟩ := cDComp_parts ok c h
    exact PE.wk (pe_dc c.calm (by rw [c.hN]; exact c.nd) hI hB hg ht hk he hf) fun σ H Q q => tDc_of hl q
  · cases h
theorem stepT_ok {e : Expr} {f : TsM} (h : stepT P sc e = some f) : PT X e (tTs G E f) := by
  unfold stepT at h
  split at h
  · split at h
    · rename_i hs
      split at h
      · rename_i f1 f2 e1 e2
        cases h
        obtain ⟨r, h1, h2⟩ := opC_ok (G := G) (E := E) c.hK c.units _
        exact dt_cmp h1 h2 (marks_plain hs) (okE ok c e1) (okE ok c e2)
      · cases h
    · cases h
  · split at h
    · rename_i hs
      split at h
      · rename_i f1 f2 f3 e1 e2 e3
        cases h
        obtain ⟨r, h1, h2⟩ := opC_ok (G := G) (E := E) c.hK c.units _
        obtain ⟨r', h1', h2'⟩ := opC_ok (G := G) (E := E) c.hK c.units _
        exact dt_chain h1 h1' h2 h2' (by unfold lastMarks lastMarks; exact marks_plain hs) (okE ok c e1) (okE ok c e2) (okE ok c e3)
      · cases h
    · cases h
  · exact PW.pt (cAndT_ok ok c h)
  · exact PW.pt (cOrT_ok ok c h)
  · obtain ⟨g, e1, e2⟩ := Option.map_eq_some_iff.mp h
    subst e2
    exact dt_not (okT ok c e1)
  · split at h
    · rename_i hp
      obtain ⟨g, e1, e2⟩ := Option.map_eq_some_iff.mp h
      subst e2
      exact dt_tru c.hK (isTrue_of hp _) (okE ok c e1)
    · cases h
end
theorem cP_ok (C : Cc) (G : Gm) : ∀ n, PkOk C G (cP C n)
  | 0 => by
    intro E sc fq X c
    exact ⟨fun e f h => (nomatch (show (none : Option ExM) = some f from h)), fun e f h => (nomatch (show (none : Option TsM) = some f from h))⟩
  | n + 1 => by
    intro E sc fq X c
    exact ⟨fun e f h => stepE_ok (cP_ok C G n) c h, fun e f h => stepT_ok (cP_ok C G n) c h⟩
end Bz

set_option Elab.async false
set_option linter.all false
set_option maxRecDepth 100000
set_option maxHeartbeats 4000000
/-! Bz: behind a def's end the store is as long as ahead of it. -/
namespace Bz
open PySem PySem.Spec PyProof.Rows L2
mutual
def locsLt (k : Nat) : D → Bool
  | .tup xs => locsLts k xs
  | .tuf xs => locsLts k xs
  | .rol xs => locsLts k xs
  | .rod _ xs => locsLts k xs
  | .rot _ xs => locsLts k xs
  | .loc n => decide (n < k)
  | .non => true
  | .bl _ => true
  | .int _ => true
  | .str _ => true
  | .fn _ => true
def locsLts (k : Nat) : List D → Bool
  | [] => true
  | d :: ds => locsLt k d && locsLts k ds
end
def obLt (k : Nat) : Ob → Bool
  | .lst xs => locsLts k xs
  | .dk kvs => locsLts k (kvs.map Prod.snd)
  | .dt kvs => locsLts k (kvs.map Prod.snd)
  | .dead => true
def trOk (S S' : Sto) (d : D) : Bool := locsLt S.length d && decide (S.length ≤ S'.length) && (List.range S.length).all fun i => decide (S'[i]? = S[i]?) || (match S'[i]? with
  | some o => obLt S.length o
  | none => false)
def trunc (S : Sto) (r : Res D) : Res D := match r with
  | .ok d S' => if trOk S S' d = true then .ok d (S'.take S.length) else .ok d S'
  | r => r
def cutM (k : Nat) (μ : Mp) : Mp := fun n => if n < k then μ n else none
section
variable {G : Gm} {μ μ' : Mp} {H H' : Hp} {S S' : Sto} {k : Nat}
mutual
theorem R.cutM : ∀ {d : D} {v : V}, locsLt k d = true → R G μ H d v → R G (Bz.cutM k μ) H d v
  | _, _, _, .non => .non
  | _, _, _, .bl b => .bl b
  | _, _, _, .int i => .int i
  | _, _, _, .str x => .str x
  | _, _, h, .tup e r => .tup e (Rs.cutM (by simpa [locsLt] using h) r)
  | _, _, h, .tuf e r => .tuf e (Rs.cutM (by simpa [locsLt] using h) r)
  | _, _, h, .rol e r => .rol e (Rs.cutM (by simpa [locsLt] using h) r)
  | _, _, h, .rod e e2 r => .rod e e2 (Rs.cutM (by simpa [locsLt] using h) r)
  | _, _, h, .rot e e2 r => .rot e e2 (Rs.cutM (by simpa [locsLt] using h) r)
  | _, _, h, .loc e => .loc (by unfold Bz.cutM; rw [if_pos (by simpa [locsLt] using h)]; exact e)
  | _, _, _, .fn e k => .fn e k
theorem Rs.cutM : ∀ {ds : List D} {vs : List V}, locsLts k ds = true → Rs G μ H ds vs → Rs G (Bz.cutM k μ) H ds vs
  | _, _, _, .nil => .nil
  | _, _, h, .cons r t => by
    unfold locsLts at h
    rw [Bool.and_eq_true] at h
    exact .cons (R.cutM h.1 r) (Rs.cutM h.2 t)
end
mutual
theorem R.lts (hk : ∀ n a, μ n = some a → n < k) : ∀ {d : D} {v : V}, R G μ H d v → locsLt k d = true
  | _, _, .non => rfl
  | _, _, .bl b => rfl
  | _, _, .int i => rfl
  | _, _, .str x => rfl
  | _, _, .tup e r => by unfold locsLt; exact Rs.lts hk r
  | _, _, .tuf e r => by unfold locsLt; exact Rs.lts hk r
  | _, _, .rol e r => by unfold locsLt; exact Rs.lts hk r
  | _, _, .rod e e2 r => by unfold locsLt; exact Rs.lts hk r
  | _, _, .rot e e2 r => by unfold locsLt; exact Rs.lts hk r
  | _, _, .loc e => by unfold locsLt; exact decide_eq_true (hk _ _ e)
  | _, _, .fn e k => rfl
theorem Rs.lts (hk : ∀ n a, μ n = some a → n < k) : ∀ {ds : List D} {vs : List V}, Rs G μ H ds vs → locsLts k ds = true
  | _, _, .nil => rfl
  | _, _, .cons r t => by unfold locsLts; rw [R.lts hk r, Rs.lts hk t]; rfl
end
theorem ObR.lts {a : Addr} {o : Ob} (hk : ∀ n a, μ n = some a → n < k) (h : ObR G μ H a o) : obLt k o = true := by
  cases o with
  | lst xs => obtain ⟨vs, _, r⟩ := h; exact Rs.lts hk r
  | dk kvs => obtain ⟨vs, _, r⟩ := h; exact Rs.lts hk r.2
  | dt kvs => obtain ⟨vs, _, r⟩ := h; exact Rs.lts hk r.2
  | dead => rfl
theorem ObR.cutM {a : Addr} {o : Ob} (hk : obLt k o = true) (h : ObR G μ H a o) : ObR G (Bz.cutM k μ) H a o := by
  cases o with
  | lst xs => obtain ⟨vs, e, r⟩ := h; exact ⟨vs, e, Rs.cutM hk r⟩
  | dk kvs => obtain ⟨vs, e, r⟩ := h; exact ⟨vs, e, r.1, Rs.cutM hk r.2⟩
  | dt kvs => obtain ⟨vs, e, r⟩ := h; exact ⟨vs, e, r.1, Rs.cutM hk r.2⟩
  | dead => exact h
theorem trunc_ok {r : Res D} {Q : VK} {QE : Exn → Sto → Prop} (w : Wd G μ H S) (h : Post (trunc S r) (fun d S' => ∀ v H' μ', Le μ H μ' H' → Wd G μ' H' S' → R G μ' H' d v → Q v H') QE) :
    Post r (fun d S' => ∀ v H' μ', Le μ H μ' H' → Wd G μ' H' S' → R G μ' H' d v → Q v H') QE := by
  cases r with
  | bad => exact h
  | exc e S1 => exact h
  | ok d S1 =>
    have h : Post (if trOk S S1 d = true then .ok d (S1.take S.length) else .ok d S1) _ _ := h
    by_cases ht : trOk S S1 d = true
    · rw [if_pos ht] at h
      unfold trOk at ht
      rw [Bool.and_eq_true, Bool.and_eq_true] at ht
      obtain ⟨⟨h1, h2⟩, h3⟩ := ht
      have h2 := of_decide_eq_true h2
      intro v H' μ' l w' rr
      refine h v H' (Bz.cutM S.length μ') ⟨fun n a e => ?_, fun n a e => ?_, l.kept, l.frz, l.trk⟩ ⟨fun n hn => ?_, fun n a e => ?_, fun n m a e1 e2 => ?_, fun n a o e1 e2 => ?_⟩ (R.cutM h1 rr)
      · unfold Bz.cutM; rw [if_pos (w.lt n a e)]; exact l.mono n a e
      · unfold Bz.cutM at e
        split at e
        · exact l.new n a e
        · cases e
      · rw [List.length_take] at hn
        obtain ⟨a, e⟩ := w'.dom n (by omega)
        exact ⟨a, by unfold Bz.cutM; rw [if_pos (by omega)]; exact e⟩
      · unfold Bz.cutM at e
        split at e
        · have := w'.lt n a e
          rw [List.length_take]; omega
        · cases e
      · unfold Bz.cutM at e1 e2
        split at e1
        · split at e2
          · exact w'.inj n m a e1 e2
          · cases e2
        · cases e1
      · unfold Bz.cutM at e1
        split at e1
        · rename_i hn
          rw [List.getElem?_take_of_lt hn] at e2
          refine ObR.cutM ?_ (w'.obj n a o e1 e2)
          have h3 := List.all_eq_true.mp h3 n (List.mem_range.mpr hn)
          rw [e2, Bool.or_eq_true] at h3
          rcases h3 with h3 | h3
          · have h3 := of_decide_eq_true h3
            obtain ⟨a0, ea⟩ := w.dom n hn
            exact (w.obj n a0 o ea h3.symm).lts w.lt
          · exact h3
        · cases e1
    · rw [if_neg ht] at h
      exact h
end
end Bz

set_option Elab.async false
set_option linter.all false
set_option maxRecDepth 100000
set_option maxHeartbeats 4000000
/-! Bz, eleventh part: statements, defs, the whole program. -/
namespace Bz
open PySem PySem.Spec PyProof.Rows L2
/-! ### names for what the compiler gives -/
def negV : Rv → Sto → Res Rv := fun x S => match x with
  | .val (.int i) => .ok (.val (.int (-i))) S
  | _ => .bad
def mApp1 (x : Rv) (d : D) (S : Sto) : Res Rv := mAppend x [d] S
def mCnt1 (x : Rv) (d : D) (S : Sto) : Res Rv := mCount x [d] S
def mPop1 (x : Rv) (d : D) (S : Sto) : Res Rv := mPopAt x [d] S
def mIns2 (x : Rv) (d e : D) (S : Sto) : Res Rv := mInsert x [d, e] S
/-! ### op= -/
def iaddV : Rv → Rv → Sto → Res Rv := fun x y S => match x, y with
  | .val (.int i), .val (.int j) => .ok (.val (.int (i + j))) S
  | .val (.str i), .val (.str j) => if i.length + j.length ≤ big then .ok (.val (.str (i ++ j))) S else .bad
  | x, y => match lstOf y S with
    | some ys => chg x S fun xs n => if xs.length + ys.length ≤ big then .ok x (S.set n (.lst (xs ++ ys))) else .bad
    | none => .bad
theorem ok_iadd {G : Gm} {E : XK} {X : Cx} : ∃ r, OpR X (inplaceOp .Add) r ∧ OkOp G E r iaddV := by
  refine ⟨_, OpR.or iop_add (OpR.or iop_add_str iop_ext), ?_⟩
  intro x y S v u μ H H0 Q QE w rx ry q
  unfold iaddV at q
  split at q
  · cases rx; cases ry
    exact .inl ⟨_, _, rfl, rfl, q _ H μ Le.refl w (.int _)⟩
  · split at q
    · rename_i hz
      cases rx; cases ry
      exact .inr (.inl ⟨_, _, rfl, rfl, big_le hz, q _ H μ Le.refl w (.str _)⟩)
    · exact q.elim
  · split at q
    · rename_i ys e2
      obtain ⟨b, ws, rfl, hb, r2⟩ := lstOf_ok w ry e2
      obtain ⟨n, a, xs, vs, rfl, e, hn, rfl, ha, r1, q⟩ := chg_ok w rx q
      split at q
      · rename_i hz
        refine .inr (.inr ⟨a, b, vs, ws, rfl, rfl, ha, hb, big_le (by rw [← r1.length, ← r2.length]; exact hz), ?_⟩)
        exact q _ _ μ (Le.write hn ha) (w.write hn ha (r1.append r2)) (.loc hn)
      · exact q.elim
    · exact q.elim
def opI : Operator → Option (Rv → Rv → Sto → Res Rv)
  | .Add => some iaddV
  | .Sub => some subV
  | _ => none
theorem opI_ok {G : Gm} {E : XK} {X : Cx} {op : Operator} {g : Rv → Rv → Sto → Res Rv} (h : opI op = some g) : ∃ r, OpR X (inplaceOp op) r ∧ OkOp G E r g := by
  cases op <;> cases h
  · exact ok_iadd
  · refine ⟨rI (fun _ _ => True) fun i j => .int (i - j), ?_, ok_intI fun _ _ _ => trivial⟩
    intro pins s σ H x y v u Q I rx ry ⟨i, j, e1, e2, _, q⟩
    exact iop_sub pins s σ H x y v u Q I rx ry ⟨i, j, e1, e2, q⟩

section
variable (C : Cc) (P : Scope → Pk) (sc : Scope) (fq : Str → Bool) (Rr : Stmt → Option StM)
def cBlk : List Stmt → Option StM
  | [] => some sNil
  | st :: r => match Rr st, cBlk r with
    | some f, some g => some (sSeq f g)
    | _, _ => none
def notTL : Expr → Bool
  | .Tuple .. => false
  | .List .. => false
  | _ => true
/-- targets of any kind -/
def cTgA (t : Expr) : Option TgM := match t with
  | .Subscript o i _ => if plainE i = true then (match stepE C P sc o, stepE C P sc i with
    | some f, some g => some (gSb setL f g)
    | _, _ => none) else none
  | t => (cTg C sc fq t).map (·.2)
def swDone (scope : Scope) (x : Str) (py pos : Pos) : Bool := decide (sc.names.lookup x = some .local) && (py.line == pos.line) && !(scope.names.any fun (n, k) => n == x && (k == .local || k == .cell))
/-- what is stored -/
def cRhs (t e : Expr) : Option ExM := match t, e with
  | .Name x _, .Dict [] [] _ => if x ∈ C.tk then some eDnT else stepE C P sc e
  | _, _ => stepE C P sc e
def stepS (st : Stmt) : Option StM := match st with
  | .Return (some e) _ => (stepE C P sc e).map fun f => sRet (if C.rm = true then f else eFzL f)
  | .Return none _ => some sRetN
  | .Pass _ => some sPass
  | .Break _ => some sBreak
  | .Continue _ => some sCont
  | .Expr e _ => if isComp e = false then (stepE C P sc e).map sExpr else none
  | .If c a b _ => match stepT P sc c, cBlk Rr a, cBlk Rr b with
    | some t, some f, some g => some (sIf t f g)
    | _, _, _ => none
  | .While c b [] _ => match stepT P sc c, cBlk Rr b with
    | some t, some f => some (sWhile t f)
    | _, _ => none
  | .For tg iter b [] _ => if notSet iter = true then (match cSrc P sc (isTupE tg) iter, cTg C sc fq tg, cBlk Rr b with
    | some src, some (_, g), some f => some (sFor src g f)
    | _, _, _ => none) else none
  | .Assign [.Name x py] (.ListComp elt [⟨tg, iter, ifs, 0⟩] scope pos) _ => if locOf sc fq x = true then (match ixOf C.N x, cComp C P sc elt tg iter ifs scope with
    | some i, some f => if swDone sc scope x py pos = true ∨ sc.names.lookup x ≠ some .local then some (sAsg (if x ∈ C.mu then f else eFz f) (gNm i)) else none
    | _, _ => none) else none
  | .Assign [.Name x py] (.DictComp kx vx [⟨tg, iter, ifs, 0⟩] scope pos) _ => if locOf sc fq x = true then (match ixOf C.N x, cDComp C P sc kx vx tg iter ifs scope with
    | some i, some f => if swDone sc scope x py pos = true ∨ sc.names.lookup x ≠ some .local then some (sAsg (if x ∈ C.mu then f else eFz f) (gNm i)) else none
    | _, _ => none) else none
  | .Assign [.Tuple ts _ _] (.Tuple vs _ _) _ => match swCalc sc ts vs with
    | some (some [x, y]) => (match ts, vs with
      | [.Name x' _, .Name y' _], [a, b] => if x' = x ∧ y' = y ∧ x ≠ y ∧ sc.names.lookup x = some .local ∧ sc.names.lookup y = some .local then (match ixOf C.N x, ixOf C.N y, cArgsN C P sc ts [a, b] with
        | some i, some j, some f => some (sPar2 i j f)
        | _, _, _ => none) else none
      | _, _ => none)
    | some (some [x, y, z]) => (match ts, vs with
      | [.Name x' _, .Name y' _, .Name z' _], [a, b, c] => if x' = x ∧ y' = y ∧ z' = z ∧ x ≠ y ∧ x ≠ z ∧ y ≠ z ∧ sc.names.lookup x = some .local ∧ sc.names.lookup y = some .local ∧ sc.names.lookup z = some .local then (match ixOf C.N x, ixOf C.N y, ixOf C.N z, cArgsN C P sc ts [a, b, c] with
        | some i, some j, some l, some f => some (sPar3 i j l f)
        | _, _, _, _ => none) else none
      | _, _ => none)
    | some none => (match cArgsN C P sc ts vs, cTg C sc fq (.Tuple ts 0 ⟨0, 0, 0, 0⟩) with
      | some f, some (_, g) => some (sAsg (eTup f) g)
      | _, _ => none)
    | _ => none
  | .Assign [t] e _ => if isComp e = false ∧ (isTupE e = false ∨ notTL t = true) then (match cRhs C P sc t e, cTgA C P sc fq t with
    | some f, some g => some (sAsg (fzBy C t f) g)
    | _, _ => none) else none
  | .AugAssign (.Subscript o i _) op e _ => if plainE i = true then (match opI op, stepE C P sc o, stepE C P sc i, stepE C P sc e with
    | some g, some f1, some f2, some f3 => some (sAugD g f1 f2 f3)
    | _, _, _, _ => none) else none
  | .AugAssign (.Name x _) op e _ => if locOf sc fq x = true then (match ixOf C.N x, opI op, stepE C P sc e with
    | some i, some g, some f => some (sAug i g f)
    | _, _, _ => none) else none
  | _ => none
end
def cS (C : Cc) (P : Scope → Pk) (sc : Scope) (fq : Str → Bool) : Nat → Stmt → Option StM
  | 0 => fun _ => none
  | n + 1 => stepS C P sc fq (cS C P sc fq n)

section
variable {C : Cc} {G : Gm} {E : XK} {sc : Scope} {fq : Str → Bool} {X : Cx} {P : Scope → Pk} {Rr : Stmt → Option StM}
theorem cBlk_ok (hR : ∀ st f, Rr st = some f → PS X st (tSt G E f)) : ∀ {b : List Stmt} {f : StM}, cBlk Rr b = some f → PSs X b (tSt G E f)
  | [], f, h => by cases h; exact ds_nil
  | st :: r, f, h => by
    unfold cBlk at h
    split at h
    · rename_i f1 f2 e1 e2
      cases h
      exact ds_cons (hR _ _ e1) (cBlk_ok hR e2)
    · cases h
theorem isTupE_no {e : Expr} (h : isTupE e = false) : ¬ ∃ vs k p, e = .Tuple vs k p := fun ⟨vs, k, p, z⟩ => by subst z; cases h
theorem gTup_pos {es : List Expr} {k k' : Nat} {p p' : Pos} {ts : List Nat} {g : TgM} (h : PG X (.Tuple es k p) (tTg G E ts g)) : True := trivial
theorem stepS_ok (ok : PkOk C G P) (c : Cok C G E sc fq X) (hR : ∀ st f, Rr st = some f → PS X st (tSt G E f)) {st : Stmt} {f : StM} (h : stepS C P sc fq Rr st = some f) : PS X st (tSt G E f) := by
  have hND : X.N.Nodup := by rw [c.hN]; exact c.nd
  unfold stepS at h
  split at h
  · obtain ⟨g, e1, e2⟩ := Option.map_eq_some_iff.mp h
    subst e2
    refine ds_ret ?_
    split
    · exact stepE_ok ok c e1
    · exact de_fzL (stepE_ok ok c e1)
  · cases h; exact ds_retN
  · cases h; exact ds_pass
  · cases h; exact ds_break
  · cases h; exact ds_cont
  · split at h
    · rename_i hp
      obtain ⟨g, e1, e2⟩ := Option.map_eq_some_iff.mp h
      subst e2
      exact ds_expr (swaps_plain hp _ _ _) (stepE_ok ok c e1)
    · cases h
  · split at h
    · rename_i t f1 f2 e1 e2 e3
      cases h
      exact ds_if (stepT_ok ok c e1) (cBlk_ok hR e2) (cBlk_ok hR e3)
    · cases h
  · split at h
    · rename_i t f1 e1 e2
      cases h
      exact ds_while c.own (stepT_ok ok c e1) (cBlk_ok hR e2)
    · cases h
  · split at h
    · rename_i hp
      split at h
      · rename_i src ts g f1 e1 e2 e3
        cases h
        exact ds_for c.own c.calm (cSrc_ok ok c e1) (cTg_ok c e2) (cBlk_ok hR e3) (fun x => folded_plain hp _ x)
      · cases h
    · cases h
  · rename_i x py elt tg iter ifs scope pos spos
    split at h
    · rename_i hl
      split at h
      · rename_i i f1 e1 e2
        split at h
        · rename_i hs
          cases h
          obtain ⟨l1, l2⟩ := locOf_ok c hl
          obtain ⟨own, src, ts, g, t, fe, rfl, hB, hf, hI, hlt, hg, ht, he⟩ := cComp_parts ok c e2
          have hi : X.N[i]? = some x := by rw [c.hN]; exact ixOf_ok e1
          rcases hs with hs | hs
          · unfold swDone at hs
            simp only [Bool.and_eq_true, Bool.not_eq_true'] at hs
            have hy : X.env.scope.names.lookup x = some .local := by rw [c.hsc]; exact of_decide_eq_true hs.1.1
            have hps := ps_setLc (spos := spos) c.calm hND hi hy (sw_true (by rw [c.hsc]; exact c.kind) hy hs.1.2 hs.2) hI hB hg ht he hf
            split
            · exact ds_setLc c.calm hND hi hy (sw_true (by rw [c.hsc]; exact c.kind) hy hs.1.2 hs.2) hI hB hg ht he hf hlt
            · exact PS.wk (ps_lkA hps) fun Z σ H h => lkA_set (fun σ H Q q => tLc_of hlt q) h
          · have hsw : swapsWith (.ListComp elt [⟨tg, iter, ifs, 0⟩] scope pos) (some (.Name x py)) spos.line X.env = pure false := by
              unfold swapsWith
              have z : (X.env.kindOf x == some NameKind.local) = false := by
                unfold Env.kindOf
                rw [c.hsc]
                simpa using hs
              simp only [z, Bool.and_false, Bool.false_and]
            have hpe := de_lc (pos := pos) c.calm hND hI hB hg ht he hf hlt
            split
            · exact ds_set hND hi l1 l2 hsw hpe
            · exact ds_set hND hi l1 l2 hsw (de_fz hpe)
        · cases h
      · cases h
    · cases h
  · rename_i x py kx vx tg iter ifs scope pos spos
    split at h
    · rename_i hl
      split at h
      · rename_i i f1 e1 e2
        split at h
        · rename_i hs
          cases h
          obtain ⟨l1, l2⟩ := locOf_ok c hl
          obtain ⟨own, src, ts, g, t, fk, fv, rfl, hB, hf, hI, hlt, hg, ht, hk, he⟩ := cDComp_parts ok c e2
          have hi : X.N[i]? = some x := by rw [c.hN]; exact ixOf_ok e1
          rcases hs with hs | hs
          · unfold swDone at hs
            simp only [Bool.and_eq_true, Bool.not_eq_true'] at hs
            have hy : X.env.scope.names.lookup x = some .local := by rw [c.hsc]; exact of_decide_eq_true hs.1.1
            have hps := ps_setDc (spos := spos) c.calm hND hi hy (sw_trueD (by rw [c.hsc]; exact c.kind) hy hs.1.2 hs.2) hI hB hg ht hk he hf
            split
            · exact PS.wk hps fun Z σ H h => tDc_of hlt (set_of h)
            · exact PS.wk (ps_lkA hps) fun Z σ H h => lkA_set (fun σ H Q q => tDc_of hlt q) h
          · have hsw : swapsWith (.DictComp kx vx [⟨tg, iter, ifs, 0⟩] scope pos) (some (.Name x py)) spos.line X.env = pure false := by
              unfold swapsWith
              have z : (X.env.kindOf x == some NameKind.local) = false := by
                unfold Env.kindOf
                rw [c.hsc]
                simpa using hs
              simp only [z, Bool.and_false, Bool.false_and]
            have hpe : PE X _ (tD G E (eDc (own.map (·.2)) src g t (eFz fk) (eFz fv))) := PE.wk (pe_dc (pos := pos) c.calm hND hI hB hg ht hk he hf) fun σ H Q q => tDc_of hlt q
            split
            · exact ds_set hND hi l1 l2 hsw hpe
            · exact ds_set hND hi l1 l2 hsw (de_fz hpe)
        · cases h
      · cases h
    · cases h
  · rename_i ts kt pt vs k2 pt2 pos
    split at h
    · rename_i x y hsw
      split at h
      · rename_i x' px y' py a b
        split at h
        · rename_i hc
          obtain ⟨rfl, rfl, hne, h1, h2⟩ := hc
          split at h
          · rename_i i j f1 e1 e2 e3
            cases h
            have hi : X.N[i]? = some x' := by rw [c.hN]; exact ixOf_ok e1
            have hj : X.N[j]? = some y' := by rw [c.hN]; exact ixOf_ok e2
            have hij : i ≠ j := fun z => by subst z; rw [hi] at hj; cases hj; exact hne rfl
            exact PS.wk (ps_par c.calm hND hi hj hij (by rw [c.hsc]; exact h1) (by rw [c.hsc]; exact h2) (cArgsN_ok ok c e3) (swCalc_ok hsw _ _ _ _ c.hsc c.kind) rfl) fun Z σ H q => par2_of q
          · cases h
        · cases h
      · cases h
    · rename_i x y z hsw
      split at h
      · rename_i x' px y' py z' pz a b d
        split at h
        · rename_i hc
          obtain ⟨rfl, rfl, rfl, hne1, hne2, hne3, h1, h2, h3⟩ := hc
          split at h
          · rename_i i j l f1 e1 e2 e3 e4
            cases h
            have hi : X.N[i]? = some x' := by rw [c.hN]; exact ixOf_ok e1
            have hj : X.N[j]? = some y' := by rw [c.hN]; exact ixOf_ok e2
            have hl : X.N[l]? = some z' := by rw [c.hN]; exact ixOf_ok e3
            have hij : i ≠ j := fun z => by subst z; rw [hi] at hj; cases hj; exact hne1 rfl
            have hil : i ≠ l := fun z => by subst z; rw [hi] at hl; cases hl; exact hne2 rfl
            have hjl : j ≠ l := fun z => by subst z; rw [hj] at hl; cases hl; exact hne3 rfl
            exact PS.wk (ps_par3 c.calm hND hi hj hl hij hil hjl (by rw [c.hsc]; exact h1) (by rw [c.hsc]; exact h2) (by rw [c.hsc]; exact h3) (cArgsN_ok ok c e4) (swCalc_ok hsw _ _ _ _ c.hsc c.kind) rfl) fun Z σ H q => par3_of q
          · cases h
        · cases h
      · cases h
    · rename_i hsw
      split at h
      · rename_i f1 us g e1 e2
        cases h
        have hg : PG X (.Tuple ts kt pt) (tTg G E us g) := by
          unfold cTg at e2
          obtain ⟨p, e3, e4⟩ := Option.map_eq_some_iff.mp e2
          cases e4
          obtain ⟨h1, h2, h3⟩ := cTgs1_ok c e3
          exact dg_tup c.hK c.calm h2 h3 h1
        exact ds_asg rfl (swCalc_ok hsw _ _ _ _ c.hsc c.kind) rfl (de_tup (cArgsN_ok ok c e1)) hg
      · cases h
    · cases h
  · rename_i t e pos _ _ _
    split at h
    · rename_i hp
      split at h
      · rename_i f1 g e1 e2
        cases h
        have he : PE X e (tD G E (fzBy C t f1)) := by
          refine fzBy_ok ?_
          unfold cRhs at e1
          split at e1
          · split at e1
            · cases e1; exact de_dnT
            · exact stepE_ok ok c e1
          · exact stepE_ok ok c e1
        have hs : swapsWithSole [t] e pos.line X.env = pure false := swaps_plain hp.1 _ _ _
        have hw : swappedStores [t] e X.env = pure none := by
          rcases hp.2 with z | z
          · exact sw_other (isTupE_no z) _
          · exact sw_other2 (fun ⟨_, _, _, q⟩ => by subst q; cases z) (fun ⟨_, _, q⟩ => by subst q; cases z) _
        unfold cTgA at e2
        split at e2
        · rename_i o i p
          split at e2
          · rename_i hpi
            split at e2
            · rename_i f2 f3 e3 e4
              cases e2
              exact ds_asg hs hw rfl he (dg_sub c.units hpi (stepE_ok ok c e3) (stepE_ok ok c e4))
            · cases e2
          · cases e2
        · obtain ⟨p, e3, e4⟩ := Option.map_eq_some_iff.mp e2
          subst e4
          have h1 : (assignEach [t] X.env).map (·.2) = [assign t X.env] := by
            cases t <;> first | rfl | (simp [cTg, cTgN] at e3)
          exact ds_asg hs hw h1 he (cTg_ok c (ts := p.1) (f := p.2) e3)
      · cases h
    · cases h
  · split at h
    · rename_i hp
      split at h
      · rename_i g f1 f2 f3 e1 e2 e3 e4
        cases h
        obtain ⟨r, h1, h2⟩ := opI_ok (G := G) (E := E) (X := X) e1
        exact ds_augD c.units hp h1 h2 (stepE_ok ok c e2) (stepE_ok ok c e3) (stepE_ok ok c e4)
      · cases h
    · cases h
  · split at h
    · rename_i hl
      split at h
      · rename_i i g f1 e1 e2 e3
        cases h
        obtain ⟨l1, l2⟩ := locOf_ok c hl
        obtain ⟨r, h1, h2⟩ := opI_ok (G := G) (E := E) (X := X) e2
        exact ds_aug hND (by rw [c.hN]; exact ixOf_ok e1) l1 l2 h1 h2 (stepE_ok ok c e3)
      · cases h
    · cases h
  · cases h
theorem cS_ok (ok : PkOk C G P) (c : Cok C G E sc fq X) : ∀ n st f, cS C P sc fq n st = some f → PS X st (tSt G E f)
  | 0, st, f, h => by cases h
  | n + 1, st, f, h => stepS_ok ok c (fun st f h => cS_ok ok c n st f h) h
end

/-! ### the program -/
structure FD where
  name : Str
  st : Stmt
  N : List Str
  ps : List Str
  gl : List (Str × Int) := []
  mu : List Str := []
  tf : Bool := false
  rm : Bool := false
  tk : List Str := []
/-- a body, as a function: from the syntax with a depth of 30 -/
def cBody (C : Cc) (sc : Scope) (body : List Stmt) : Option StM := cBlk (cS C (cP C 30) sc (fun _ => true) 30) body
def finish (r : Res Fl) : Res D := bnd r fun fl S => match fl with
  | .rt d => .ok d S
  | .nx _ => .ok .non S
  | _ => .bad
def ent (N : List Str) (ds : List D) : Env := ds.map some ++ List.replicate (N.length - ds.length) none
def runB (np : Nat) (N : List Str) (f : StM) : FnM := fun ds S => if ds.length = np then trunc S (finish (f (ent N ds) S)) else .bad
def findFD (tab : List FD) (x : Str) : Option FD := tab.find? fun fd => decide (fd.name = x)
def npOf (tab : List FD) (x : Str) : Nat := match findFD tab x with
  | some fd => fd.ps.length
  | none => 0
def ccOf (tab : List FD) (F : Str → FnM) (fd : FD) : Cc := ⟨fd.N, tab.map (·.name), F, npOf tab, fd.gl, fd.mu, fd.tf, fd.rm, fd.tk⟩
def semF (tab : List FD) : Nat → Str → FnM
  | 0 => fun _ _ _ => .bad
  | n + 1 => fun x ds S => match findFD tab x with
    | some fd => (match cBody (ccOf tab (semF tab n) fd) (defScope fd.st) (defBody fd.st) with
      | some f => runB fd.ps.length fd.N f ds S
      | none => .bad)
    | none => .bad
theorem semF_len (tab : List FD) : ∀ n x ds S, ds.length ≠ npOf tab x → semF tab n x ds S = .bad
  | 0, x, ds, S, _ => rfl
  | n + 1, x, ds, S, h => by
    unfold semF
    split
    · rename_i fd e
      unfold npOf at h
      rw [e] at h
      split
      · unfold runB
        rw [if_neg h]
      · rfl
    · rfl
/-- the def fd as it stands behind the top -/
structure FdOk (K : PySem.W.Frag) (mg : Str → Option Value) (fd : FD) (f : Addr) (dat : FuncData) : Prop where
  fn : Fun K fd.name fd.name fd.st f dat
  sc : FnScope fd.N fd.ps (defScope fd.st)
  at_ : mg fd.name = some (.ref f)
  bi : Binds K dat fd.ps []
  glb : ∀ x i, fd.gl.lookup x = some i → ∃ t, mg x = some (.int i t)
theorem ent_R {G : Gm} {μ : Mp} {H : Hp} {N : List Str} {ds : List D} {vs : List V} (r : Rs G μ H ds vs) : EnvR G μ H (ent N ds) (L2.start N vs) := by
  unfold ent L2.start
  refine ⟨by simp [r.length], fun i d e => ?_⟩
  by_cases hi : i < ds.length
  · rw [List.getElem?_append_left (by simpa using hi), List.getElem?_map] at e
    obtain ⟨d', e1, e2⟩ := Option.map_eq_some_iff.mp e
    cases e2
    obtain ⟨v, ev, rv⟩ := r.get e1
    refine ⟨v, ?_, rv⟩
    rw [List.getElem?_append_left (by rw [List.length_map, ← r.length]; exact hi), List.getElem?_map, ev]
    rfl
  · rw [List.getElem?_append_right (by simpa using hi), List.getElem?_replicate] at e
    split at e <;> cases e
theorem fn_all {P : Program} {w : World} {K : PySem.W.Frag} {mg : Str → Option Value} {base : Heap} {tab : List FD} (hu : ∀ fd ∈ tab, findFD tab fd.name = some fd) (hT : ∀ fd ∈ tab, ∃ f dat, FdOk K mg fd f dat) (hb : ∀ x ∈ bltNames, mg x = none) :
    ∀ n, ∀ fd ∈ tab, ∀ f dat, FdOk K mg fd f dat → FnOk P w K mg base CX0 n f dat fd.ps (spF ⟨K, mg⟩ fd.ps.length (semF tab n fd.name)) := by
  intro n
  induction n with
  | zero =>
    intro fd hfd f dat F
    exact ⟨fun vs H Q E h => h.1, fun A outer s H args us vs Q E hr e0 hbi r h => by
      obtain ⟨_, μ, S, ds, w, rs, h⟩ := h
      exact h.elim⟩
  | succ n ih =>
    intro fd hfd f dat F
    refine F.fn.ok F.sc (fun vs H Q E h => h.1) (fun cdv A outer s H vs Q E hr h => ?_)
    obtain ⟨hl, μ, S, ds, w', rs, h⟩ := h
    unfold semF at h
    rw [hu fd hfd] at h
    have h : Post (match cBody (ccOf tab (semF tab n) fd) (defScope fd.st) (defBody fd.st) with
      | some f => runB fd.ps.length fd.N f ds S
      | none => .bad) _ _ := h
    split at h
    · rename_i g eg
      have c : Cok (ccOf tab (semF tab n) fd) ⟨K, mg⟩ X0 (defScope fd.st) (fun _ => true) (cxOf CX0 P w K mg base fd.N fd.name (defScope fd.st) f cdv A outer s H E).nox := by
        refine ⟨rfl, F.sc.nd, rfl, F.sc.kind, rfl, rfl, rfl, fun _ _ => rfl, PassesOwn.never, hr.units, fun x hx => ?_, hb, F.glb⟩
        obtain ⟨fd', h1, h2⟩ := List.mem_map.mp hx
        subst h2
        obtain ⟨f', dat', F'⟩ := hT fd' h1
        have hnp : npOf tab fd'.name = fd'.ps.length := by unfold npOf; rw [hu fd' h1]
        refine ⟨CX0, n, f', dat', fd'.ps, ?_, hr, F'.at_, F'.fn.kp, F'.bi, pass0, fun _ _ _ _ _ q => q.elim, fun ds S hd => semF_len tab n _ ds S hd⟩
        show FnOk P w K mg base CX0 n f' dat' fd'.ps (spF ⟨K, mg⟩ (npOf tab fd'.name) (semF tab n fd'.name))
        rw [hnp]
        exact ih fd' h1 f' dat' F'
      have hB := cBlk_ok (fun st f h => cS_ok (cP_ok _ _ 30) c 30 st f h) eg
      refine ⟨_, hB, μ, S, ent fd.N ds, w', ent_R rs, ?_⟩
      unfold runB at h
      split at h
      · have h := trunc_ok w' h
        unfold finish at h
        refine (post_bnd.1 h).imp (fun fl S1 h1 H1 μ1 l1 w1 => ?_) fun e S1 z c d H' μ' l w r => r.elim
        cases fl with
        | nx env1 => exact fun σ1 er1 => h1 .non H1 μ1 l1 w1 .non
        | rt d => exact fun v r => h1 v H1 μ1 l1 w1 r
        | bk env1 => exact (show False from h1).elim
        | ct env1 => exact (show False from h1).elim
      · exact h.elim
    · exact h.elim
/-- what is asked of the law, over the script -/
def spTop (K : PySem.W.Frag) : Sp := fun vs H Q _ => ∃ (a : Addr) (ns : List Int), vs = [.ref a] ∧ ns.length ≤ 63 ∧ Only H ∧ SqL K H a (ns.map V.int) ∧ ∀ H', Q (.bl true) H'
/-- the law's function gives True at every script -/
def Gives (tab : List FD) (n : Nat) : Prop := ∀ ns : List Int, ns.length ≤ 63 → ∃ S', semF tab n "law" [.rol (ns.map D.int)] [] = .ok (.bl true) S'
theorem top_ok {P : Program} {w : World} {K : PySem.W.Frag} {mg : Str → Option Value} {base : Heap} {n : Nat} {f : Addr} {dat : FuncData} {ps : List Str} {tab : List FD} {np : Nat} (hnp : np = 1) (F : FnOk P w K mg base CX0 n f dat ps (spF ⟨K, mg⟩ np (semF tab n "law"))) (hg : Gives tab n) : FnOk P w K mg base CX0 n f dat ps (spTop K) :=
  F.imp fun vs H Q E h => by
    obtain ⟨a, ns, rfl, hl, hO, hS, q⟩ := h
    subst hnp
    have hF : SqF K H a (ns.map V.int) := by
      rcases hS with (hS | hS) | hS
      · rcases hO a with z | ⟨o, xs, z⟩
        · rw [z] at hS; cases hS
        · rw [z] at hS; cases hS
      · exact .inl hS
      · exact .inr hS
    obtain ⟨S', e⟩ := hg ns hl
    refine ⟨rfl, fun _ => none, [], [.rol (ns.map D.int)], ⟨fun n h => absurd h (Nat.not_lt_zero _), (fun n a h => nomatch h), (fun n m a h => nomatch h), (fun n a o h => nomatch h)⟩, .one (.rol hF (Rs.of_ints ns)), ?_⟩
    rw [e]
    exact fun v H' μ' l w r => by
      cases r
      exact q H'
end Bz
namespace Bz
open PySem PySem.Spec PyProof.Rows L2
/-- a body run at its arguments: so many parameters, so many names -/
def runL (np nl : Nat) (f : StM) : FnM := fun ds S => if ds.length = np then trunc S (finish (f (ds.map some ++ List.replicate (nl - ds.length) none) S)) else .bad
theorem sem_of {tab : List FD} {n : Nat} {x : Str} {fd : FD} {f : StM} (h1 : findFD tab x = some fd) (h2 : cBody (ccOf tab (semF tab n) fd) (defScope fd.st) (defBody fd.st) = some f) (ds : List D) (S : Sto) :
    semF tab (n + 1) x ds S = runL fd.ps.length fd.N.length f ds S := by
  show (match findFD tab x with
    | some fd => (match cBody (ccOf tab (semF tab n) fd) (defScope fd.st) (defBody fd.st) with
      | some f => runB fd.ps.length fd.N f ds S
      | none => .bad)
    | none => .bad) = _
  rw [h1]
  show (match cBody (ccOf tab (semF tab n) fd) (defScope fd.st) (defBody fd.st) with
      | some f => runB fd.ps.length fd.N f ds S
      | none => .bad) = _
  rw [h2]
  rfl
end Bz

set_option Elab.async false
set_option linter.all false
set_option maxRecDepth 100000
set_option maxHeartbeats 2000000
/-! Bz, what the top has written. -/
namespace Bz
open PySem PySem.Spec PyProof.Rows L2
theorem fd_mk {K : PySem.W.Frag} {h : Heap} {mg : Str → Option Value} {f : Addr} {fd : FD} {od an : Option Addr} {sl : Array (Option Value)} {oc kV dc pm cd ct : Value} (X : K.In h) (G : h.Ns mainGlobals mg)
    (a : PySem.W.nsIn K mainGlobals fd.name = some (some (.ref f))) (l : K.lookup f = some ⟨oc, od, .func (PySem.W.fnOf fd.name fd.name (defArgs fd.st) (defBody fd.st) (defScope fd.st) .none kV dc pm an cd ct), sl⟩) (c : PySem.W.codeIn K cd fd.name = true) (k : PySem.W.keepIn K (.ref f) = true)
    (S : FnScope fd.N fd.ps (defScope fd.st))
    (hb : ∀ (kV doc pm : Value) (an : Option Addr) (cdv ct : Value) (us : List Value), us.length = fd.ps.length → bindArgs (PySem.W.fnOf fd.name fd.name (defArgs fd.st) (defBody fd.st) (defScope fd.st) .none kV doc pm an cdv ct) ⟨us, []⟩ = pure (fd.ps.zip us))
    (hg : ∀ x i, fd.gl.lookup x = some i → ∃ t, mg x = some (.int i t)) :
    FdOk K mg fd f (PySem.W.fnOf fd.name fd.name (defArgs fd.st) (defBody fd.st) (defScope fd.st) .none kV dc pm an cd ct) :=
  have F := fun_mk l c k
  ⟨F, S, PySem.W.mg_of X G a, F.binds hb, hg⟩
theorem gl_nil {mg : Str → Option Value} : ∀ x i, ([] : List (Str × Int)).lookup x = some i → ∃ t, mg x = some (.int i t) := fun _ _ h => nomatch h
theorem gl_cons {K : PySem.W.Frag} {h : Heap} {mg : Str → Option Value} {n : Str} {v : Int} {t : Tok} {r : List (Str × Int)} (X : K.In h) (G : h.Ns mainGlobals mg) (a : PySem.W.nsIn K mainGlobals n = some (some (.int v t)))
    (hr : ∀ x i, r.lookup x = some i → ∃ t, mg x = some (.int i t)) : ∀ x i, ((n, v) :: r).lookup x = some i → ∃ t, mg x = some (.int i t) := fun x i q => by
  rw [List.lookup_cons] at q
  split at q
  · rename_i e
    cases q
    rw [eq_of_beq e]
    exact ⟨t, PySem.W.mg_of X G a⟩
  · exact hr x i q
theorem blt_mk {K : PySem.W.Frag} {h : Heap} {mg : Str → Option Value} (X : K.In h) (G : h.Ns mainGlobals mg)
    (z1 : PySem.W.nsIn K mainGlobals "len" = some none) (z2 : PySem.W.nsIn K mainGlobals "abs" = some none) (z3 : PySem.W.nsIn K mainGlobals "max" = some none) (z4 : PySem.W.nsIn K mainGlobals "min" = some none) (z5 : PySem.W.nsIn K mainGlobals "sum" = some none) (z6 : PySem.W.nsIn K mainGlobals "all" = some none) (z7 : PySem.W.nsIn K mainGlobals "list" = some none) (z8 : PySem.W.nsIn K mainGlobals "tuple" = some none) (z9 : PySem.W.nsIn K mainGlobals "isinstance" = some none) (z10 : PySem.W.nsIn K mainGlobals "int" = some none) (z11 : PySem.W.nsIn K mainGlobals "bool" = some none) (z12 : PySem.W.nsIn K mainGlobals "str" = some none) (z13 : PySem.W.nsIn K mainGlobals "dict" = some none) (z14 : PySem.W.nsIn K mainGlobals "range" = some none) (z15 : PySem.W.nsIn K mainGlobals "zip" = some none) (z16 : PySem.W.nsIn K mainGlobals "sorted" = some none) (z17 : PySem.W.nsIn K mainGlobals "set" = some none) (z18 : PySem.W.nsIn K mainGlobals "enumerate" = some none) :
    ∀ x ∈ bltNames, mg x = none := by
  intro x hx
  refine PySem.W.mg_none_of X G ?_
  unfold bltNames at hx
  simp only [List.mem_cons, List.not_mem_nil, or_false] at hx
  rcases hx with rfl | rfl | rfl | rfl | rfl | rfl | rfl | rfl | rfl | rfl | rfl | rfl | rfl | rfl | rfl | rfl | rfl | rfl <;> assumption
end Bz

set_option Elab.async false
set_option linter.all false
set_option maxRecDepth 100000
set_option maxHeartbeats 2000000
/-! Bz, twelfth part: what a run ends with (W), rule by rule. -/
namespace Bz
open PySem PySem.Spec PyProof.Rows L2
/-- it ends well, so -/
def W {α : Type} (r : Res α) (Q : α → Sto → Prop) : Prop := ∃ a S, r = .ok a S ∧ Q a S
section
variable {α β : Type} {S S1 : Sto} {env : Env} {Q : Rv → Sto → Prop} {fa fb fc : ExM}
theorem W.ok {a : α} {Q : α → Sto → Prop} (h : Q a S) : W (.ok a S) Q := ⟨a, S, rfl, h⟩
theorem W.bnd {r : Res α} {f : α → Sto → Res β} {Q : β → Sto → Prop} (h : W r fun a S => W (f a S) Q) : W (bnd r f) Q := by
  obtain ⟨a, S, rfl, b, S', e, q⟩ := h
  exact ⟨b, S', e, q⟩
theorem W.imp {r : Res α} {Q Q' : α → Sto → Prop} (h : W r Q) (k : ∀ a S, Q a S → Q' a S) : W r Q' := by
  obtain ⟨a, S, e, q⟩ := h
  exact ⟨a, S, e, k a S q⟩
theorem W.eq {r : Res α} {a : α} {S : Sto} {Q : α → Sto → Prop} (h : r = .ok a S) (q : Q a S) : W r Q := ⟨a, S, h, q⟩
theorem W.get {r : Res α} {Q : α → Sto → Prop} (h : W r Q) : ∃ a S, r = .ok a S ∧ Q a S := h
theorem W.noex {r : Res α} {Q : α → Sto → Prop} (h : W r Q) : W (noex r) Q := by
  obtain ⟨a, S, rfl, q⟩ := h
  exact ⟨a, S, rfl, q⟩
/-! ### how a run goes on -/
/-- by a truth -/
def BrQ (A B : Sto → Prop) : Bool → Sto → Prop := fun k S => (k = true → A S) ∧ (k = false → B S)
theorem br_b {A B : Sto → Prop} {k : Bool} (h1 : k = true → A S) (h2 : k = false → B S) : BrQ A B k S := ⟨h1, h2⟩
theorem br_d {A B : Sto → Prop} {p : Prop} [Decidable p] (h1 : p → A S) (h2 : ¬ p → B S) : BrQ A B (decide p) S := ⟨fun e => h1 (of_decide_eq_true e), fun e => h2 (of_decide_eq_false e)⟩
theorem br_t {A B : Sto → Prop} (h : A S) : BrQ A B true S := ⟨fun _ => h, fun e => nomatch e⟩
theorem br_f {A B : Sto → Prop} (h : B S) : BrQ A B false S := ⟨fun e => (nomatch e), fun _ => h⟩
theorem br_dt {A B : Sto → Prop} {p : Prop} [Decidable p] (hp : p) (h : A S) : BrQ A B (decide p) S := br_d (fun _ => h) fun q => absurd hp q
theorem br_df {A B : Sto → Prop} {p : Prop} [Decidable p] (hp : ¬ p) (h : B S) : BrQ A B (decide p) S := br_d (fun q => absurd q hp) fun _ => h
theorem br_n {A B : Sto → Prop} {k : Bool} (h : BrQ B A k S) : BrQ A B (!k) S := by
  cases k with
  | true => exact br_f (h.1 rfl)
  | false => exact br_t (h.2 rfl)
/-- a value that is a truth -/
def AsQ (Q : Bool → Sto → Prop) : Rv → Sto → Prop := fun x S1 => ∃ k, x = .val (.bl k) ∧ Q k S1
theorem as_q {Q : Bool → Sto → Prop} {k : Bool} (h : Q k S) : AsQ Q (.val (.bl k)) S := ⟨k, rfl, h⟩
/-- a value's truth -/
def TrQ (Q : Bool → Sto → Prop) : Rv → Sto → Prop := fun x S1 => ∃ k, truOf x S1 = some k ∧ Q k S1
theorem tr_q {Q : Bool → Sto → Prop} {x : Rv} {k : Bool} (e : truOf x S = some k) (h : Q k S) : TrQ Q x S := ⟨k, e, h⟩
def TrX (A B : Rv → Sto → Prop) : Rv → Sto → Prop := fun x S1 => ∃ k, truOf x S1 = some k ∧ BrQ (A x) (B x) k S1
theorem tx_q {A B : Rv → Sto → Prop} {x : Rv} {k : Bool} (e : truOf x S = some k) (h : BrQ (A x) (B x) k S) : TrX A B x S := ⟨k, e, h⟩
def DsQ (f : List D → Rv) (Q : Rv → Sto → Prop) : List D → Sto → Prop := fun ds S1 => ds.length ≤ big ∧ Q (f ds) S1
theorem dl_q {f : List D → Rv} {Q : Rv → Sto → Prop} {ds : List D} (h : ds.length ≤ big) (q : Q (f ds) S) : DsQ f Q ds S := ⟨h, q⟩
def IntQ (Q : Option Int → Sto → Prop) : Rv → Sto → Prop := fun x S1 => ∃ i, x = .val (.int i) ∧ Q (some i) S1
theorem int_q {Q : Option Int → Sto → Prop} {i : Int} (q : Q (some i) S) : IntQ Q (.val (.int i)) S := ⟨i, rfl, q⟩
def TyQ (t : Ty) (A : Rv → Sto → Prop) : Rv → Sto → Prop := fun x S1 => tyOf x S1 = some t ∧ A x S1
theorem ty_q {t : Ty} {A : Rv → Sto → Prop} {x : Rv} (h : tyOf x S = some t) (q : A x S) : TyQ t A x S := ⟨h, q⟩
theorem ty_loc {n : Nat} {xs : List D} (h : S[n]? = some (.lst xs)) : tyOf (.val (.loc n)) S = some .list := by
  unfold tyOf
  simp only [h]
def SrcQ (Q : List D × Gs → Sto → Prop) : Rv → Sto → Prop := fun x S1 => ∃ s, srcOf x S1 = some s ∧ Q s S1
theorem src_q {Q : List D × Gs → Sto → Prop} {x : Rv} {s : List D × Gs} (e : srcOf x S = some s) (q : Q s S) : SrcQ Q x S := ⟨s, e, q⟩
theorem src_loc {n : Nat} {xs : List D} (h : S[n]? = some (.lst xs)) : srcOf (.val (.loc n)) S = some (xs, [(n, .lst xs)]) := by
  unfold srcOf
  simp only [h]
theorem seq_loc {n : Nat} {xs : List D} (h : S[n]? = some (.lst xs)) : seqOf (.val (.loc n)) S = some xs := by
  unfold seqOf
  simp only [h]
theorem lrd_loc {n : Nat} {xs : List D} (h : S[n]? = some (.lst xs)) : lrdOf (.val (.loc n)) S = some xs := by
  unfold lrdOf
  simp only [h]
theorem lst_loc {n : Nat} {xs : List D} (h : S[n]? = some (.lst xs)) : lstOf (.val (.loc n)) S = some xs := by
  unfold lstOf
  simp only [h]
/-! ### expressions -/
theorem w_nm {i : Nat} {d : D} (h : env[i]? = some (some d)) (q : Q (.val d) S) : W (eNm i env S) Q := by
  unfold eNm
  rw [h]
  exact .ok q
theorem w_c {d : D} (q : Q (.val d) S) : W (eC d env S) Q := .ok q
theorem w_un {g : Rv → Sto → Res Rv} (h : W (fa env S) fun x S1 => W (g x S1) Q) : W (eUn g fa env S) Q := .bnd h
theorem w_bin {g : Rv → Rv → Sto → Res Rv} (h : W (fa env S) fun x S1 => W (fb env S1) fun y S2 => W (g x y S2) Q) : W (eBin g fa fb env S) Q := .bnd (h.imp fun _ _ q => .bnd q)
theorem w_chain {g g' : Rv → Rv → Sto → Res Rv} (h : W (fa env S) fun x S1 => W (fb env S1) fun y S2 => W (g x y S2) (AsQ (BrQ (fun S3 => W (fc env S3) fun u S4 => W (g' y u S4) Q) fun S3 => Q (.val (.bl false)) S3))) : W (eChain g g' fa fb fc env S) Q := by
  refine .bnd (h.imp fun x S1 h => .bnd (h.imp fun y S2 h => .bnd (h.imp fun z S3 h => ?_)))
  obtain ⟨k, rfl, h1, h2⟩ := h
  cases k with
  | true => exact .bnd (h1 rfl)
  | false => exact .ok (h2 rfl)
theorem w_asB {Q : Bool → Sto → Prop} (h : W (fa env S) (AsQ Q)) : W (asB fa env S) Q := by
  refine .bnd (h.imp fun x S1 h => ?_)
  obtain ⟨k, rfl, q⟩ := h
  exact .ok q
theorem w_tru {Q : Bool → Sto → Prop} (h : W (fa env S) (TrQ Q)) : W (tru fa env S) Q := by
  refine .bnd (h.imp fun x S1 h => ?_)
  obtain ⟨k, e, q⟩ := h
  show W (match truOf x S1 with
    | some b => .ok b S1
    | none => .bad) Q
  rw [e]
  exact .ok q
theorem w_tsAnd {f g : TsM} {Q : Bool → Sto → Prop} (h : W (f env S) (BrQ (fun S1 => W (g env S1) Q) fun S1 => Q false S1)) : W (tsAnd f g env S) Q := by
  refine .bnd (h.imp fun k S1 h => ?_)
  cases k with
  | true => exact h.1 rfl
  | false => exact .ok (h.2 rfl)
theorem w_tsOr {f g : TsM} {Q : Bool → Sto → Prop} (h : W (f env S) (BrQ (fun S1 => Q true S1) fun S1 => W (g env S1) Q)) : W (tsOr f g env S) Q := by
  refine .bnd (h.imp fun k S1 h => ?_)
  cases k with
  | true => exact .ok (h.1 rfl)
  | false => exact h.2 rfl
theorem w_tsNot {f : TsM} {Q : Bool → Sto → Prop} (h : W (f env S) fun k S1 => Q (!k) S1) : W (tsNot f env S) Q := .bnd (h.imp fun _ _ q => .ok q)
theorem w_tsYes {Q : Bool → Sto → Prop} (h : Q true S) : W (tsYes env S) Q := .ok h
theorem w_and (h : W (fa env S) (TrX (fun _ S1 => W (fb env S1) Q) fun x S1 => Q x S1)) : W (eAnd fa fb env S) Q := by
  refine .bnd (h.imp fun x S1 h => ?_)
  obtain ⟨k, e, h1, h2⟩ := h
  show W (match truOf x S1 with
    | some true => fb env S1
    | some false => .ok x S1
    | none => .bad) Q
  rw [e]
  cases k with
  | true => exact h1 rfl
  | false => exact .ok (h2 rfl)
theorem w_or (h : W (fa env S) (TrX (fun x S1 => Q x S1) fun _ S1 => W (fb env S1) Q)) : W (eOr fa fb env S) Q := by
  refine .bnd (h.imp fun x S1 h => ?_)
  obtain ⟨k, e, h1, h2⟩ := h
  show W (match truOf x S1 with
    | some true => .ok x S1
    | some false => fb env S1
    | none => .bad) Q
  rw [e]
  cases k with
  | true => exact .ok (h1 rfl)
  | false => exact h2 rfl
theorem w_not (h : W (fa env S) (TrQ fun k S1 => Q (.val (.bl (!k))) S1)) : W (eNot fa env S) Q := by
  refine .bnd (h.imp fun x S1 h => ?_)
  obtain ⟨k, e, q⟩ := h
  show W (match truOf x S1 with
    | some k => .ok (.val (.bl (!k))) S1
    | none => .bad) Q
  rw [e]
  exact .ok q
theorem w_eIf {t : TsM} (h : W (t env S) (BrQ (fun S1 => W (fa env S1) Q) fun S1 => W (fb env S1) Q)) : W (eIf t fa fb env S) Q := by
  refine .bnd (h.imp fun k S1 h => ?_)
  cases k with
  | true => exact h.1 rfl
  | false => exact h.2 rfl
theorem w_aNil {Q : List D → Sto → Prop} (h : Q [] S) : W (aNil env S) Q := .ok h
theorem w_stlV {d : D} {Q : D → Sto → Prop} (h : Q d S) : W (stl (.val d) S) Q := .ok h
theorem w_stlN {xs : List D} {Q : D → Sto → Prop} (h : Q (.loc S.length) (S ++ [.lst xs])) : W (stl (.new xs) S) Q := .ok h
theorem w_aCons {ga : ArM} {Q : List D → Sto → Prop} (h : W (fa env S) fun x S1 => W (stl x S1) fun d S2 => W (ga env S2) fun ds S3 => Q (d :: ds) S3) : W (aCons fa ga env S) Q :=
  .bnd (h.imp fun _ _ h => .bnd (h.imp fun _ _ h => .bnd (h.imp fun _ _ q => .ok q)))
theorem w_eTup {ga : ArM} (h : W (ga env S) (DsQ (fun ds => .val (.tup ds)) Q)) : W (eTup ga env S) Q := .bnd (h.imp fun ds S1 h => by rw [if_pos h.1]; exact .ok h.2)
theorem w_eLst {ga : ArM} (h : W (ga env S) (DsQ .new Q)) : W (eLst ga env S) Q := .bnd (h.imp fun ds S1 h => by rw [if_pos h.1]; exact .ok h.2)
theorem w_call {g : FnM} {ga : ArM} (h : W (ga env S) fun ds S1 => W (g ds S1) fun d S2 => Q (.val d) S2) : W (eCall g ga env S) Q := .bnd (h.imp fun _ _ h => .bnd (h.imp fun _ _ q => .ok q))
theorem w_eSl {p1 p2 : Env → Sto → Res (Option Int)} (h : W (fa env S) fun x S1 => W (p1 env S1) fun lo S2 => W (p2 env S2) fun hi S3 => W (slV x lo hi S3) Q) : W (eSl fa p1 p2 env S) Q := .bnd (h.imp fun _ _ h => .bnd (h.imp fun _ _ h => .bnd h))
theorem w_ptNo {Q : Option Int → Sto → Prop} (h : Q none S) : W (ptNo env S) Q := .ok h
theorem w_ptI {Q : Option Int → Sto → Prop} (h : W (fa env S) (IntQ Q)) : W (ptI fa env S) Q := by
  refine .bnd (h.imp fun x S1 h => ?_)
  obtain ⟨i, rfl, q⟩ := h
  exact .ok q
theorem w_m1 {t : Ty} {g : Rv → D → Sto → Res Rv} {fo : ExM} (h : W (fo env S) (TyQ t fun x S1 => W (fa env S1) fun y S2 => W (stl y S2) fun d S3 => W (g x d S3) Q)) : W (eM1 t g fo fa env S) Q :=
  .bnd (h.imp fun _ _ h => by rw [if_pos h.1]; exact .bnd (h.2.imp fun _ _ h => .bnd h))
theorem w_m2 {t : Ty} {g : Rv → D → D → Sto → Res Rv} {fo : ExM} (h : W (fo env S) (TyQ t fun x S1 => W (fa env S1) fun y S2 => W (stl y S2) fun d S3 => W (fb env S3) fun z S4 => W (stl z S4) fun e S5 => W (g x d e S5) Q)) : W (eM2 t g fo fa fb env S) Q :=
  .bnd (h.imp fun _ _ h => by rw [if_pos h.1]; exact .bnd (h.2.imp fun _ _ h => .bnd (h.imp fun _ _ h => .bnd (h.imp fun _ _ h => .bnd h))))
/-! ### operations -/
theorem w_addI {i j : Int} (q : Q (.val (.int (i + j))) S) : W (addV (.val (.int i)) (.val (.int j)) S) Q := .ok q
theorem w_subI {i j : Int} (q : Q (.val (.int (i - j))) S) : W (subV (.val (.int i)) (.val (.int j)) S) Q := .ok q
theorem w_mulI {i j : Int} (h : (-(2 ^ 64) < i ∧ i < 2 ^ 64) ∨ (-(2 ^ 64) < j ∧ j < 2 ^ 64)) (q : Q (.val (.int (i * j))) S) : W (mulV (.val (.int i)) (.val (.int j)) S) Q := by
  have : cMul i j = true := by
    unfold cMul
    simp only [Bool.or_eq_true, Bool.and_eq_true, decide_eq_true_eq]
    exact h
  show W (if cMul i j = true then _ else _) Q
  rw [if_pos this]
  exact .ok q
theorem w_divI {i j : Int} (h : 0 < j) (h2 : j < 2 ^ 200) (q : Q (.val (.int (i / j))) S) : W (divV (.val (.int i)) (.val (.int j)) S) Q := by
  have : cDiv i j = true := by
    unfold cDiv
    simp only [Bool.and_eq_true, decide_eq_true_eq]
    exact ⟨h, h2⟩
  show W (if cDiv i j = true then _ else _) Q
  rw [if_pos this]
  exact .ok q
theorem w_modI {i j : Int} (h : 0 < j) (q : Q (.val (.int (i % j))) S) : W (modV (.val (.int i)) (.val (.int j)) S) Q := by
  show W (if cMod i j = true then _ else _) Q
  rw [if_pos (show cMod i j = true from decide_eq_true h)]
  exact .ok q
theorem w_powI {i j : Int} (h : cPow i j = true) (q : Q (.val (.int (i ^ j.toNat))) S) : W (powV (.val (.int i)) (.val (.int j)) S) Q := by
  show W (if cPow i j = true then _ else _) Q
  rw [if_pos h]
  exact .ok q
theorem w_ltI {i j : Int} (q : Q (.val (.bl (decide (i < j)))) S) : W (ltV (.val (.int i)) (.val (.int j)) S) Q := .ok q
theorem w_leI {i j : Int} (q : Q (.val (.bl (decide (i ≤ j)))) S) : W (leV (.val (.int i)) (.val (.int j)) S) Q := .ok q
theorem w_gtI {i j : Int} (q : Q (.val (.bl (decide (j < i)))) S) : W (gtV (.val (.int i)) (.val (.int j)) S) Q := .ok q
theorem w_geI {i j : Int} (q : Q (.val (.bl (decide (j ≤ i)))) S) : W (geV (.val (.int i)) (.val (.int j)) S) Q := .ok q
theorem w_eq {x y : Rv} {b : Bool} (h : eqOf x y S = some b) (q : Q (.val (.bl b)) S) : W (eqV' x y S) Q := by
  unfold eqV'
  rw [h]
  exact .ok q
theorem w_ne {x y : Rv} {b : Bool} (h : eqOf x y S = some b) (q : Q (.val (.bl (!b))) S) : W (neV' x y S) Q := by
  unfold neV'
  rw [h]
  exact .ok q
theorem w_eqI {i j : Int} (q : Q (.val (.bl (decide (i = j)))) S) : W (eqV' (.val (.int i)) (.val (.int j)) S) Q := w_eq (b := i == j) rfl (by rw [show (i == j) = decide (i = j) from rfl]; exact q)
theorem w_neI {i j : Int} (q : Q (.val (.bl (!decide (i = j)))) S) : W (neV' (.val (.int i)) (.val (.int j)) S) Q := w_ne (b := i == j) rfl (by rw [show (i == j) = decide (i = j) from rfl]; exact q)
theorem w_eqS {i j : Str} (q : Q (.val (.bl (decide (i = j)))) S) : W (eqV' (.val (.str i)) (.val (.str j)) S) Q := w_eq (b := i == j) rfl (by rw [show (i == j) = decide (i = j) by rw [Bool.beq_eq_decide_eq]]; exact q)
theorem w_neS {i j : Str} (q : Q (.val (.bl (!decide (i = j)))) S) : W (neV' (.val (.str i)) (.val (.str j)) S) Q := w_ne (b := i == j) rfl (by rw [show (i == j) = decide (i = j) by rw [Bool.beq_eq_decide_eq]]; exact q)
theorem w_is {x y : Rv} {b : Bool} (h : isOf x y = some b) (q : Q (.val (.bl b)) S) : W (isV' x y S) Q := by
  unfold isV'
  rw [h]
  exact .ok q
theorem w_isnot {x y : Rv} {b : Bool} (h : isOf x y = some b) (q : Q (.val (.bl (!b))) S) : W (isNotV' x y S) Q := by
  unfold isNotV'
  rw [h]
  exact .ok q
theorem w_in {x y : Rv} {b : Bool} (h : inOf x y S = some b) (q : Q (.val (.bl b)) S) : W (inV' x y S) Q := by
  unfold inV'
  rw [h]
  exact .ok q
theorem w_notin {x y : Rv} {b : Bool} (h : inOf x y S = some b) (q : Q (.val (.bl (!b))) S) : W (notInV' x y S) Q := by
  unfold notInV'
  rw [h]
  exact .ok q
theorem w_ixT {xs : List D} {k : Int} {d : D} (h : atI xs k = some d) (q : Q (.val d) S) : W (ixV (.val (.tup xs)) (.val (.int k)) S) Q := by
  show W (match atI xs k with
    | some d => Res.ok (Rv.val d) S
    | none => .bad) Q
  rw [h]
  exact .ok q
theorem w_ixR {xs : List D} {k : Int} {d : D} (h : atI xs k = some d) (q : Q (.val d) S) : W (ixV (.val (.rol xs)) (.val (.int k)) S) Q := by
  show W (match atI xs k with
    | some d => Res.ok (Rv.val d) S
    | none => .bad) Q
  rw [h]
  exact .ok q
theorem w_ixN {xs : List D} {k : Int} {d : D} (h : atI xs k = some d) (q : Q (.val d) S) : W (ixV (.new xs) (.val (.int k)) S) Q := by
  show W (match atI xs k with
    | some d => Res.ok (Rv.val d) S
    | none => .bad) Q
  rw [h]
  exact .ok q
theorem w_ixL {n : Nat} {xs : List D} {k : Int} {d : D} (h0 : S[n]? = some (.lst xs)) (h : atI xs k = some d) (q : Q (.val d) S) : W (ixV (.val (.loc n)) (.val (.int k)) S) Q := by
  unfold ixV seqOf
  simp only [h0, h]
  exact .ok q
theorem w_len {x : Rv} {xs : List D} (hs : seqOf x S = some xs) (q : Q (.val (.int xs.length)) S) : W (lenV x S) Q := by
  have : lenV x S = .ok (.val (.int xs.length)) S := by
    unfold lenV
    cases x with
    | new ys => simp only [hs]
    | newk ys => cases hs
    | newt ys => cases hs
    | val d => cases d <;> first | (simp only [hs]; done) | (simp [seqOf] at hs)
  rw [this]
  exact .ok q
theorem w_max {i j : Int} (q : Q (.val (.int (max i j))) S) : W (maxV (.val (.int i)) (.val (.int j)) S) Q := by
  refine .eq (a := .val (.int (max i j))) (S := S) ?_ q
  show (Res.ok (Rv.val (D.int (if j > i then j else i))) S) = _
  rw [show (if j > i then j else i) = max i j by rw [Int.max_def]; split <;> split <;> omega]
theorem w_min {i j : Int} (q : Q (.val (.int (min i j))) S) : W (minV (.val (.int i)) (.val (.int j)) S) Q := by
  refine .eq (a := .val (.int (min i j))) (S := S) ?_ q
  show (Res.ok (Rv.val (D.int (if j < i then j else i))) S) = _
  rw [show (if j < i then j else i) = min i j by rw [Int.min_def]; split <;> split <;> omega]
theorem w_abs {i : Int} (q : Q (.val (.int (if i < 0 then -i else i))) S) : W (absI (.val (.int i)) S) Q := .ok q
theorem w_neg {i : Int} (q : Q (.val (.int (-i))) S) : W (negV (.val (.int i)) S) Q := .ok q
theorem w_sum {x : Rv} {ns : List Int} (h : (lrdOf x S).bind intsOf = some ns) (q : Q (.val (.int ns.sum)) S) : W (sumV x S) Q := by
  unfold sumV
  rw [h]
  exact .ok q
theorem w_all {x : Rv} {ns : List Bool} (h : (lrdOf x S).bind blsOf = some ns) (q : Q (.val (.bl (ns.all id))) S) : W (allV x S) Q := by
  unfold allV
  rw [h]
  exact .ok q
theorem w_list {x : Rv} {xs : List D} (h : seqOf x S = some xs) (q : Q (.new xs) S) : W (listV x S) Q := by
  unfold listV
  rw [h]
  exact .ok q
theorem w_tupleL {x : Rv} {xs : List D} (h : lrdOf x S = some xs) (q : Q (.val (.tup xs)) S) : W (tupleV x S) Q := by
  have : tupleV x S = .ok (.val (.tup xs)) S := by
    unfold tupleV
    cases x with
    | new ys => simp only [h]
    | newk ys => cases h
    | newt ys => cases h
    | val d => cases d <;> first | (simp only [h]; done) | (simp [lrdOf] at h)
  rw [this]
  exact .ok q
theorem w_tupleT {xs : List D} (q : Q (.val (.tup xs)) S) : W (tupleV (.val (.tup xs)) S) Q := .ok q
theorem w_isi {T t : Ty} {x : Rv} (h : tyOf x S = some t) (q : Q (.val (.bl (isi t T))) S) : W (isiV T x S) Q := by
  unfold isiV
  rw [h]
  exact .ok q
theorem w_slT {xs : List D} {lo hi : Option Int} (q : Q (.val (.tup (cutD xs lo hi))) S) : W (slV (.val (.tup xs)) lo hi S) Q := .ok q
theorem w_slL {x : Rv} {xs : List D} {lo hi : Option Int} (h : lrdOf x S = some xs) (q : Q (.new (cutD xs lo hi)) S) : W (slV x lo hi S) Q := by
  have : slV x lo hi S = .ok (.new (cutD xs lo hi)) S := by
    unfold slV
    cases x with
    | new ys => simp only [h]
    | newk ys => cases h
    | newt ys => cases h
    | val d => cases d <;> first | (simp only [h]; done) | (simp [lrdOf] at h)
  rw [this]
  exact .ok q
theorem w_append {n : Nat} {xs : List D} {d : D} (h0 : S[n]? = some (.lst xs)) (hz : xs.length < big) (q : Q (.val .non) (S.set n (.lst (xs ++ [d])))) : W (mApp1 (.val (.loc n)) d S) Q := by
  unfold mApp1 mAppend chg
  simp only [h0, if_pos hz]
  exact .ok q
theorem w_catL {x y : Rv} {xs ys : List D} (h1 : lrdOf x S = some xs) (h2 : lrdOf y S = some ys) (hz : xs.length + ys.length ≤ big) (q : Q (.new (xs ++ ys)) S) : W (addV x y S) Q := by
  have : addV x y S = .ok (.new (xs ++ ys)) S := by
    unfold addV
    cases x with
    | new z => simp only [h1, h2, if_pos hz]
    | newk z => cases h1
    | newt z => cases h1
    | val d => cases d <;> first | (simp only [h1, h2, if_pos hz]; done) | (simp [lrdOf] at h1)
  rw [this]
  exact .ok q
theorem w_catT {xs ys : List D} (hz : xs.length + ys.length ≤ big) (q : Q (.val (.tup (xs ++ ys))) S) : W (addV (.val (.tup xs)) (.val (.tup ys)) S) Q := by
  show W (if xs.length + ys.length ≤ big then _ else _) Q
  rw [if_pos hz]
  exact .ok q
end
/-! ### sources -/
section
variable {S S1 : Sto} {env : Env} {fa fb : ExM} {Q : List D × Gs → Sto → Prop}
theorem w_srV {f : ExM} (h : W (f env S) (SrcQ Q)) : W (srV f env S) Q := by
  refine .bnd (h.imp fun x S1 h => ?_)
  obtain ⟨s, e, q⟩ := h
  show W (match srcOf x S1 with
    | some s => .ok s S1
    | none => .bad) Q
  rw [e]
  exact .ok q
theorem w_srA (h : W (fa env S) (SrcQ Q)) : W (srA fa env S) Q := by
  refine .bnd (h.imp fun x S1 h => ?_)
  obtain ⟨s, e, q⟩ := h
  cases x with
  | new ys => simp only [e]; exact .ok q
  | newk ys => cases e
  | newt ys => cases e
  | val d => cases d <;> first | (simp only [e]; exact .ok q) | (simp [srcOf] at e)
theorem w_srAs {z : Str} (h : W (fa env S) fun x S1 => x = .val (.str z) ∧ Q (signs z, []) S1) : W (srA fa env S) Q := by
  refine .bnd (h.imp fun x S1 h => ?_)
  obtain ⟨rfl, q⟩ := h
  exact .ok q
theorem w_srR1 (h : W (fa env S) fun x S1 => ∃ j, x = .val (.int j) ∧ (-(2 ^ 60) ≤ j ∧ j < 2 ^ 60) ∧ Q (rngI 0 j.toNat, []) S1) : W (srR1 fa env S) Q := by
  refine .bnd (h.imp fun x S1 h => ?_)
  obtain ⟨j, rfl, hj, q⟩ := h
  show W (if -(2 ^ 60) ≤ j ∧ j < 2 ^ 60 then _ else _) Q
  rw [if_pos hj]
  exact .ok q
theorem w_srR2 (h : W (fa env S) fun x S1 => W (fb env S1) fun y S2 => ∃ i j, x = .val (.int i) ∧ y = .val (.int j) ∧ ((-(2 ^ 60) ≤ i ∧ i < 2 ^ 60) ∧ -(2 ^ 60) ≤ j ∧ j < 2 ^ 60) ∧ Q (rngI i (j - i).toNat, []) S2) : W (srR2 fa fb env S) Q := by
  refine .bnd (h.imp fun x S1 h => .bnd (h.imp fun y S2 h => ?_))
  obtain ⟨i, j, rfl, rfl, hj, q⟩ := h
  show W (if (-(2 ^ 60) ≤ i ∧ i < 2 ^ 60) ∧ -(2 ^ 60) ≤ j ∧ j < 2 ^ 60 then _ else _) Q
  rw [if_pos hj]
  exact .ok q
theorem w_srZ (h : W (fa env S) fun x S1 => W (fb env S1) fun y S2 => ∃ s t, srcOf x S2 = some s ∧ srcOf y S2 = some t ∧ isTup x = isTup y ∧ Q (zipD s.1 t.1, s.2 ++ t.2) S2) : W (srZ fa fb env S) Q := by
  refine .bnd (h.imp fun x S1 h => .bnd (h.imp fun y S2 h => ?_))
  obtain ⟨s, t, e1, e2, e3, q⟩ := h
  simp only [e1, e2, if_pos e3]
  exact .ok q
end
/-! ### statements -/
section
variable {S S1 : Sto} {env : Env} {fe fa fb : ExM} {f g : StM} {Q : Fl → Sto → Prop}
theorem w_sNil (h : Q (.nx env) S) : W (sNil env S) Q := .ok h
/-- what follows in a block -/
def SeqQ (g : StM) (Q : Fl → Sto → Prop) : Fl → Sto → Prop := fun fl S1 => match fl with
    | .nx env1 => W (g env1 S1) Q
    | fl => Q fl S1
theorem sq_nx (h : W (g env S) Q) : SeqQ g Q (.nx env) S := h
theorem sq_rt {d : D} (h : Q (.rt d) S) : SeqQ g Q (.rt d) S := h
theorem sq_bk (h : Q (.bk env) S) : SeqQ g Q (.bk env) S := h
theorem sq_ct (h : Q (.ct env) S) : SeqQ g Q (.ct env) S := h
theorem w_sSeq (h : W (f env S) (SeqQ g Q)) : W (sSeq f g env S) Q := by
  refine .bnd (h.imp fun fl S1 h => ?_)
  cases fl with
  | nx env1 => exact h
  | rt d => exact .ok h
  | bk e => exact .ok h
  | ct e => exact .ok h
theorem w_sPass (h : Q (.nx env) S) : W (sPass env S) Q := .ok h
theorem w_sBreak (h : Q (.bk env) S) : W (sBreak env S) Q := .ok h
theorem w_sCont (h : Q (.ct env) S) : W (sCont env S) Q := .ok h
theorem w_sExpr (h : W (fe env S) fun _ S1 => Q (.nx env) S1) : W (sExpr fe env S) Q := .bnd (h.imp fun _ _ q => .ok q)
theorem w_sRet (h : W (fe env S) fun x S1 => W (stl x S1) fun d S2 => Q (.rt d) S2) : W (sRet fe env S) Q := .bnd (h.imp fun _ _ h => .bnd (h.imp fun _ _ q => .ok q))
theorem w_sRetN (h : Q (.rt .non) S) : W (sRetN env S) Q := .ok h
theorem w_sIf {t : TsM} (h : W (t env S) (BrQ (fun S1 => W (f env S1) Q) fun S1 => W (g env S1) Q)) : W (sIf t f g env S) Q := by
  refine .bnd (h.imp fun k S1 h => ?_)
  cases k with
  | true => exact h.1 rfl
  | false => exact h.2 rfl
theorem w_sAsg {tg : TgM} (h : W (fe env S) fun x S1 => W (stl x S1) fun d S2 => W (tg d env S2) fun env1 S3 => Q (.nx env1) S3) : W (sAsg fe tg env S) Q := .bnd (h.imp fun _ _ h => .bnd (h.imp fun _ _ h => .bnd (h.imp fun _ _ q => .ok q)))
theorem w_gNm {i : Nat} {d : D} {Q : Env → Sto → Prop} (hi : i < env.length) (h : Q (env.set i (some d)) S) : W (gNm i d env S) Q := by
  unfold gNm
  rw [if_pos hi]
  exact .ok h
theorem w_gsNil {Q : Env → Sto → Prop} (h : Q env S) : W (gsNil [] env S) Q := .ok h
theorem w_gsCons {f : TgM} {g : TgsM} {d : D} {ds : List D} {Q : Env → Sto → Prop} (h : W (f d env S) fun env1 S1 => W (g ds env1 S1) Q) : W (gsCons f g (d :: ds) env S) Q := .bnd h
theorem w_gTp {n : Nat} {g : TgsM} {ds : List D} {Q : Env → Sto → Prop} (hn : ds.length = n) (h : W (g ds env S) Q) : W (gTp n g (.tup ds) env S) Q := by
  show W (if ds.length = n then _ else _) Q
  rw [if_pos hn]
  exact h
theorem w_gSb {st : Rv → Rv → D → Sto → Res Unit} {fo fi : ExM} {d : D} {Q : Env → Sto → Prop} (h : W (fo env S) fun o S1 => W (fi env S1) fun i S2 => W (st o i d S2) fun _ S3 => Q env S3) : W (gSb st fo fi d env S) Q := .bnd (h.imp fun _ _ h => .bnd (h.imp fun _ _ h => .bnd (h.imp fun _ _ q => .ok q)))
theorem w_setL {n : Nat} {k : Int} {j : Nat} {d : D} {xs : List D} {Q : Unit → Sto → Prop} (h0 : S[n]? = some (.lst xs)) (hj : ixN xs.length k = some j) (q : Q () (S.set n (.lst (xs.set j d)))) : W (setL (.val (.loc n)) (.val (.int k)) d S) Q := by
  unfold setL
  simp only [h0, hj]
  exact .ok q
theorem w_sPar2 {i j : Nat} {ga : ArM} (h : W (ga env S) fun ds S1 => ∃ d e, ds = [d, e] ∧ (i < env.length ∧ j < env.length) ∧ Q (.nx ((env.set i (some d)).set j (some e))) S1) : W (sPar2 i j ga env S) Q := by
  refine .bnd (h.imp fun ds S1 h => ?_)
  obtain ⟨d, e, rfl, hi, q⟩ := h
  show W (if i < env.length ∧ j < env.length then _ else _) Q
  rw [if_pos hi]
  exact .ok q
theorem w_sPar3 {i j l : Nat} {ga : ArM} (h : W (ga env S) fun ds S1 => ∃ d e f, ds = [d, e, f] ∧ (i < env.length ∧ j < env.length ∧ l < env.length) ∧ Q (.nx (((env.set i (some d)).set j (some e)).set l (some f))) S1) : W (sPar3 i j l ga env S) Q := by
  refine .bnd (h.imp fun ds S1 h => ?_)
  obtain ⟨d, e, f, rfl, hi, q⟩ := h
  show W (if i < env.length ∧ j < env.length ∧ l < env.length then _ else _) Q
  rw [if_pos hi]
  exact .ok q
theorem w_sAug {i : Nat} {op : Rv → Rv → Sto → Res Rv} {d : D} (hd : env[i]? = some (some d)) (h : W (fe env S) fun y S1 => W (op (.val d) y S1) fun z S2 => W (stl z S2) fun d2 S3 => Q (.nx (env.set i (some d2))) S3) : W (sAug i op fe env S) Q := by
  have hi : i < env.length := by
    rcases Nat.lt_or_ge i env.length with z | z
    · exact z
    · rw [List.getElem?_eq_none z] at hd; cases hd
  unfold sAug
  simp only [hd, if_pos hi]
  exact .bnd (h.imp fun _ _ h => .bnd (h.imp fun _ _ h => .bnd (h.imp fun _ _ q => .ok q)))
theorem w_iaddI {i j : Int} {Q : Rv → Sto → Prop} (q : Q (.val (.int (i + j))) S) : W (iaddV (.val (.int i)) (.val (.int j)) S) Q := .ok q
theorem w_finish {r : Res Fl} {Q : D → Sto → Prop} (h : W r fun fl S => match fl with
    | .rt d => Q d S
    | .nx _ => Q .non S
    | _ => False) : W (finish r) Q := by
  refine .bnd (h.imp fun fl S h => ?_)
  cases fl with
  | rt d => exact .ok h
  | nx e => exact .ok h
  | bk e => exact h.elim
  | ct e => exact h.elim
/-- what follows a def's body -/
def FinQ (Q : D → Sto → Prop) : Fl → Sto → Prop := fun fl S => match fl with
    | .rt d => Q d S
    | .nx _ => Q .non S
    | _ => False
theorem fq_rt {Q : D → Sto → Prop} {d : D} (h : Q d S) : FinQ Q (.rt d) S := h
theorem fq_nx {Q : D → Sto → Prop} (h : Q .non S) : FinQ Q (.nx env) S := h
theorem w_runL {np nl : Nat} {ds : List D} {Q : D → Sto → Prop} (hn : ds.length = np) (h : W (f (ds.map some ++ List.replicate (nl - ds.length) none) S) (FinQ fun d S1 => W (trunc S (.ok d S1)) Q)) : W (runL np nl f ds S) Q := by
  unfold runL
  rw [if_pos hn]
  obtain ⟨d, S1, e, q⟩ := w_finish h
  rw [e]
  exact q
/-- what follows a loop's turn -/
def TurnQ (I : Env → Sto → Prop) (Q : Fl → Sto → Prop) : Fl → Sto → Prop := fun fl S2 => match fl with
      | .nx env2 => I env2 S2
      | .ct env2 => I env2 S2
      | .bk env2 => Q (.nx env2) S2
      | .rt d => Q (.rt d) S2
theorem tq_nx {I : Env → Sto → Prop} (h : I env S) : TurnQ I Q (.nx env) S := h
theorem tq_ct {I : Env → Sto → Prop} (h : I env S) : TurnQ I Q (.ct env) S := h
theorem tq_bk {I : Env → Sto → Prop} (h : Q (.nx env) S) : TurnQ I Q (.bk env) S := h
theorem tq_rt {I : Env → Sto → Prop} {d : D} (h : Q (.rt d) S) : TurnQ I Q (.rt d) S := h
/-- a for, by what holds ahead of each turn -/
theorem w_forGo {gs : Gs} {tg : TgM} {body : StM} {items : List D} (I : Nat → Env → Sto → Prop) (h0 : I 0 env S)
    (hs : ∀ i x env S, items[i]? = some x → I i env S → gok gs S = true ∧ W (tg x env S) fun env1 S1 => W (body env1 S1) (TurnQ (I (i + 1)) Q))
    (hd : ∀ env S, I items.length env S → gok gs S = true ∧ Q (.nx env) S) : W (forGo gs tg body items env S) Q := by
  have key : ∀ (m i : Nat) (env : Env) (S : Sto), items.length - i = m → i ≤ items.length → I i env S → W (forGo gs tg body (items.drop i) env S) Q := by
    intro m
    induction m with
    | zero =>
      intro i env S hm hi hI
      have : i = items.length := by omega
      subst this
      rw [List.drop_length]
      obtain ⟨g, q⟩ := hd env S hI
      unfold forGo
      rw [if_pos g]
      exact .ok q
    | succ m ih =>
      intro i env S hm hi hI
      have hlt : i < items.length := by omega
      rw [List.drop_eq_getElem_cons hlt]
      obtain ⟨g, h⟩ := hs i items[i] env S (List.getElem?_eq_getElem hlt) hI
      unfold forGo
      rw [if_pos g]
      refine .bnd (h.imp fun env1 S1 h => .bnd (h.imp fun fl S2 h => ?_))
      cases fl with
      | nx e => exact ih (i + 1) e S2 (by omega) (by omega) h
      | ct e => exact ih (i + 1) e S2 (by omega) (by omega) h
      | bk e => exact .ok h
      | rt d => exact .ok h
  have := key items.length 0 env S (by omega) (Nat.zero_le _) h0
  rwa [List.drop_zero] at this
theorem w_sFor {src : SrM} {tg : TgM} {body : StM} (h : W (src env S) fun s S1 => W (forGo s.2 tg body s.1 env S1) Q) : W (sFor src tg body env S) Q := .bnd h
/-- a comprehension, by what holds ahead of each turn -/
theorem w_lcGo {gs : Gs} {tg : TgM} {ts : TsM} {items : List D} {env0 : Env} {Q : List D → Sto → Prop} (I : Nat → List D → Sto → Prop) (h0 : I 0 [] S)
    (hs : ∀ i x acc S, items[i]? = some x → I i acc S → gok gs S = true ∧ W (tg x env0 S) fun env1 S1 => W (ts env1 S1) (BrQ (fun S2 => W (fe env1 S2) fun y S3 => W (stl y S3) fun d S4 => I (i + 1) (acc ++ [d]) S4) fun S2 => I (i + 1) acc S2))
    (hd : ∀ acc S, I items.length acc S → gok gs S = true ∧ Q acc S) : W (lcGo gs tg ts fe env0 items S) Q := by
  have key : ∀ (m i : Nat) (acc : List D) (S : Sto), items.length - i = m → i ≤ items.length → I i acc S → W (lcGo gs tg ts fe env0 (items.drop i) S) fun ds S' => Q (acc ++ ds) S' := by
    intro m
    induction m with
    | zero =>
      intro i acc S hm hi hI
      have : i = items.length := by omega
      subst this
      rw [List.drop_length]
      obtain ⟨g, q⟩ := hd acc S hI
      unfold lcGo
      rw [if_pos g]
      exact .ok (by rw [List.append_nil]; exact q)
    | succ m ih =>
      intro i acc S hm hi hI
      have hlt : i < items.length := by omega
      rw [List.drop_eq_getElem_cons hlt]
      obtain ⟨g, h⟩ := hs i items[i] acc S (List.getElem?_eq_getElem hlt) hI
      unfold lcGo
      rw [if_pos g]
      refine .bnd (h.noex.imp fun env1 S1 h => .bnd (h.noex.imp fun k S2 h => ?_))
      cases k with
      | true =>
        rw [if_pos rfl]
        refine .bnd ((h.1 rfl).noex.imp fun y S3 h => .bnd (h.imp fun d S4 h => .bnd ((ih (i + 1) (acc ++ [d]) S4 (by omega) (by omega) h).imp fun ds S5 q => ?_)))
        rw [List.append_assoc] at q
        exact .ok q
      | false =>
        rw [if_neg Bool.false_ne_true]
        exact ih (i + 1) acc S2 (by omega) (by omega) (h.2 rfl)
  have := key items.length 0 [] S (by omega) (Nat.zero_le _) h0
  rw [List.drop_zero] at this
  exact this
theorem w_eLc {own : List Nat} {src : SrM} {tg : TgM} {ts : TsM} {Q : Rv → Sto → Prop} (h : W (src env S) fun s S1 => s.1.length < big ∧ W (lcGo s.2 tg ts fe (wipeE env own) s.1 S1) fun ds S2 => Q (.new ds) S2) : W (eLc own src tg ts fe env S) Q :=
  .bnd (h.imp fun s S1 h => by rw [if_pos h.1]; exact .bnd (h.2.imp fun ds S2 q => .ok q))
/-- a while, by what holds ahead of each turn and a measure -/
theorem w_while {t : TsM} {body : StM} (I : Nat → Env → Sto → Prop) {m : Nat} (hm : m < big) (h0 : I m env S)
    (hs : ∀ m env S, I m env S → W (t env S) (BrQ (fun S1 => W (body env S1) (TurnQ (fun env2 S2 => ∃ m', m' < m ∧ I m' env2 S2) Q)) fun S1 => Q (.nx env) S1)) : W (sWhile t body env S) Q := by
  have key : ∀ (n m : Nat) (env : Env) (S : Sto), m < n → I m env S → W (whGo t body n env S) Q := by
    intro n
    induction n with
    | zero => intro m env S h; exact absurd h (Nat.not_lt_zero _)
    | succ n ih =>
      intro m env S h hI
      unfold whGo
      refine .bnd ((hs m env S hI).imp fun k S1 h1 => ?_)
      cases k with
      | true =>
        rw [if_pos rfl]
        refine .bnd ((h1.1 rfl).imp fun fl S2 h2 => ?_)
        cases fl with
        | nx e => obtain ⟨m', hm', h3⟩ := h2; exact ih m' e S2 (by omega) h3
        | ct e => obtain ⟨m', hm', h3⟩ := h2; exact ih m' e S2 (by omega) h3
        | bk e => exact .ok h2
        | rt d => exact .ok h2
      | false =>
        rw [if_neg Bool.false_ne_true]
        exact .ok (h1.2 rfl)
  exact key big m env S hm h0
end
/-! ### behind a def -/
theorem locsLts_of {k : Nat} : ∀ {ds : List D}, (∀ d ∈ ds, locsLt k d = true) → locsLts k ds = true
  | [], _ => rfl
  | d :: ds, h => by unfold locsLts; rw [h d List.mem_cons_self, locsLts_of fun d' h' => h d' (List.mem_cons_of_mem _ h')]; rfl
theorem trunc_to {S S2 T : Sto} {d : D} (h1 : locsLt S.length d = true) (h2 : S2.length = S.length) (h3 : ∀ (i : Nat) (o : Ob), S2[i]? = some o → S[i]? = some o ∨ obLt S.length o = true) : trunc S (.ok d (S2 ++ T)) = .ok d S2 := by
  have ht : trOk S (S2 ++ T) d = true := by
    unfold trOk
    rw [Bool.and_eq_true, Bool.and_eq_true]
    refine ⟨⟨h1, decide_eq_true (by rw [List.length_append]; omega)⟩, List.all_eq_true.mpr fun i hi => ?_⟩
    have hi := List.mem_range.mp hi
    obtain ⟨o, ho⟩ : ∃ o, S2[i]? = some o := ⟨_, List.getElem?_eq_getElem (by omega)⟩
    have e : (S2 ++ T)[i]? = some o := by rw [List.getElem?_append_left (by omega)]; exact ho
    rw [e, Bool.or_eq_true]
    rcases h3 i o ho with h | h
    · exact .inl (decide_eq_true h.symm)
    · exact .inr h
  show (if trOk S (S2 ++ T) d = true then Res.ok d ((S2 ++ T).take S.length) else Res.ok d (S2 ++ T)) = _
  rw [if_pos ht, ← h2, List.take_left']
  rfl
theorem tr_pure {S T : Sto} {d : D} {Q : D → Sto → Prop} (h1 : locsLt S.length d = true) (q : Q d S) : W (trunc S (.ok d (S ++ T))) Q := by
  rw [trunc_to h1 rfl fun i o h => .inl h]
  exact .ok q
theorem tr_same {S : Sto} {d : D} {Q : D → Sto → Prop} (h1 : locsLt S.length d = true) (q : Q d S) : W (trunc S (.ok d S)) Q := by
  have := tr_pure (T := []) h1 q
  rwa [List.append_nil] at this
theorem tr_loc {S S1 : Sto} {n : Nat} {Q : D → Sto → Prop} (h1 : S.length ≤ n) (q : Q (.loc n) S1) : W (trunc S (.ok (.loc n) S1)) Q := by
  have ht : trOk S S1 (.loc n) = false := by
    unfold trOk
    have : locsLt S.length (.loc n) = false := by unfold locsLt; exact decide_eq_false (by omega)
    rw [this]
    rfl
  show W (if trOk S S1 (.loc n) = true then _ else _) Q
  rw [ht]
  exact .ok q
theorem gok_nil {S : Sto} : gok [] S = true := rfl
theorem gok_cons {S : Sto} {n : Nat} {xs : List D} {gs : Gs} (h : S[n]? = some (.lst xs)) (h2 : gok gs S = true) : gok ((n, .lst xs) :: gs) S = true := by
  unfold gok at h2 ⊢
  rw [List.all_cons, h2, Bool.and_true]
  exact decide_eq_true h
end Bz

set_option Elab.async false
set_option linter.all false
set_option maxRecDepth 100000
set_option maxHeartbeats 4000000
/-! Bz, rules for what is asked of the functions, second part. -/
namespace Bz
open PySem PySem.Spec PyProof.Rows L2
section
variable {S S1 : Sto} {env : Env} {fa fb fc fe : ExM} {Q : Rv → Sto → Prop}
/-! ### frozen -/
def FzQ (Q : Rv → Sto → Prop) : Rv → Sto → Prop := fun x S1 => Q (fzN x) S1
theorem fz_v {d : D} (q : Q (.val d) S) : FzQ Q (.val d) S := q
theorem fz_n {xs : List D} (q : Q (.val (.rol xs)) S) : FzQ Q (.new xs) S := q
theorem fz_k {kvs : List (Key × D)} (q : Q (.val (.rod (kvs.map Prod.fst) (kvs.map Prod.snd))) S) : FzQ Q (.newk kvs) S := q
theorem fz_t {kvs : List (List Key × D)} (q : Q (.val (.rot (kvs.map Prod.fst) (kvs.map Prod.snd))) S) : FzQ Q (.newt kvs) S := q
theorem w_fz (h : W (fa env S) (FzQ Q)) : W (eFz fa env S) Q := .bnd (h.imp fun x S1 q => .ok q)
def FlQ (Q : Rv → Sto → Prop) : Rv → Sto → Prop := fun x S1 => W (fzL x S1) Q
def nol : D → Bool
  | .loc _ => false
  | _ => true
theorem fl_d {d : D} (h : nol d = true) (q : Q (.val d) S) : FlQ Q (.val d) S := by
  have : fzL (.val d) S = .ok (.val d) S := by cases d <;> first | rfl | cases h
  show W (fzL (.val d) S) Q
  rw [this]
  exact .ok q
theorem fl_n {xs : List D} (q : Q (.val (.rol xs)) S) : FlQ Q (.new xs) S := .ok q
theorem fl_k {kvs : List (Key × D)} (q : Q (.val (.rod (kvs.map Prod.fst) (kvs.map Prod.snd))) S) : FlQ Q (.newk kvs) S := .ok q
theorem fl_t {kvs : List (List Key × D)} (q : Q (.val (.rot (kvs.map Prod.fst) (kvs.map Prod.snd))) S) : FlQ Q (.newt kvs) S := .ok q
theorem fl_l {n : Nat} {xs : List D} (h : S[n]? = some (.lst xs)) (q : Q (.val (.rol xs)) (S.set n .dead)) : FlQ Q (.val (.loc n)) S := by
  show W (fzL (.val (.loc n)) S) Q
  unfold fzL fzN
  simp only [h]
  exact .ok q
theorem fl_lk {n : Nat} {kvs : List (Key × D)} (h : S[n]? = some (.dk kvs)) (q : Q (.val (.rod (kvs.map Prod.fst) (kvs.map Prod.snd))) (S.set n .dead)) : FlQ Q (.val (.loc n)) S := by
  show W (fzL (.val (.loc n)) S) Q
  unfold fzL fzN
  simp only [h]
  exact .ok q
theorem w_fzL (h : W (fa env S) (FlQ Q)) : W (eFzL fa env S) Q := .bnd h
theorem w_stlK {kvs : List (Key × D)} {Q : D → Sto → Prop} (h : Q (.loc S.length) (S ++ [.dk kvs])) : W (stl (.newk kvs) S) Q := .ok h
theorem w_stlT {kvs : List (List Key × D)} {Q : D → Sto → Prop} (h : Q (.loc S.length) (S ++ [.dt kvs])) : W (stl (.newt kvs) S) Q := .ok h
theorem w_eTuf {ga : ArM} (h : W (ga env S) (DsQ (fun ds => .val (.tuf ds)) Q)) : W (eTuf ga env S) Q := .bnd (h.imp fun ds S1 h => by rw [if_pos h.1]; exact .ok h.2)
/-! ### dicts -/
theorem k_loc {n : Nat} {kvs : List (Key × D)} (h : S[n]? = some (.dk kvs)) : kOf (.val (.loc n)) S = some kvs := by
  unfold kOf
  simp only [h]
theorem w_dnK (q : Q (.newk []) S) : W (eDnK env S) Q := .ok q
theorem w_dnT (q : Q (.newt []) S) : W (eDnT env S) Q := .ok q
theorem w_dict {x : Rv} {kvs : List (Key × D)} (h : kOf x S = some kvs) (q : Q (.newk kvs) S) : W (dictV x S) Q := by
  unfold dictV
  rw [h]
  exact .ok q
theorem w_dictT {xs : List D} {kvs : List (Key × D)} (h : pairsOf xs = some kvs) (q : Q (.newk (mergeA [] kvs)) S) : W (dictV (.val (.tuf xs)) S) Q := by
  show W (match pairsOf xs with
    | some kvs => .ok (.newk (mergeA [] kvs)) S
    | none => .bad) Q
  rw [h]
  exact .ok q
theorem w_dictL {x : Rv} {xs : List D} {kvs : List (Key × D)} (h0 : kOf x S = none) (h1 : lrdOf x S = some xs) (h : pairsOf xs = some kvs) (q : Q (.newk (mergeA [] kvs)) S) : W (dictV x S) Q := by
  unfold dictV
  rw [h0]
  simp only [h1, h]
  exact .ok q
theorem lookK {x : Rv} {kvs : List (Key × D)} {d : D} {k : Key} (h : kOf x S = some kvs) (hk : keyOf d = some k) : lookD x (.val d) S = some (getA kvs k) := by
  unfold lookD
  simp only [h, hk]
  rfl
theorem isDV_k {x : Rv} {kvs : List (Key × D)} (h : kOf x S = some kvs) : isDV x S = true := by
  unfold isDV
  rw [h]
  rfl
def DvQ (A : Rv → Sto → Prop) : Rv → Sto → Prop := fun x S1 => isDV x S1 = true ∧ A x S1
theorem dv_q {A : Rv → Sto → Prop} {x : Rv} {kvs : List (Key × D)} (h : kOf x S = some kvs) (q : A x S) : DvQ A x S := ⟨isDV_k h, q⟩
def GtQ (x : Rv) (Q : Rv → Sto → Prop) : Rv → Sto → Prop := fun y S2 => ∃ o, lookD x y S2 = some o ∧ Q (.val (o.getD .non)) S2
theorem w_get1 (h : W (fa env S) (DvQ fun x S1 => W (fb env S1) (GtQ x Q))) : W (eGet1 fa fb env S) Q := by
  refine .bnd (h.imp fun x S1 ⟨h1, h2⟩ => ?_)
  rw [if_pos h1]
  refine .bnd (h2.imp fun y S2 ⟨o, e, q⟩ => ?_)
  rw [e]
  exact .ok q
def GtQ2 (x y : Rv) (Q : Rv → Sto → Prop) : Rv → Sto → Prop := fun z S3 => ∃ o, lookD x y S3 = some o ∧ (∀ d, o = some d → Q (.val d) S3) ∧ (o = none → Q z S3)
theorem w_get2 (h : W (fa env S) (DvQ fun x S1 => W (fb env S1) fun y S2 => W (fc env S2) (GtQ2 x y Q))) : W (eGet2 fa fb fc env S) Q := by
  refine .bnd (h.imp fun x S1 ⟨h1, h2⟩ => ?_)
  rw [if_pos h1]
  refine .bnd (h2.imp fun y S2 h3 => .bnd (h3.imp fun z S3 ⟨o, e, q1, q2⟩ => ?_))
  rw [e]
  cases o with
  | some d => exact .ok (q1 d rfl)
  | none => exact .ok (q2 rfl)
theorem gt2_k {x : Rv} {kvs : List (Key × D)} {d dz : D} {k : Key} (h : kOf x S = some kvs) (hk : keyOf d = some k) (q : Q (.val ((getA kvs k).getD dz)) S) : GtQ2 x (.val d) Q (.val dz) S :=
  ⟨_, lookK h hk, fun d' e => by rw [e] at q; exact q, fun e => by rw [e] at q; exact q⟩
theorem w_ixD {x : Rv} {kvs : List (Key × D)} {d v : D} {k : Key} (h : kOf x S = some kvs) (hk : keyOf d = some k) (hv : getA kvs k = some v) (hx : seqOf x S = none) (hs : ∀ z, x ≠ .val (.str z)) (q : Q (.val v) S) : W (ixV x (.val d) S) Q := by
  have hg : getR x (.val d) S = .ok (.val v) S := by
    unfold getR
    rw [lookK h hk, hv]
  have : ixV x (.val d) S = .ok (.val v) S := by
    unfold ixV
    split
    · split
      · exact absurd rfl (hs _)
      · rw [hx]; exact hg
    · exact hg
  rw [this]
  exact .ok q
theorem seq_dk {n : Nat} {kvs : List (Key × D)} (h : S[n]? = some (.dk kvs)) : seqOf (.val (.loc n)) S = none := by
  unfold seqOf
  simp only [h]
theorem w_ixDl {n : Nat} {kvs : List (Key × D)} {d v : D} {k : Key} (h : S[n]? = some (.dk kvs)) (hk : keyOf d = some k) (hv : getA kvs k = some v) (q : Q (.val v) S) : W (ixV (.val (.loc n)) (.val d) S) Q :=
  w_ixD (k_loc h) hk hv (seq_dk h) (fun z e => nomatch e) q
theorem w_ixDr {ks : List Key} {ds : List D} {d v : D} {k : Key} (hk : keyOf d = some k) (hv : getA (ks.zip ds) k = some v) (q : Q (.val v) S) : W (ixV (.val (.rod ks ds)) (.val d) S) Q :=
  w_ixD (kvs := ks.zip ds) rfl hk hv rfl (fun z e => nomatch e) q
theorem in_dk {x : Rv} {kvs : List (Key × D)} {d : D} {k : Key} (h : kOf x S = some kvs) (hk : keyOf d = some k) (hx : seqOf x S = none) (hs : ∀ z, x ≠ .val (.str z)) : inOf (.val d) x S = some (getA kvs k).isSome := by
  unfold inOf
  split
  · exact absurd rfl (hs _)
  · rw [hx]
    show (lookD x (.val d) S).map Option.isSome = _
    rw [lookK h hk]
    rfl
theorem in_dkl {n : Nat} {kvs : List (Key × D)} {d : D} {k : Key} (h : S[n]? = some (.dk kvs)) (hk : keyOf d = some k) : inOf (.val d) (.val (.loc n)) S = some (getA kvs k).isSome := in_dk (k_loc h) hk (seq_dk h) (fun z e => nomatch e)
theorem in_dkr {ks : List Key} {ds : List D} {d : D} {k : Key} (hk : keyOf d = some k) : inOf (.val d) (.val (.rod ks ds)) S = some (getA (ks.zip ds) k).isSome := in_dk (kvs := ks.zip ds) rfl hk rfl (fun z e => nomatch e)
theorem put_dk {n : Nat} {kvs : List (Key × D)} {d v : D} {k : Key} (h : S[n]? = some (.dk kvs)) (hk : keyOf d = some k) (hz : kvs.length < big) : putD (.val (.loc n)) d v S = some (S.set n (.dk (putA kvs k v))) := by
  unfold putD
  simp only [h, if_pos hz, hk]
  rfl
theorem w_setD {n : Nat} {kvs : List (Key × D)} {d v : D} {k : Key} {Q : Unit → Sto → Prop} (h : S[n]? = some (.dk kvs)) (hk : keyOf d = some k) (hz : kvs.length < big) (q : Q () (S.set n (.dk (putA kvs k v)))) : W (setL (.val (.loc n)) (.val d) v S) Q := by
  have e : setDk (.val (.loc n)) (.val d) v S = .ok () (S.set n (.dk (putA kvs k v))) := by
    unfold setDk
    simp only [put_dk h hk hz]
  have : setL (.val (.loc n)) (.val d) v S = .ok () (S.set n (.dk (putA kvs k v))) := by
    unfold setL
    split
    · simp only [h]; exact e
    · exact e
  rw [this]
  exact .ok q
theorem w_sAugD {op : Rv → Rv → Sto → Res Rv} {Q : Fl → Sto → Prop} (h : W (fa env S) fun x S1 => W (fb env S1) fun k S2 => ∃ kd, k = .val kd ∧ W (getR x k S2) fun c S3 => W (fe env S3) fun y S4 => W (op c y S4) fun z S5 => W (stl z S5) fun d2 S6 => ∃ S7, putD x kd d2 S6 = some S7 ∧ Q (.nx env) S7) : W (sAugD op fa fb fe env S) Q := by
  refine .bnd (h.imp fun x S1 h => .bnd (h.imp fun k S2 ⟨kd, e, h⟩ => ?_))
  subst e
  refine .bnd (h.imp fun c S3 h => .bnd (h.imp fun y S4 h => .bnd (h.imp fun z S5 h => .bnd (h.imp fun d2 S6 ⟨S7, e, q⟩ => ?_))))
  rw [e]
  exact .ok q
theorem w_getR {x : Rv} {kvs : List (Key × D)} {d v : D} {k : Key} (h : kOf x S = some kvs) (hk : keyOf d = some k) (hv : getA kvs k = some v) (q : Q (.val v) S) : W (getR x (.val d) S) Q := by
  unfold getR
  rw [lookK h hk, hv]
  exact .ok q
theorem w_sortedK {x : Rv} {kvs : List (Key × D)} {ss : List Str} (h : kOf x S = some kvs) (hk : kvs.map Prod.fst = ss.map Sum.inr) (hz : ss.length < 64) (q : Q (.new ((sortStrs ss).map D.str)) S) : W (sortedV x S) Q := by
  unfold sortedV
  rw [h]
  simp only [hk, keysS_inr, if_pos hz]
  exact .ok q
theorem w_sortedL {x : Rv} {xs : List D} {ds : List PyData} (h0 : kOf x S = none) (h : lrdOf x S = some xs) (hd : rfds (lkS S 12) xs = some ds) (hk : sortOk ds = true) (q : Q (.new (sortBy xs ds)) S) : W (sortedV x S) Q := by
  unfold sortedV
  rw [h0]
  unfold sorted1
  simp only [h, hd, if_pos hk]
  exact .ok q
theorem w_sortItems {kvs : List (Key × D)} {ps : List PyData} (h : W (fa env S) fun x S1 => ∃ kvs ps, kOf x S1 = some kvs ∧ rfds (lkS S1 12) (kvs.map Prod.snd) = some ps ∧ sortOk ((kvs.zip ps).map fun z => pairP z.1.1 z.2) = true ∧ Q (.new (sortBy (itemsD kvs) ((kvs.zip ps).map fun z => pairP z.1.1 z.2))) S1) : W (eSIt fa env S) Q := by
  refine .bnd (h.imp fun x S1 ⟨kvs, ps, e1, e2, e3, q⟩ => ?_)
  simp only [e1, e2, if_pos e3]
  exact .ok q
theorem w_listItems {Q : Rv → Sto → Prop} (h : W (fa env S) fun x S1 => ∃ n kvs, x = .val (.loc n) ∧ S1[n]? = some (.dk kvs) ∧ Q (.new (itemsD kvs)) S1) : W (eLIt fa env S) Q := by
  refine .bnd (h.imp fun x S1 ⟨n, kvs, e1, e2, q⟩ => ?_)
  subst e1
  simp only [e2]
  exact .ok q
theorem w_tufL {x : Rv} {xs : List D} (h : lrdOf x S = some xs) (q : Q (.val (.tuf xs)) S) : W (tufV x S) Q := by
  have : tufV x S = .ok (.val (.tuf xs)) S := by
    unfold tufV
    cases x with
    | new ys => simp only [h]
    | newk ys => cases h
    | newt ys => cases h
    | val d => cases d <;> first | (simp only [h]; done) | (simp [lrdOf] at h)
  rw [this]
  exact .ok q
theorem w_tufF {xs : List D} (q : Q (.val (.tuf xs)) S) : W (tufV (.val (.tuf xs)) S) Q := .ok q
theorem w_tupleF {xs : List D} (q : Q (.val (.tuf xs)) S) : W (tupleV (.val (.tuf xs)) S) Q := .ok q
theorem w_ixF {xs : List D} {k : Int} {d : D} (h : atI xs k = some d) (q : Q (.val d) S) : W (ixV (.val (.tuf xs)) (.val (.int k)) S) Q := by
  refine .eq (a := .val d) (S := S) ?_ q
  show (match seqOf (.val (.tuf xs)) S with
      | some xs => (match atI xs k with
        | some d => Res.ok (Rv.val d) S
        | none => .bad)
      | none => getR (.val (.tuf xs)) (.val (.int k)) S) = _
  show (match atI xs k with
        | some d => Res.ok (Rv.val d) S
        | none => .bad) = _
  rw [h]
theorem w_gTf {n : Nat} {g : TgsM} {ds : List D} {Q : Env → Sto → Prop} (hn : ds.length = n) (h : W (g ds env S) Q) : W (gTp n g (.tuf ds) env S) Q := by
  show W (if ds.length = n then _ else _) Q
  rw [if_pos hn]
  exact h
/-! ### sources -/
theorem w_srB {Q : List D × Gs → Sto → Prop} (h : W (fa env S) fun x S1 => ∃ s, srcOf x S1 = some s ∧ Q s S1) : W (srB fa env S) Q := by
  refine .bnd (h.imp fun x S1 ⟨s, e, q⟩ => ?_)
  cases x with
  | new ys => simp only [e]; exact .ok q
  | newk ys => cases e
  | newt ys => cases e
  | val d => cases d <;> first | (simp only [e]; exact .ok q) | (simp [srcOf] at e)
theorem w_srBs {Q : List D × Gs → Sto → Prop} (h : W (fa env S) fun x S1 => ∃ z, x = .val (.str z) ∧ Q (signs z, []) S1) : W (srB fa env S) Q := by
  refine .bnd (h.imp fun x S1 ⟨z, e, q⟩ => ?_)
  subst e
  exact .ok q
theorem w_srBk {Q : List D × Gs → Sto → Prop} (h : W (fa env S) fun x S1 => ∃ ks ds, x = .val (.rod ks ds) ∧ Q (ks.map keyD, []) S1) : W (srB fa env S) Q := by
  refine .bnd (h.imp fun x S1 ⟨ks, ds, e, q⟩ => ?_)
  subst e
  exact .ok q
def BrcQ (Q : List D × Gs → Sto → Prop) : Rv → Sto → Prop := fun x S1 => W (srB (fun _ S => .ok x S) [] S1) Q
theorem w_srBB {Q : List D × Gs → Sto → Prop} (h : W (fa env S) (BrcQ Q)) : W (srB fa env S) Q := by
  obtain ⟨x, S1, e, q⟩ := h
  obtain ⟨s, S2, e2, q2⟩ := q
  refine ⟨s, S2, ?_, q2⟩
  unfold srB at e2 ⊢
  rw [e]
  exact e2
theorem bq_tup {Q : List D × Gs → Sto → Prop} {xs : List D} (q : Q (xs, []) S) : BrcQ Q (.val (.tup xs)) S := .ok q
theorem bq_tuf {Q : List D × Gs → Sto → Prop} {xs : List D} (q : Q (xs, []) S) : BrcQ Q (.val (.tuf xs)) S := .ok q
theorem bq_rol {Q : List D × Gs → Sto → Prop} {xs : List D} (q : Q (xs, []) S) : BrcQ Q (.val (.rol xs)) S := .ok q
theorem bq_str {Q : List D × Gs → Sto → Prop} {z : Str} (q : Q (signs z, []) S) : BrcQ Q (.val (.str z)) S := .ok q
theorem bq_rod {Q : List D × Gs → Sto → Prop} {ks : List Key} {ds : List D} (q : Q (ks.map keyD, []) S) : BrcQ Q (.val (.rod ks ds)) S := .ok q
theorem bq_loc {Q : List D × Gs → Sto → Prop} {n : Nat} {xs : List D} (h : S[n]? = some (.lst xs)) (q : Q (xs, [(n, .lst xs)]) S) : BrcQ Q (.val (.loc n)) S := by
  refine ⟨_, S, ?_, q⟩
  unfold srB
  show (match srcOf (.val (.loc n)) S with
      | some s => Res.ok s S
      | none => .bad) = _
  rw [src_loc h]
theorem w_srItems {Q : List D × Gs → Sto → Prop} (h : W (fa env S) fun x S1 => ∃ ks ds, x = .val (.rod ks ds) ∧ Q (itemsD (ks.zip ds), []) S1) : W (srItems fa env S) Q := by
  refine .bnd (h.imp fun x S1 ⟨ks, ds, e, q⟩ => ?_)
  subst e
  exact .ok q
theorem w_srVals {Q : List D × Gs → Sto → Prop} (h : W (fa env S) fun x S1 => ∃ ks ds, x = .val (.rod ks ds) ∧ Q (ds, []) S1) : W (srVals fa env S) Q := by
  refine .bnd (h.imp fun x S1 ⟨ks, ds, e, q⟩ => ?_)
  subst e
  exact .ok q
theorem w_srEn {Q : List D × Gs → Sto → Prop} (h : W (fa env S) fun x S1 => ∃ s, srcOf x S1 = some s ∧ isTup x = false ∧ Q (enumD s.1, s.2) S1) : W (srEn fa env S) Q := by
  refine .bnd (h.imp fun x S1 ⟨s, e, ht, q⟩ => ?_)
  simp only [e, ht]
  exact .ok q
theorem w_srZB {Q : List D × Gs → Sto → Prop} (h : W (fa env S) fun x S1 => W (fb env S1) fun y S2 => ∃ s t, srcOf x S2 = some s ∧ srcOf y S2 = some t ∧ Q (zipD s.1 t.1, s.2 ++ t.2) S2) : W (srZB fa fb env S) Q := by
  refine .bnd (h.imp fun x S1 h => .bnd (h.imp fun y S2 ⟨s, t, e1, e2, q⟩ => ?_))
  simp only [e1, e2]
  exact .ok q
/-! ### comprehensions over what does not change -/
theorem w_lcMap {α : Type} {gs : Gs} {tg : TgM} {ts : TsM} {env0 : Env} {Q : List D → Sto → Prop} {xs : List α} {enc : α → D} (p : α → Bool) (f : α → D) (hg : gok gs S = true)
    (hs : ∀ x ∈ xs, W (tg (enc x) env0 S) fun env1 S1 => W (ts env1 S1) (BrQ (fun S2 => p x = true ∧ W (fe env1 S2) fun y S3 => y = .val (f x) ∧ S3 = S) fun S2 => p x = false ∧ S2 = S))
    (q : Q ((xs.filter p).map f) S) : W (lcGo gs tg ts fe env0 (xs.map enc) S) Q := by
  have key : ∀ ys : List α, (∀ x ∈ ys, x ∈ xs) → lcGo gs tg ts fe env0 (ys.map enc) S = .ok ((ys.filter p).map f) S := by
    intro ys
    induction ys with
    | nil => intro _; unfold lcGo; rw [List.map_nil]; simp only [if_pos hg]; rfl
    | cons x ys ih =>
      intro hy
      have ih := ih fun z hz => hy z (List.mem_cons_of_mem _ hz)
      obtain ⟨env1, S1, e1, h1⟩ := hs x (hy x List.mem_cons_self)
      obtain ⟨k, S2, e2, h2⟩ := h1
      rw [List.map_cons]
      unfold lcGo
      rw [if_pos hg, e1]
      show bnd (noex (ts env1 S1)) _ = _
      rw [e2]
      cases k with
      | true =>
        obtain ⟨hp, y, S3, e3, rfl, rfl⟩ := h2.1 rfl
        simp only [bnd, noex, if_true, e3]
        show bnd (lcGo gs tg ts fe env0 (ys.map enc) S3) _ = _
        rw [ih, List.filter_cons, if_pos hp]
        rfl
      | false =>
        obtain ⟨hp, rfl⟩ := h2.2 rfl
        show (if false = true then (bnd (noex (fe env1 S2)) fun y S3 => bnd (stl y S3) fun d S4 => bnd (lcGo gs tg ts fe env0 (ys.map enc) S4) fun ds S5 => .ok (d :: ds) S5) else lcGo gs tg ts fe env0 (ys.map enc) S2) = _
        rw [if_neg Bool.false_ne_true, ih, List.filter_cons, if_neg (by rw [hp]; exact Bool.false_ne_true)]
  rw [key xs fun _ h => h]
  exact .ok q
theorem w_lcMap1 {α : Type} {gs : Gs} {tg : TgM} {env0 : Env} {Q : List D → Sto → Prop} {xs : List α} {enc : α → D} (f : α → D) (hg : gok gs S = true)
    (hs : ∀ x ∈ xs, W (tg (enc x) env0 S) fun env1 S1 => W (fe env1 S1) fun y S3 => y = .val (f x) ∧ S3 = S)
    (q : Q (xs.map f) S) : W (lcGo gs tg tsYes fe env0 (xs.map enc) S) Q := by
  refine w_lcMap (fun _ => true) f hg (fun x hx => (hs x hx).imp fun env1 S1 h => ?_) (by rw [List.filter_eq_self.mpr fun _ _ => rfl]; exact q)
  exact ⟨true, S1, rfl, fun _ => ⟨rfl, h⟩, fun e => nomatch e⟩
theorem w_eDc {own : List Nat} {src : SrM} {tg : TgM} {ts : TsM} (h : W (src env S) fun s S1 => s.1.length < big ∧ W (dcGo s.2 tg ts fa fb (wipeE env own) s.1 [] S1) fun kvs S2 => Q (.newk kvs) S2) : W (eDc own src tg ts fa fb env S) Q :=
  .bnd (h.imp fun s S1 h => by rw [if_pos h.1]; exact .bnd (h.2.imp fun ds S2 q => .ok q))
theorem w_dcMap {α : Type} {gs : Gs} {tg : TgM} {ts : TsM} {env0 : Env} {Q : List (Key × D) → Sto → Prop} {xs : List α} {enc : α → D} (p : α → Bool) (f : α → Key × D) (hg : gok gs S = true)
    (hs : ∀ x ∈ xs, W (tg (enc x) env0 S) fun env1 S1 => W (ts env1 S1) (BrQ (fun S2 => p x = true ∧ W (fa env1 S2) fun y S3 => y = .val (keyD (f x).1) ∧ W (fb env1 S3) fun z S4 => z = .val (f x).2 ∧ S4 = S) fun S2 => p x = false ∧ S2 = S))
    (q : Q (mergeA [] ((xs.filter p).map f)) S) : W (dcGo gs tg ts fa fb env0 (xs.map enc) [] S) Q := by
  have kk : ∀ k : Key, keyOf (keyD k) = some k := fun k => by cases k <;> rfl
  have key : ∀ (ys : List α) (acc : List (Key × D)), (∀ x ∈ ys, x ∈ xs) → dcGo gs tg ts fa fb env0 (ys.map enc) acc S = .ok (mergeA acc ((ys.filter p).map f)) S := by
    intro ys
    induction ys with
    | nil => intro acc _; unfold dcGo; rw [List.map_nil]; simp only [if_pos hg]; rfl
    | cons x ys ih =>
      intro acc hy
      have ih := fun acc => ih acc fun z hz => hy z (List.mem_cons_of_mem _ hz)
      obtain ⟨env1, S1, e1, h1⟩ := hs x (hy x List.mem_cons_self)
      obtain ⟨k, S2, e2, h2⟩ := h1
      rw [List.map_cons]
      unfold dcGo
      rw [if_pos hg, e1]
      show bnd (noex (ts env1 S1)) _ = _
      rw [e2]
      cases k with
      | true =>
        obtain ⟨hp, y, S3, e3, rfl, z, S4, e4, rfl, rfl⟩ := h2.1 rfl
        simp only [bnd, noex, if_true, e3]
        show bnd (noex (fb env1 S3)) _ = _
        rw [e4]
        show (match keyOf (keyD (f x).1) with
          | some key => dcGo gs tg ts fa fb env0 (ys.map enc) (putA acc key (f x).2) S4
          | none => .bad) = _
        rw [kk]
        show dcGo gs tg ts fa fb env0 (ys.map enc) (putA acc (f x).1 (f x).2) S4 = _
        rw [ih, List.filter_cons, if_pos hp]
        rfl
      | false =>
        obtain ⟨hp, rfl⟩ := h2.2 rfl
        show (if false = true then (bnd (noex (fa env1 S2)) fun y S3 => bnd (stl y S3) fun kd S4 => bnd (noex (fb env1 S4)) fun z S5 => bnd (stl z S5) fun vd S6 => (match keyOf kd with
          | some key => dcGo gs tg ts fa fb env0 (ys.map enc) (putA acc key vd) S6
          | none => .bad)) else dcGo gs tg ts fa fb env0 (ys.map enc) acc S2) = _
        rw [if_neg Bool.false_ne_true, ih, List.filter_cons, if_neg (by rw [hp]; exact Bool.false_ne_true)]
  rw [key xs [] fun _ h => h]
  exact .ok q
theorem w_pure {g : FnM} {ds : List D} {v : D} {Q : D → Sto → Prop} (h : g ds S = .ok v S) (q : Q v S) : W (g ds S) Q := ⟨v, S, h, q⟩
theorem of_W {r : Res D} {v : D} (h : W r fun d S' => d = v ∧ S' = S) : r = .ok v S := by
  obtain ⟨d, S', e, rfl, rfl⟩ := h
  exact e
end
end Bz

set_option Elab.async false
set_option linter.all false
set_option maxRecDepth 100000
set_option maxHeartbeats 4000000
/-! Bz: the bag, what is taken of it. -/
namespace Bz
open PySem PySem.Spec PyProof.Rows L2
local macro_rules | `(tactic| walk_at "w") => `(tactic| repeat (first
  | with_reducible refine w_sSeq ?_ | with_reducible refine w_sIf ?_ | with_reducible refine w_sAsg ?_ | with_reducible refine w_sRet ?_ | with_reducible refine w_sNil ?_ | with_reducible refine w_sExpr ?_
  | with_reducible refine w_sFor ?_ | with_reducible refine w_asB ?_ | with_reducible refine w_tru ?_ | with_reducible refine w_tsAnd ?_ | with_reducible refine w_tsOr ?_ | with_reducible refine w_tsNot ?_
  | with_reducible refine w_tsYes ?_ | with_reducible refine w_and ?_ | with_reducible refine w_or ?_ | with_reducible refine w_not ?_ | with_reducible refine w_eIf ?_ | with_reducible refine w_bin ?_
  | with_reducible refine w_un ?_ | with_reducible refine w_chain ?_ | with_reducible refine w_nm rfl ?_ | with_reducible refine w_c ?_ | with_reducible refine w_stlV ?_ | with_reducible refine w_stlN ?_
  | with_reducible refine w_stlK ?_ | with_reducible refine w_stlT ?_ | with_reducible refine w_aNil ?_ | with_reducible refine w_aCons ?_ | with_reducible refine w_fz ?_ | with_reducible refine fz_v ?_
  | with_reducible refine fz_n ?_ | with_reducible refine fz_k ?_ | with_reducible refine fz_t ?_ | with_reducible refine w_fzL ?_ | with_reducible refine fl_d rfl ?_ | with_reducible refine fl_n ?_
  | with_reducible refine fl_k ?_ | with_reducible refine fl_t ?_ | with_reducible refine w_eTup ?_ | with_reducible refine w_eTuf ?_ | with_reducible refine w_eLst ?_ | with_reducible refine w_dnK ?_
  | with_reducible refine w_dnT ?_ | with_reducible refine w_call ?_ | with_reducible refine w_eSl ?_ | with_reducible refine w_ptNo ?_ | with_reducible refine w_ptI ?_ | with_reducible refine w_m1 ?_
  | with_reducible refine w_m2 ?_ | with_reducible refine w_get1 ?_ | with_reducible refine w_get2 ?_ | with_reducible refine w_eLc ?_ | with_reducible refine w_eDc ?_ | with_reducible refine dl_q (Nat.le_of_ble_eq_true rfl) ?_
  | with_reducible refine int_q ?_ | with_reducible refine as_q ?_ | with_reducible refine ty_q (ty_loc (by assumption)) ?_ | with_reducible refine sq_nx ?_ | with_reducible refine sq_rt ?_ | with_reducible refine sq_bk ?_
  | with_reducible refine sq_ct ?_ | with_reducible refine fq_rt ?_ | with_reducible refine fq_nx ?_ | with_reducible refine tq_nx ?_ | with_reducible refine tq_ct ?_ | with_reducible refine tq_bk ?_
  | with_reducible refine tq_rt ?_ | with_reducible refine w_srBB ?_ | with_reducible refine bq_tup ?_ | with_reducible refine bq_tuf ?_ | with_reducible refine bq_rol ?_ | with_reducible refine bq_str ?_
  | with_reducible refine bq_rod ?_ | with_reducible refine bq_loc (by assumption) ?_ | with_reducible refine w_srR1 ?_ | with_reducible refine w_srR2 ?_ | with_reducible refine w_srZB ?_ | with_reducible refine w_srItems ?_
  | with_reducible refine w_srVals ?_ | with_reducible refine w_srEn ?_ | with_reducible refine w_addI ?_ | with_reducible refine w_subI ?_ | with_reducible refine w_mulI (by omega) ?_ | with_reducible refine w_divI (by omega) (by omega) ?_
  | with_reducible refine w_modI (by first | omega | decide +kernel) ?_ | with_reducible refine w_powI rfl ?_ | with_reducible refine w_neg ?_ | with_reducible refine w_iaddI ?_ | with_reducible refine w_max ?_ | with_reducible refine w_min ?_
  | with_reducible refine w_abs ?_ | with_reducible refine w_gtI ?_ | with_reducible refine w_ltI ?_ | with_reducible refine w_leI ?_ | with_reducible refine w_geI ?_ | with_reducible refine w_eqI ?_
  | with_reducible refine w_neI ?_ | with_reducible refine w_eqS ?_ | with_reducible refine w_neS ?_ | with_reducible refine w_ixT rfl ?_ | with_reducible refine w_ixR rfl ?_ | with_reducible refine w_ixF rfl ?_
  | with_reducible refine w_ixL (by assumption) rfl ?_ | with_reducible refine w_len (seq_loc (by assumption)) ?_ | with_reducible refine w_len rfl ?_ | with_reducible refine w_gNm (Nat.le_of_ble_eq_true rfl) ?_ | with_reducible refine w_gSb ?_ | with_reducible refine w_gTp rfl ?_
  | with_reducible refine w_gTf rfl ?_ | with_reducible refine w_gsCons ?_ | with_reducible refine w_gsNil ?_ | with_reducible refine w_sPar2 ?_ | with_reducible refine w_sPar3 ?_ | with_reducible refine w_sAug rfl ?_
  | with_reducible refine w_sAugD ?_ | with_reducible refine br_n ?_ | with_reducible refine br_t ?_ | with_reducible refine br_f ?_))
/-- the bag stands at nb -/
def Bag (nb : Nat) (S : Sto) : Prop := ∃ a b : Int, S[nb]? = some (.lst [.int a, .int b]) ∧ 0 ≤ a
/-- all but the bag stands as it stood; there may be more -/
def Fr (nb : Nat) (S S' : Sto) : Prop := S.length ≤ S'.length ∧ ∀ m o, m ≠ nb → S[m]? = some o → S'[m]? = some o
theorem lt_of {S : Sto} {n : Nat} {o : Ob} (h : S[n]? = some o) : n < S.length := by
  rcases Nat.lt_or_ge n S.length with z | z
  · exact z
  · rw [List.getElem?_eq_none z] at h; cases h
theorem Fr.refl {nb : Nat} {S : Sto} : Fr nb S S := ⟨Nat.le_refl _, fun _ _ _ h => h⟩
theorem Fr.trans {nb : Nat} {S S1 S2 : Sto} (a : Fr nb S S1) (b : Fr nb S1 S2) : Fr nb S S2 := ⟨Nat.le_trans a.1 b.1, fun m o n h => b.2 m o n (a.2 m o n h)⟩
theorem Fr.set {nb : Nat} {S : Sto} {o : Ob} : Fr nb S (S.set nb o) := ⟨by simp, fun m o n h => by rw [List.getElem?_set_ne (Ne.symm n)]; exact h⟩
theorem at_left {S os : Sto} {n : Nat} {o : Ob} (h : S[n]? = some o) : (S ++ os)[n]? = some o := by rw [List.getElem?_append_left (lt_of h)]; exact h
theorem at_new {S os : Sto} {o : Ob} : (S ++ o :: os)[S.length]? = some o := by simp
theorem Fr.push {nb : Nat} {S os : Sto} : Fr nb S (S ++ os) := ⟨by simp, fun m o n h => at_left h⟩
theorem Fr.at {nb : Nat} {S S' : Sto} (f : Fr nb S S') {m : Nat} {o : Ob} (h : S[m]? = some o) (n : m ≠ nb) : S'[m]? = some o := f.2 m o n h
theorem Bag.push {nb : Nat} {S os : Sto} (h : Bag nb S) : Bag nb (S ++ os) := by
  obtain ⟨a, b, h, ha⟩ := h
  exact ⟨a, b, at_left h, ha⟩
theorem Bag.lt {nb : Nat} {S : Sto} (h : Bag nb S) : nb < S.length := by
  obtain ⟨a, b, h, ha⟩ := h
  exact lt_of h
theorem Bag.ne {nb : Nat} {S : Sto} (h : Bag nb S) : S.length ≠ nb := by
  have := h.lt
  omega
/-- an object of the store that is changed, not the bag -/
theorem Bag.set {nb m : Nat} {S : Sto} {o : Ob} (h : Bag nb S) (n : m ≠ nb) : Bag nb (S.set m o) := by
  obtain ⟨a, b, h, ha⟩ := h
  exact ⟨a, b, by rw [List.getElem?_set_ne n]; exact h, ha⟩
def b_lowest (F : Str → FnM) : StM :=
 (sSeq (sPar2 2 3 (aCons (eFz (eUn absI (eNm 0))) (aCons (eFz (eNm 1)) aNil)))
 (sSeq (sWhile (tru (eNm 3))
 (sSeq (sPar2 2 3 (aCons (eFz (eNm 3)) (aCons (eFz (eBin modV (eNm 2) (eNm 3))) aNil)))
 sNil))
 (sSeq (sRet (eFzL (eTuf (aCons (eFzL (eBin divV (eNm 0) (eNm 2))) (aCons (eFzL (eBin divV (eNm 1) (eNm 2))) aNil)))))
 sNil)))
def b_weight (F : Str → FnM) : StM :=
 (sSeq (sRet (eFzL (eUn sumV (eLc [1, 2] (srB (eFz (eNm 0))) (gTp 2 (gsCons (gNm 1) (gsCons (gNm 2) gsNil))) tsYes (eFz (eNm 2))))))
 sNil)
def b_load_of (F : Str → FnM) : StM :=
 (sSeq (sRet (eFzL (eUn tufV (eLc [1] (srB (eFz (eUn sortedV (eNm 0)))) (gNm 1) (asB (eBin gtV (eBin ixV (eNm 0) (eNm 1)) (eC (.int 0)))) (eFz (eTuf (aCons (eFzL (eNm 1)) (aCons (eFzL (eBin ixV (eNm 0) (eNm 1))) aNil))))))))
 sNil)
def b_sorted_by (F : Str → FnM) : StM :=
 (sSeq (sAsg (eTup (aCons (eUn dictV (eNm 1)) (aCons (eLst aNil) aNil))) (gTp 2 (gsCons (gNm 2) (gsCons (gNm 3) gsNil))))
 (sSeq (sFor (srB (eFz (eNm 0))) (gTp 2 (gsCons (gNm 4) (gsCons (gNm 5) gsNil)))
 (sSeq (sAsg (eFz (eDc [7, 8] (srB (eFz (eNm 5))) (gTp 2 (gsCons (gNm 7) (gsCons (gNm 8) gsNil))) (asB (eBin inV' (eNm 7) (eNm 2))) (eFz (eNm 7)) (eFz (eBin divV (eBin mulV (eBin ixV (eNm 2) (eNm 7)) (eNm 8)) (eC (.int 1000)))))) (gNm 6))
 (sSeq (sFor (srItems (eFz (eNm 6))) (gTp 2 (gsCons (gNm 7) (gsCons (gNm 9) gsNil)))
 (sSeq (sAugD subV (eNm 2) (eNm 7) (eNm 9))
 sNil))
 (sSeq (sExpr (eM1 .list mApp1 (eNm 3) (eFzL (eTuf (aCons (eFzL (eNm 4)) (aCons (eFzL (eCall (F "load_of") (aCons (eFz (eNm 6)) aNil))) aNil))))))
 sNil))))
 (sSeq (sRet (eFzL (eBin addV (eNm 3) (eLst (aCons (eFzL (eTuf (aCons (eFzL (eC (.str "rest"))) (aCons (eFzL (eCall (F "load_of") (aCons (eFz (eNm 2)) aNil))) aNil)))) aNil)))))
 sNil)))
def b_part_of (F : Str → FnM) : StM :=
 (sSeq (sRet (eFzL (eIf (asB (eBin gtV (eNm 1) (eC (.int 0)))) (eCall (F "lowest") (aCons (eFz (eNm 0)) (aCons (eFz (eNm 1)) aNil))) (eTuf (aCons (eFzL (eC (.int 0))) (aCons (eFzL (eC (.int 1))) aNil))))))
 sNil)
def b_share (F : Str → FnM) : StM :=
 (sSeq (sAsg (eFz (eUn sumV (eLc [4, 5] (srB (eFz (eCall (F "sorted_by") (aCons (eFz (eNm 0)) (aCons (eFz (eNm 1)) aNil))))) (gTp 2 (gsCons (gNm 4) (gsCons (gNm 5) gsNil))) (asB (eBin inV' (eNm 4) (eNm 2))) (eFz (eCall (F "weight") (aCons (eFz (eNm 5)) aNil)))))) (gNm 3))
 (sSeq (sRet (eFzL (eCall (F "part_of") (aCons (eFz (eNm 3)) (aCons (eFz (eCall (F "weight") (aCons (eFz (eNm 1)) aNil))) aNil)))))
 sNil))
def b_purity (F : Str → FnM) : StM :=
 (sSeq (sRet (eFzL (eCall (F "part_of") (aCons (eFz (eGet2 (eUn dictV (eNm 0)) (eNm 1) (eC (.int 0)))) (aCons (eFz (eCall (F "weight") (aCons (eFz (eNm 0)) aNil))) aNil)))))
 sNil)
def b_law_bag (F : Str → FnM) : StM :=
 (sSeq (sAsg (eFz (eC (.int 0))) (gNm 2))
 (sSeq (sIf (asB (eBin ltV (eNm 1) (eUn lenV (eNm 0))))
 (sSeq (sAsg (eFz (eBin modV (eBin ixV (eNm 0) (eNm 1)) (eBin powV (eC (.int 10)) (eC (.int 60))))) (gNm 2))
 sNil)
 sNil)
 (sSeq (sAsg (eFz (eBin addV (eC (.int 1)) (eBin modV (eBin addV (eBin addV (eBin addV (eBin mulV (eBin modV (eNm 2) (eC (.int 2147483629))) (eC (.int 16807))) (eBin mulV (eBin mulV (eC (.int 40009)) (eNm 1)) (eNm 1))) (eBin mulV (eC (.int 7919)) (eNm 1))) (eC (.int 1009))) (eC (.int 2147483645))))) (gNm 3))
 (sSeq (sIf (asB (eBin ltV (eNm 2) (eBin powV (eC (.int 10)) (eC (.int 18)))))
 (sSeq (sRet (eLst (aCons (eFzL (eC (.int 0))) (aCons (eFzL (eNm 3)) aNil))))
 sNil)
 sNil)
 (sSeq (sRet (eLst (aCons (eFzL (eNm 2)) (aCons (eFzL (eNm 3)) aNil))))
 sNil)))))
def b_law_take (F : Str → FnM) : StM :=
 (sSeq (sIf (asB (eBin gtV (eBin ixV (eNm 0) (eC (.int 0))) (eC (.int 0))))
 (sSeq (sAsg (eFz (eBin modV (eBin ixV (eNm 0) (eC (.int 0))) (eNm 1))) (gNm 2))
 (sSeq (sAsg (eFzL (eBin divV (eBin ixV (eNm 0) (eC (.int 0))) (eNm 1))) (gSb setL (eNm 0) (eC (.int 0))))
 (sSeq (sRet (eFzL (eNm 2)))
 sNil)))
 sNil)
 (sSeq (sAsg (eFzL (eBin modV (eBin mulV (eBin ixV (eNm 0) (eC (.int 1))) (eC (.int 48271))) (eC (.int 2147483647)))) (gSb setL (eNm 0) (eC (.int 1))))
 (sSeq (sRet (eFzL (eBin modV (eBin divV (eBin modV (eBin mulV (eBin divV (eBin ixV (eNm 0) (eC (.int 1))) (eC (.int 13))) (eBin addV (eBin modV (eBin ixV (eNm 0) (eC (.int 1))) (eC (.int 32749))) (eC (.int 17)))) (eC (.int 2147483629))) (eC (.int 32))) (eNm 1))))
 sNil)))
def b_law_of (F : Str → FnM) : StM :=
 (sSeq (sRet (eFzL (eBin ixV (eNm 1) (eCall (F "_law_take") (aCons (eFz (eNm 0)) (aCons (eFz (eUn lenV (eNm 1))) aNil))))))
 sNil)
def b_law_load (F : Str → FnM) : StM :=
 (sSeq (sAsg eDnK (gNm 2))
 (sSeq (sFor (srR1 (eCall (F "_law_take") (aCons (eFz (eNm 0)) (aCons (eFz (eBin addV (eNm 1) (eC (.int 1)))) aNil)))) (gNm 3)
 (sSeq (sAsg (eFz (eCall (F "_law_of") (aCons (eFz (eNm 0)) (aCons (eFz (eLst (aCons (eFzL (eC (.str "glass"))) (aCons (eFzL (eC (.str "iron"))) (aCons (eFzL (eC (.str "leaf"))) (aCons (eFzL (eC (.str "paper"))) (aCons (eFzL (eC (.str "rag"))) (aCons (eFzL (eC (.str "wood"))) aNil)))))))) aNil)))) (gNm 4))
 (sSeq (sAsg (eFzL (eCall (F "_law_of") (aCons (eFz (eNm 0)) (aCons (eFz (eLst (aCons (eFzL (eC (.int 1))) (aCons (eFzL (eC (.int 3))) (aCons (eFzL (eC (.int 10))) (aCons (eFzL (eC (.int 333))) (aCons (eFzL (eC (.int 999))) (aCons (eFzL (eBin addV (eC (.int 1)) (eCall (F "_law_take") (aCons (eFz (eNm 0)) (aCons (eFz (eC (.int 700))) aNil))))) aNil)))))))) aNil)))) (gSb setL (eNm 2) (eNm 4)))
 sNil)))
 (sSeq (sRet (eFzL (eUn tufV (eSIt (eNm 2)))))
 sNil)))
def b_law_steps (F : Str → FnM) : StM :=
 (sSeq (sAsg (eLst aNil) (gNm 1))
 (sSeq (sFor (srB (eFz (eLst (aCons (eFzL (eC (.str "bale"))) (aCons (eFzL (eC (.str "melt"))) (aCons (eFzL (eC (.str "pulp"))) (aCons (eFzL (eC (.str "sieve"))) (aCons (eFzL (eC (.str "zinc"))) aNil)))))))) (gNm 2)
 (sSeq (sIf (asB (eBin gtV (eCall (F "_law_take") (aCons (eFz (eNm 0)) (aCons (eFz (eC (.int 3))) aNil))) (eC (.int 0))))
 (sSeq (sAsg eDnK (gNm 3))
 (sSeq (sFor (srR1 (eCall (F "_law_take") (aCons (eFz (eNm 0)) (aCons (eFz (eC (.int 5))) aNil)))) (gNm 4)
 (sSeq (sAsg (eFz (eCall (F "_law_of") (aCons (eFz (eNm 0)) (aCons (eFz (eLst (aCons (eFzL (eC (.str "glass"))) (aCons (eFzL (eC (.str "iron"))) (aCons (eFzL (eC (.str "leaf"))) (aCons (eFzL (eC (.str "paper"))) (aCons (eFzL (eC (.str "rag"))) (aCons (eFzL (eC (.str "wood"))) (aCons (eFzL (eC (.str "stone"))) aNil))))))))) aNil)))) (gNm 5))
 (sSeq (sAsg (eFzL (eCall (F "_law_of") (aCons (eFz (eNm 0)) (aCons (eFz (eLst (aCons (eFzL (eC (.int 1))) (aCons (eFzL (eC (.int 500))) (aCons (eFzL (eC (.int 999))) (aCons (eFzL (eC (.int 1000))) (aCons (eFzL (eBin addV (eC (.int 1)) (eCall (F "_law_take") (aCons (eFz (eNm 0)) (aCons (eFz (eC (.int 1000))) aNil))))) aNil))))))) aNil)))) (gSb setL (eNm 3) (eNm 5)))
 sNil)))
 (sSeq (sExpr (eM2 .list mIns2 (eNm 1) (eCall (F "_law_take") (aCons (eFz (eNm 0)) (aCons (eFz (eBin addV (eUn lenV (eNm 1)) (eC (.int 1)))) aNil))) (eFzL (eTuf (aCons (eFzL (eNm 2)) (aCons (eFzL (eUn tufV (eSIt (eNm 3)))) aNil))))))
 sNil)))
 sNil)
 sNil))
 (sSeq (sRet (eFzL (eUn tufV (eNm 1))))
 sNil)))
def b_law_sorted (F : Str → FnM) : StM :=
 (sSeq (sAsg (eTup (aCons (eUn dictV (eNm 1)) (aCons (eLst aNil) aNil))) (gTp 2 (gsCons (gNm 2) (gsCons (gNm 3) gsNil))))
 (sSeq (sFor (srB (eFz (eNm 0))) (gTp 2 (gsCons (gNm 4) (gsCons (gNm 5) gsNil)))
 (sSeq (sAsg (eLst aNil) (gNm 6))
 (sSeq (sFor (srB (eFz (eNm 5))) (gTp 2 (gsCons (gNm 7) (gsCons (gNm 8) gsNil)))
 (sSeq (sAsg (eFz (eBin divV (eBin mulV (eGet2 (eNm 2) (eNm 7) (eC (.int 0))) (eNm 8)) (eC (.int 1000)))) (gNm 9))
 (sSeq (sIf (asB (eBin gtV (eNm 9) (eC (.int 0))))
 (sSeq (sExpr (eM1 .list mApp1 (eNm 6) (eFzL (eTuf (aCons (eFzL (eNm 7)) (aCons (eFzL (eNm 9)) aNil))))))
 (sSeq (sAsg (eFzL (eBin subV (eBin ixV (eNm 2) (eNm 7)) (eNm 9))) (gSb setL (eNm 2) (eNm 7)))
 sNil))
 sNil)
 sNil)))
 (sSeq (sExpr (eM1 .list mApp1 (eNm 3) (eFzL (eTuf (aCons (eFzL (eNm 4)) (aCons (eFzL (eUn tufV (eNm 6))) aNil))))))
 sNil))))
 (sSeq (sRet (eFzL (eBin addV (eNm 3) (eLst (aCons (eFzL (eTuf (aCons (eFzL (eC (.str "rest"))) (aCons (eFzL (eUn tufV (eLc [7] (srB (eFz (eUn sortedV (eNm 2)))) (gNm 7) (asB (eBin gtV (eBin ixV (eNm 2) (eNm 7)) (eC (.int 0)))) (eFz (eTuf (aCons (eFzL (eNm 7)) (aCons (eFzL (eBin ixV (eNm 2) (eNm 7))) aNil))))))) aNil)))) aNil)))))
 sNil)))
def b_law_grams (F : Str → FnM) : StM :=
 (sSeq (sRet (eFzL (eUn sumV (eLc [1, 2] (srB (eFz (eNm 0))) (gTp 2 (gsCons (gNm 1) (gsCons (gNm 2) gsNil))) tsYes (eFz (eNm 2))))))
 sNil)
def b_together (F : Str → FnM) : StM :=
 (sSeq (sAsg (eUn dictV (eNm 0)) (gNm 2))
 (sSeq (sFor (srB (eFz (eNm 1))) (gTp 2 (gsCons (gNm 3) (gsCons (gNm 4) gsNil)))
 (sSeq (sAsg (eFzL (eBin addV (eGet2 (eNm 2) (eNm 3) (eC (.int 0))) (eNm 4))) (gSb setL (eNm 2) (eNm 3)))
 sNil))
 (sSeq (sRet (eFzL (eCall (F "load_of") (aCons (eFz (eNm 2)) aNil))))
 sNil)))
/-- behind a def that has changed the bag alone -/
theorem Bag.take {nb : Nat} {S S1 : Sto} (h : Bag nb S1) (hn : nb < S.length) : Bag nb (S1.take S.length) := by
  obtain ⟨a, b, h, ha⟩ := h
  exact ⟨a, b, by rw [List.getElem?_take_of_lt hn]; exact h, ha⟩
theorem tr_bag {nb : Nat} {S S1 : Sto} {d : D} {Q : D → Sto → Prop} (h0 : Bag nb S) (h1 : Bag nb S1) (h2 : Fr nb S S1) (hd : locsLt S.length d = true) (q : ∀ S', Bag nb S' → Fr nb S S' → S'.length = S.length → Q d S') : W (trunc S (.ok d S1)) Q := by
  have e : S1 = S1.take S.length ++ S1.drop S.length := (List.take_append_drop _ _).symm
  have hl : (S1.take S.length).length = S.length := by rw [List.length_take]; have := h2.1; omega
  have hlt := h0.lt
  rw [e, trunc_to hd hl fun i o hi => ?_]
  · refine .ok (q _ (h1.take hlt) ⟨by omega, fun m o hm hs => ?_⟩ hl)
    rw [List.getElem?_take_of_lt (lt_of hs)]
    exact h2.2 m o hm hs
  · have hil : i < S.length := by rw [← hl]; exact lt_of hi
    rw [List.getElem?_take_of_lt hil] at hi
    by_cases hn : i = nb
    · subst hn
      obtain ⟨a, b, h1, _⟩ := h1
      rw [h1] at hi
      cases hi
      exact .inr rfl
    · obtain ⟨o', ho'⟩ : ∃ o', S[i]? = some o' := ⟨_, List.getElem?_eq_getElem hil⟩
      have := h2.2 i o' hn ho'
      rw [hi] at this
      cases this
      exact .inl ho'
def BagS (g : FnM) : Prop := ∀ (S : Sto) (ns : List Int) (k : Nat) (Q : D → Sto → Prop), k < 100 → (∀ S', Bag S.length S' → Fr S.length S S' → S'.length = S.length + 1 → Q (.loc S.length) S') → W (g [.rol (ns.map D.int), .int k] S) Q
def TakeS (g : FnM) : Prop := ∀ (nb : Nat) (S : Sto) (c : Int) (Q : D → Sto → Prop), Bag nb S → 0 < c → c < 2 ^ 100 → (∀ r S', 0 ≤ r → r < c → Bag nb S' → Fr nb S S' → S'.length = S.length → Q (.int r) S') → W (g [.loc nb, .int c] S) Q
def OfS (g : FnM) : Prop := ∀ (nb : Nat) (S : Sto) (xs : List D) (Q : D → Sto → Prop), Bag nb S → 0 < xs.length → xs.length < 1000 → (∀ d ∈ xs, nol d = true ∧ ∀ n, locsLt n d = true) → (∀ d S', d ∈ xs → Bag nb S' → Fr nb S S' → S'.length = S.length → Q d S') → W (g [.loc nb, .rol xs] S) Q
theorem take_ok (F : Str → FnM) : TakeS (runL 2 3 (b_law_take F)) := by
  intro nb S c Q h hc hc2 k
  have h0 := h
  obtain ⟨a, b, h, ha⟩ := h
  have hlt := lt_of h
  refine w_runL rfl ?_
  unfold b_law_take
  walk_at "w"
  refine br_d (fun hk => ?_) fun hk => ?_
  · walk_at "w"
    refine w_setL h rfl ?_
    walk_at "w"
    exact tr_bag h0 ⟨_, _, List.getElem?_set_self hlt, Int.ediv_nonneg ha (by omega)⟩ Fr.set rfl fun S' b1 f1 l1 => k _ _ (Int.emod_nonneg _ (by omega)) (Int.emod_lt_of_pos _ hc) b1 f1 l1
  · walk_at "w"
    refine w_setL h rfl ?_
    have h2 := List.getElem?_set_self (a := Ob.lst ([D.int a, D.int b].set (Int.toNat 1) (D.int (b * 48271 % 2147483647)))) hlt
    walk_at "w"
    exact tr_bag h0 ⟨_, _, List.getElem?_set_self hlt, ha⟩ Fr.set rfl fun S' b1 f1 l1 => k _ _ (Int.emod_nonneg _ (by omega)) (Int.emod_lt_of_pos _ hc) b1 f1 l1
theorem atI_some {α : Type} {xs : List α} {i : Int} (h0 : 0 ≤ i) (h : i < xs.length) : ∃ x, atI xs i = some x ∧ x ∈ xs := by
  have h1 : i.toNat < xs.length := by omega
  refine ⟨xs[i.toNat], ?_, List.getElem_mem h1⟩
  have := atI_nat (xs := xs) (j := i.toNat) (List.getElem?_eq_getElem h1)
  rwa [show ((i.toNat : Nat) : Int) = i by omega] at this
theorem bag_ok (F : Str → FnM) : BagS (runL 2 4 (b_law_bag F)) := by
  intro S ns k Q hk q
  have fin : ∀ a b : Int, 0 ≤ a → W (trunc S (.ok (.loc S.length) (S ++ [.lst [.int a, .int b]]))) Q := fun a b ha => tr_loc (Nat.le_refl _) (q _ ⟨_, _, at_new, ha⟩ Fr.push (by simp))
  refine w_runL rfl ?_
  unfold b_law_bag
  walk_at "w"
  refine br_d (fun hk2 => ?_) fun hk2 => ?_
  · obtain ⟨x, hx, hm⟩ := atI_some (xs := ns.map D.int) (i := (k : Int)) (by omega) hk2
    obtain ⟨c, _, rfl⟩ := List.mem_map.mp hm
    walk_at "w"
    refine w_ixR hx ?_
    walk_at "w"
    have hc : 0 ≤ c % 10 ^ Int.toNat 60 := Int.emod_nonneg _ (by decide)
    generalize c % 10 ^ Int.toNat 60 = cell at hc ⊢
    have := Int.emod_nonneg cell (show (2147483629 : Int) ≠ 0 by decide)
    have := Int.emod_lt_of_pos cell (show (0 : Int) < 2147483629 by decide)
    walk_at "w"
    refine br_d (fun hk => ?_) fun hk => ?_
    · walk_at "w"
      exact fin _ _ (Int.le_refl _)
    · walk_at "w"
      exact fin _ _ hc
  · walk_at "w"
    refine br_d (fun hk => ?_) fun hk => ?_
    · walk_at "w"
      exact fin _ _ (Int.le_refl _)
    · walk_at "w"
      exact fin _ _ (Int.le_refl _)
theorem of_ok {F : Str → FnM} (T : TakeS (F "_law_take")) : OfS (runL 2 2 (b_law_of F)) := by
  intro nb S xs Q h h0 hl hx k
  refine w_runL rfl ?_
  unfold b_law_of
  walk_at "w"
  refine T nb S _ _ h (by omega) (by omega) fun r S' h1 h2 h3 h4 h5 => ?_
  obtain ⟨x, hx2, hmm⟩ := atI_some (xs := xs) (i := r) h1 h2
  walk_at "w"
  refine w_ixR hx2 ?_
  refine fl_d (hx x hmm).1 ?_
  walk_at "w"
  exact tr_bag h h3 h4 ((hx x hmm).2 _) fun S' b1 f1 l1 => k _ _ hmm b1 f1 l1
end Bz

set_option Elab.async false
set_option linter.all false
set_option maxRecDepth 100000
set_option maxHeartbeats 4000000
/-! Bz: loads. -/
namespace Bz
open PySem PySem.Spec PyProof.Rows L2
local macro_rules | `(tactic| walk_at "w") => `(tactic| repeat (first
  | with_reducible refine w_sSeq ?_ | with_reducible refine w_sIf ?_ | with_reducible refine w_sAsg ?_ | with_reducible refine w_sRet ?_ | with_reducible refine w_sNil ?_ | with_reducible refine w_sExpr ?_
  | with_reducible refine w_sFor ?_ | with_reducible refine w_asB ?_ | with_reducible refine w_tru ?_ | with_reducible refine w_tsAnd ?_ | with_reducible refine w_tsOr ?_ | with_reducible refine w_tsNot ?_
  | with_reducible refine w_tsYes ?_ | with_reducible refine w_and ?_ | with_reducible refine w_or ?_ | with_reducible refine w_not ?_ | with_reducible refine w_eIf ?_ | with_reducible refine w_bin ?_
  | with_reducible refine w_un ?_ | with_reducible refine w_chain ?_ | with_reducible refine w_nm rfl ?_ | with_reducible refine w_c ?_ | with_reducible refine w_stlV ?_ | with_reducible refine w_stlN ?_
  | with_reducible refine w_stlK ?_ | with_reducible refine w_stlT ?_ | with_reducible refine w_aNil ?_ | with_reducible refine w_aCons ?_ | with_reducible refine w_fz ?_ | with_reducible refine fz_v ?_
  | with_reducible refine fz_n ?_ | with_reducible refine fz_k ?_ | with_reducible refine fz_t ?_ | with_reducible refine w_fzL ?_ | with_reducible refine fl_d rfl ?_ | with_reducible refine fl_n ?_
  | with_reducible refine fl_k ?_ | with_reducible refine fl_t ?_ | with_reducible refine w_eTup ?_ | with_reducible refine w_eTuf ?_ | with_reducible refine w_eLst ?_ | with_reducible refine w_dnK ?_
  | with_reducible refine w_dnT ?_ | with_reducible refine w_call ?_ | with_reducible refine w_eSl ?_ | with_reducible refine w_ptNo ?_ | with_reducible refine w_ptI ?_ | with_reducible refine w_m1 ?_
  | with_reducible refine w_m2 ?_ | with_reducible refine w_get1 ?_ | with_reducible refine w_get2 ?_ | with_reducible refine w_eLc ?_ | with_reducible refine w_eDc ?_ | with_reducible refine dl_q (Nat.le_of_ble_eq_true rfl) ?_
  | with_reducible refine int_q ?_ | with_reducible refine as_q ?_ | with_reducible refine ty_q (ty_loc (by assumption)) ?_ | with_reducible refine sq_nx ?_ | with_reducible refine sq_rt ?_ | with_reducible refine sq_bk ?_
  | with_reducible refine sq_ct ?_ | with_reducible refine fq_rt ?_ | with_reducible refine fq_nx ?_ | with_reducible refine tq_nx ?_ | with_reducible refine tq_ct ?_ | with_reducible refine tq_bk ?_
  | with_reducible refine tq_rt ?_ | with_reducible refine w_srBB ?_ | with_reducible refine bq_tup ?_ | with_reducible refine bq_tuf ?_ | with_reducible refine bq_rol ?_ | with_reducible refine bq_str ?_
  | with_reducible refine bq_rod ?_ | with_reducible refine bq_loc (by assumption) ?_ | with_reducible refine w_srR1 ?_ | with_reducible refine w_srR2 ?_ | with_reducible refine w_srZB ?_ | with_reducible refine w_srItems ?_
  | with_reducible refine w_srVals ?_ | with_reducible refine w_srEn ?_ | with_reducible refine w_addI ?_ | with_reducible refine w_subI ?_ | with_reducible refine w_mulI (by omega) ?_ | with_reducible refine w_divI (by omega) (by omega) ?_
  | with_reducible refine w_modI (by first | omega | decide +kernel) ?_ | with_reducible refine w_powI rfl ?_ | with_reducible refine w_neg ?_ | with_reducible refine w_iaddI ?_ | with_reducible refine w_max ?_ | with_reducible refine w_min ?_
  | with_reducible refine w_abs ?_ | with_reducible refine w_gtI ?_ | with_reducible refine w_ltI ?_ | with_reducible refine w_leI ?_ | with_reducible refine w_geI ?_ | with_reducible refine w_eqI ?_
  | with_reducible refine w_neI ?_ | with_reducible refine w_eqS ?_ | with_reducible refine w_neS ?_ | with_reducible refine w_ixT rfl ?_ | with_reducible refine w_ixR rfl ?_ | with_reducible refine w_ixF rfl ?_
  | with_reducible refine w_ixL (by assumption) rfl ?_ | with_reducible refine w_len (seq_loc (by assumption)) ?_ | with_reducible refine w_len rfl ?_ | with_reducible refine w_gNm (Nat.le_of_ble_eq_true rfl) ?_ | with_reducible refine w_gSb ?_ | with_reducible refine w_gTp rfl ?_
  | with_reducible refine w_gTf rfl ?_ | with_reducible refine w_gsCons ?_ | with_reducible refine w_gsNil ?_ | with_reducible refine w_sPar2 ?_ | with_reducible refine w_sPar3 ?_ | with_reducible refine w_sAug rfl ?_
  | with_reducible refine w_sAugD ?_ | with_reducible refine br_n ?_ | with_reducible refine br_t ?_ | with_reducible refine br_f ?_))
abbrev Ld := List (Str × Int)
def PairR (d : D) (p : Str × Int) : Prop := d = .tup [.str p.1, .int p.2] ∨ d = .tuf [.str p.1, .int p.2]
def LR (ds : List D) (l : Ld) : Prop := Paired PairR ds l
def encP (p : Str × Int) : D := .tuf [.str p.1, .int p.2]
def encT (p : Str × Int) : D := .tup [.str p.1, .int p.2]
theorem lr_P (l : Ld) : LR (l.map encP) l := by
  induction l with
  | nil => exact .nil
  | cons p l ih => exact .cons (.inr rfl) ih
theorem lr_T (l : Ld) : LR (l.map encT) l := by
  induction l with
  | nil => exact .nil
  | cons p l ih => exact .cons (.inl rfl) ih
theorem paired_len {α β : Type} {R : α → β → Prop} {xs : List α} {ys : List β} (h : Paired R xs ys) : xs.length = ys.length := Paired.length h
theorem paired_zip {α β : Type} {R : α → β → Prop} : ∀ {xs : List α} {ys : List β}, Paired R xs ys → ∃ zs : List (α × β), xs = zs.map Prod.fst ∧ ys = zs.map Prod.snd ∧ ∀ z ∈ zs, R z.1 z.2
  | _, _, .nil => ⟨[], rfl, rfl, fun _ h => nomatch h⟩
  | _, _, .cons (a := x) (b := y) h t => by
    obtain ⟨zs, e1, e2, hz⟩ := paired_zip t
    subst e1 e2
    refine ⟨(x, y) :: zs, rfl, rfl, fun z hm => ?_⟩
    rcases List.mem_cons.mp hm with rfl | hm
    · exact h
    · exact hz z hm
theorem pairsOf_lr : ∀ {ds : List D} {l : Ld}, LR ds l → pairsOf ds = some (l.map fun p => (Sum.inr p.1, D.int p.2))
  | _, _, .nil => rfl
  | _, _, .cons (a := d) (b := p) h t => by
    have e : pairOf d = some (.str p.1, .int p.2) := by rcases h with rfl | rfl <;> rfl
    show (match pairOf d, pairsOf _ with
      | some (k, v), some kvs => (keyOf k).map fun k => (k, v) :: kvs
      | _, _ => none) = _
    rw [e, pairsOf_lr t]
    rfl
def weightF (l : Ld) : Int := (l.map Prod.snd).sum
theorem intsOf_map {α : Type} (f : α → Int) : ∀ r : List α, intsOf (r.map fun p => D.int (f p)) = some (r.map f)
  | [] => rfl
  | p :: r => by simp [intsOf, intsOf_map f r]
theorem weight_eq (F : Str → FnM) {ds : List D} {l : Ld} (h : LR ds l) (hz : ds.length < big) (S : Sto) : runL 1 3 (b_weight F) [.tuf ds] S = .ok (.int (weightF l)) S := by
  obtain ⟨zs, rfl, rfl, hr⟩ := paired_zip h
  refine of_W (w_runL rfl ?_)
  unfold b_weight
  walk_at "w"
  refine ⟨hz, w_lcMap1 (fun z : D × (Str × Int) => .int z.2.2) rfl (fun z hm => ?_) ?_⟩
  · rcases hr z hm with e | e
    · rw [e]; walk_at "w"; exact ⟨rfl, rfl⟩
    · rw [e]; walk_at "w"; exact ⟨rfl, rfl⟩
  · refine w_sum (ns := (zs.map Prod.snd).map Prod.snd) ?_ ?_
    · rw [List.map_map]; exact intsOf_map (fun z : D × (Str × Int) => z.2.2) zs
    · walk_at "w"
      exact tr_same rfl ⟨rfl, rfl⟩
theorem grams_eq (F : Str → FnM) {ds : List D} {l : Ld} (h : LR ds l) (hz : ds.length < big) (S : Sto) : runL 1 3 (b_law_grams F) [.tuf ds] S = .ok (.int (weightF l)) S := by
  have e : b_law_grams F = b_weight F := rfl
  rw [e]
  exact weight_eq F h hz S
/-! ### load_of -/
/-- a dict of kinds -/
def kvL (l : Ld) : List (Key × D) := l.map fun p => (Sum.inr p.1, D.int p.2)
def getL (l : Ld) (k : Str) : Option Int := (l.find? fun p => decide (p.1 = k)).map Prod.snd
theorem getA_kvL (l : Ld) (k : Str) : getA (kvL l) (Sum.inr k) = (getL l k).map D.int := by
  unfold getA getL kvL
  induction l with
  | nil => rfl
  | cons p l ih =>
    rw [List.map_cons, List.find?_cons, List.find?_cons]
    by_cases h : p.1 = k
    · simp [h]
    · simp only [Sum.inr.injEq, h, decide_false]
      exact ih
theorem kvL_keys (l : Ld) : (kvL l).map Prod.fst = (l.map Prod.fst).map Sum.inr := by
  unfold kvL
  rw [List.map_map, List.map_map]
  rfl
def loadOf (l : Ld) : Ld := ((sortStrs (l.map Prod.fst)).filter fun k => decide (0 < (getL l k).getD 0)).map fun k => (k, (getL l k).getD 0)
theorem getL_mem {l : Ld} {k : Str} (h : k ∈ l.map Prod.fst) : ∃ g, getL l k = some g := by
  obtain ⟨p, hp, rfl⟩ := List.mem_map.mp h
  unfold getL
  cases e : l.find? fun q => decide (q.1 = p.1) with
  | none =>
    have := List.find?_eq_none.mp e p hp
    simp at this
  | some q => exact ⟨q.2, rfl⟩
theorem loadOf_eq (F : Str → FnM) {d : D} {l : Ld} (S : Sto) (hk : kOf (.val d) S = some (kvL l)) (hs : seqOf (.val d) S = none) (hd : ∀ z, d ≠ .str z) (hz : l.length < 64) : runL 1 2 (b_load_of F) [d] S = .ok (.tuf ((loadOf l).map encP)) S := by
  have hx : ∀ {k : Str} {g : Int} {Q : Rv → Sto → Prop}, getL l k = some g → Q (.val (.int g)) S → W (ixV (.val d) (.val (.str k)) S) Q := fun {k g Q} hg q =>
    w_ixD hk (k := Sum.inr k) rfl (by rw [getA_kvL, hg]; rfl) hs (fun z e => hd z (Rv.val.inj e)) q
  refine of_W (w_runL rfl ?_)
  unfold b_load_of
  walk_at "w"
  refine w_sortedK hk (ss := l.map Prod.fst) (kvL_keys l) (by rw [List.length_map]; exact hz) ?_
  walk_at "w"
  have hl : ((sortStrs (l.map Prod.fst)).map D.str).length < big := by
    rw [List.length_map, (sortStrs_perm _).length_eq, List.length_map]; unfold big; omega
  refine ⟨hl, w_lcMap (fun k : Str => decide (0 < (getL l k).getD 0)) (fun k => encP (k, (getL l k).getD 0)) rfl (fun k hm => ?_) ?_⟩
  · obtain ⟨g, hg⟩ := getL_mem ((sortStrs_perm _).mem_iff.mp hm)
    rw [hg]
    walk_at "w"
    refine hx hg ?_
    walk_at "w"
    refine br_d (fun h => ⟨decide_eq_true h, ?_⟩) fun h => ⟨decide_eq_false h, rfl⟩
    walk_at "w"
    refine hx hg ?_
    walk_at "w"
    exact ⟨rfl, rfl⟩
  · refine w_tufL rfl ?_
    walk_at "w"
    refine tr_same ?_ ⟨?_, rfl⟩
    · show locsLts _ _ = true
      refine locsLts_of fun x hx => ?_
      obtain ⟨k, _, rfl⟩ := List.mem_map.mp hx
      rfl
    · unfold loadOf
      rw [List.map_map]
      rfl
/-! ### dicts of kinds, changed -/
def putL (l : Ld) (k : Str) (g : Int) : Ld := putA l k g
def Nd (l : Ld) : Prop := (l.map Prod.fst).Nodup
theorem putA_map {κ κ' α β : Type} [DecidableEq κ] [DecidableEq κ'] (f : κ → κ') (hf : ∀ a b, f a = f b → a = b) (h : α → β) (l : List (κ × α)) (k : κ) (v : α) :
    putA (l.map fun p => (f p.1, h p.2)) (f k) (h v) = (putA l k v).map fun p => (f p.1, h p.2) := by
  unfold putA
  have e : ((l.map fun p => (f p.1, h p.2)).any fun kv => decide (kv.1 = f k)) = l.any fun kv => decide (kv.1 = k) := by
    induction l with
    | nil => rfl
    | cons p l ih =>
      rw [List.map_cons, List.any_cons, List.any_cons, ih]
      congr 1
      by_cases z : p.1 = k
      · simp [z]
      · simp only [z, decide_false]
        exact decide_eq_false fun q => z (hf _ _ q)
  rw [e]
  split
  · rw [List.map_map, List.map_map]
    refine List.map_congr_left fun p hp => ?_
    show (if f p.1 = f k then (f p.1, h v) else (f p.1, h p.2)) = (fun p : κ × α => (f p.1, h p.2)) (if p.1 = k then (p.1, v) else p)
    by_cases z : p.1 = k
    · rw [if_pos z, if_pos (by rw [z])]
    · rw [if_neg z, if_neg fun q => z (hf _ _ q)]
  · rw [List.map_append]
    rfl
theorem kvL_put (l : Ld) (k : Str) (g : Int) : putA (kvL l) (Sum.inr k) (D.int g) = kvL (putL l k g) :=
  putA_map (κ := Str) (κ' := Key) Sum.inr (fun a b h => Sum.inr.inj h) D.int l k g
theorem find_map {κ α : Type} [DecidableEq κ] (k k' : κ) (v : α) : ∀ l : List (κ × α), ((l.map fun (kv : κ × α) => if kv.1 = k then (kv.1, v) else kv).find? fun kv => decide (kv.1 = k')).map Prod.snd = if k' = k then (if (l.any fun kv => decide (kv.1 = k)) = true then some v else none) else (l.find? fun kv => decide (kv.1 = k')).map Prod.snd
  | [] => by by_cases h : k' = k <;> simp [h]
  | p :: l => by
    have ih := find_map k k' v l
    rw [List.map_cons, List.find?_cons, List.find?_cons, List.any_cons]
    by_cases h1 : p.1 = k
    · rw [if_pos h1]
      by_cases h2 : k' = k
      · have h3 : decide (p.1 = k') = true := decide_eq_true (h1.trans h2.symm)
        have h4 : decide (p.1 = k) = true := decide_eq_true h1
        rw [if_pos h2, h4]
        show (match decide (p.1 = k') with | true => some (p.1, v) | false => _).map Prod.snd = _
        rw [h3]
        rfl
      · have h3 : decide (p.1 = k') = false := decide_eq_false fun q => h2 (q.symm.trans h1)
        rw [if_neg h2] at ih ⊢
        show (match decide (p.1 = k') with | true => some (p.1, v) | false => (l.map fun (kv : κ × α) => if kv.1 = k then (kv.1, v) else kv).find? fun kv => decide (kv.1 = k')).map Prod.snd = _
        rw [h3]
        exact ih
    · rw [if_neg h1]
      have h4 : decide (p.1 = k) = false := decide_eq_false h1
      rw [h4, Bool.false_or]
      by_cases h2 : k' = k
      · have h3 : decide (p.1 = k') = false := decide_eq_false fun q => h1 (q.trans h2)
        rw [h3]
        exact ih
      · rw [if_neg h2] at ih ⊢
        cases h5 : decide (p.1 = k') with
        | true => rfl
        | false => exact ih
theorem getA_put {κ α : Type} [DecidableEq κ] (l : List (κ × α)) (k k' : κ) (v : α) : getA (putA l k v) k' = if k' = k then some v else getA l k' := by
  unfold putA
  by_cases ha : (l.any fun kv => decide (kv.1 = k)) = true
  · rw [if_pos ha]
    unfold getA
    rw [find_map, if_pos ha]
  · rw [if_neg ha]
    unfold getA
    rw [List.find?_append]
    by_cases hk : k' = k
    · subst hk
      rw [if_pos rfl]
      have : l.find? (fun kv => decide (kv.1 = k')) = none := by
        refine List.find?_eq_none.mpr fun p hp => ?_
        intro q
        exact ha (List.any_eq_true.mpr ⟨p, hp, q⟩)
      rw [this]
      simp
    · rw [if_neg hk]
      have : ([(k, v)] : List (κ × α)).find? (fun kv => decide (kv.1 = k')) = none := by simp [Ne.symm hk]
      rw [this, Option.or_none]
theorem getL_eq (l : Ld) (k : Str) : getL l k = getA l k := rfl
theorem getL_put (l : Ld) (k k' : Str) (g : Int) : getL (putL l k g) k' = if k' = k then some g else getL l k' := getA_put l k k' g
theorem keys_put {κ α : Type} [DecidableEq κ] (l : List (κ × α)) (k : κ) (v : α) : (putA l k v).map Prod.fst = if k ∈ l.map Prod.fst then l.map Prod.fst else l.map Prod.fst ++ [k] := by
  unfold putA
  by_cases ha : (l.any fun kv => decide (kv.1 = k)) = true
  · have : k ∈ l.map Prod.fst := by
      obtain ⟨p, hp, e⟩ := List.any_eq_true.mp ha
      exact List.mem_map.mpr ⟨p, hp, of_decide_eq_true e⟩
    rw [if_pos ha, if_pos this, List.map_map]
    refine List.map_congr_left fun p _ => ?_
    show (if p.1 = k then (p.1, v) else p).1 = p.1
    split <;> rfl
  · have : k ∉ l.map Prod.fst := fun h => by
      obtain ⟨p, hp, e⟩ := List.mem_map.mp h
      exact ha (List.any_eq_true.mpr ⟨p, hp, decide_eq_true e⟩)
    rw [if_neg ha, if_neg this, List.map_append]
    rfl
theorem nd_put {l : Ld} (h : Nd l) (k : Str) (g : Int) : Nd (putL l k g) := by
  unfold Nd putL at *
  rw [keys_put]
  split
  · exact h
  · rename_i hk
    exact List.nodup_append.mpr ⟨h, by simp, fun a ha b hb => by rw [List.mem_singleton.mp hb]; exact fun e => hk (by rw [← e]; exact ha)⟩
theorem putL_len (l : Ld) (k : Str) (g : Int) : (putL l k g).length ≤ l.length + 1 := putA_len l k g
theorem putL_len_in {l : Ld} {k : Str} (g : Int) (h : k ∈ l.map Prod.fst) : (putL l k g).map Prod.fst = l.map Prod.fst := by
  unfold putL
  rw [keys_put, if_pos h]
theorem mergeA_nodup {κ α : Type} [DecidableEq κ] : ∀ (more acc : List (κ × α)), ((acc ++ more).map Prod.fst).Nodup → mergeA acc more = acc ++ more
  | [], acc, _ => by unfold mergeA; rw [List.append_nil]; rfl
  | p :: more, acc, h => by
    have hk : p.1 ∉ acc.map Prod.fst := fun hm => by
      rw [List.map_append, List.map_cons] at h
      exact (List.nodup_append.mp h).2.2 _ hm _ List.mem_cons_self rfl
    have e : putA acc p.1 p.2 = acc ++ [p] := by
      unfold putA
      rw [if_neg fun ha => hk (by
        obtain ⟨q, hq, e⟩ := List.any_eq_true.mp ha
        exact List.mem_map.mpr ⟨q, hq, of_decide_eq_true e⟩)]
    show mergeA (putA acc p.1 p.2) more = _
    rw [e, mergeA_nodup more (acc ++ [p]) (by rw [List.append_assoc]; exact h), List.append_assoc]
    rfl
theorem mergeA_kvL {l : Ld} (h : Nd l) : mergeA [] (kvL l) = kvL l := by
  have := mergeA_nodup (kvL l) [] (by
    rw [List.nil_append, kvL_keys]
    exact List.Pairwise.map Sum.inr (fun a b h e => h (Sum.inr.inj e)) h)
  rwa [List.nil_append] at this
theorem zip_fs {α β : Type} : ∀ l : List (α × β), (l.map Prod.fst).zip (l.map Prod.snd) = l
  | [] => rfl
  | p :: l => by rw [List.map_cons, List.map_cons, List.zip_cons_cons, zip_fs l]
theorem items_kvL (l : Ld) : itemsD (((kvL l).map Prod.fst).zip ((kvL l).map Prod.snd)) = l.map encT := by
  rw [zip_fs]
  unfold itemsD kvL
  rw [List.map_map]
  rfl
theorem at0 {S T : Sto} {o : Ob} : (S ++ o :: T)[S.length]? = some o := by simp
theorem at1 {S T : Sto} {o p : Ob} : (S ++ o :: p :: T)[S.length + 1]? = some p := by simp
theorem at2 {S T : Sto} {o p q : Ob} : (S ++ o :: p :: q :: T)[S.length + 2]? = some q := by simp
theorem st0 {S T : Sto} {o o' : Ob} : (S ++ o :: T).set S.length o' = S ++ o' :: T := by simp
theorem st1 {S T : Sto} {o p p' : Ob} : (S ++ o :: p :: T).set (S.length + 1) p' = S ++ o :: p' :: T := by simp
theorem st2 {S T : Sto} {o p q q' : Ob} : (S ++ o :: p :: q :: T).set (S.length + 2) q' = S ++ o :: p :: q' :: T := by simp
theorem push2 {S : Sto} {o p : Ob} : (S ++ [o]) ++ [p] = S ++ [o, p] := by simp
theorem push3 {S : Sto} {o p q : Ob} : (S ++ [o, p]) ++ [q] = S ++ [o, p, q] := by simp
theorem len1 {S : Sto} {o : Ob} : (S ++ [o]).length = S.length + 1 := by simp
theorem len2 {S : Sto} {o p : Ob} : (S ++ [o, p]).length = S.length + 2 := by simp
theorem map_get {α β : Type} {f : α → β} {xs : List α} {i : Nat} {y : β} (h : (xs.map f)[i]? = some y) : ∃ x, xs[i]? = some x ∧ y = f x := by
  rw [List.getElem?_map] at h
  obtain ⟨x, h1, h2⟩ := Option.map_eq_some_iff.mp h
  exact ⟨x, h1, h2.symm⟩
theorem take_succ {α : Type} {xs : List α} {i : Nat} {x : α} (h : xs[i]? = some x) : xs.take (i + 1) = xs.take i ++ [x] := by
  rw [List.take_add_one, h]
  rfl
/-! ### together -/
def addL (l : Ld) (k : Str) (g : Int) : Ld := putL l k ((getL l k).getD 0 + g)
def sumL (l m : Ld) : Ld := m.foldl (fun t p => addL t p.1 p.2) l
def togF (l m : Ld) : Ld := loadOf (sumL l m)
theorem sumL_len (l : Ld) : ∀ m : Ld, (sumL l m).length ≤ l.length + m.length := by
  intro m
  induction m generalizing l with
  | nil => exact Nat.le_refl _
  | cons p m ih =>
    have := ih (addL l p.1 p.2)
    have h2 := putL_len l p.1 ((getL l p.1).getD 0 + p.2)
    show (sumL (addL l p.1 p.2) m).length ≤ _
    unfold addL at *
    rw [List.length_cons]
    omega
def LoadOfS (g : FnM) : Prop := ∀ (d : D) (l : Ld) (S : Sto), kOf (.val d) S = some (kvL l) → seqOf (.val d) S = none → (∀ z, d ≠ .str z) → l.length < 64 → g [d] S = .ok (.tuf ((loadOf l).map encP)) S
theorem loadOf_S (F : Str → FnM) : LoadOfS (runL 1 2 (b_load_of F)) := fun d l S h1 h2 h3 h4 => loadOf_eq F S h1 h2 h3 h4
theorem loadOf_lts (l : Ld) (n : Nat) : locsLt n (.tuf ((loadOf l).map encP)) = true := by
  show locsLts _ _ = true
  refine locsLts_of fun x hx => ?_
  obtain ⟨k, _, rfl⟩ := List.mem_map.mp hx
  rfl
theorem together_eq {F : Str → FnM} (LO : LoadOfS (F "load_of")) {ds es : List D} {o : D} {l m : Ld} (h1 : LR ds l) (h2 : LR es m) (ho : o = .tuf es ∨ o = .tup es) (hn : Nd l) (hz : l.length + m.length < 64) (S : Sto) :
    runL 2 5 (b_together F) [.tuf ds, o] S = .ok (.tuf ((togF l m).map encP)) S := by
  refine of_W (w_runL rfl ?_)
  unfold b_together
  walk_at "w"
  refine w_dictT (pairsOf_lr h1) ?_
  rw [show (l.map fun p => ((Sum.inr p.1 : Key), D.int p.2)) = kvL l from rfl, mergeA_kvL hn]
  obtain ⟨zs, rfl, rfl, hr⟩ := paired_zip h2
  have body : W (forGo [] (gTp 2 (gsCons (gNm 3) (gsCons (gNm 4) gsNil))) (sSeq (sAsg (eFzL (eBin addV (eGet2 (eNm 2) (eNm 3) (eC (.int 0))) (eNm 4))) (gSb setL (eNm 2) (eNm 3))) sNil) (zs.map Prod.fst) [some (.tuf ds), some o, some (.loc S.length), none, none] (S ++ [.dk (kvL l)]))
      fun fl S1 => ∃ e3 e4 : Option D, fl = .nx [some (.tuf ds), some o, some (.loc S.length), e3, e4] ∧ S1 = S ++ [.dk (kvL (sumL l (zs.map Prod.snd)))] := by
    refine w_forGo (fun i env S' => ∃ e3 e4 : Option D, env = [some (.tuf ds), some o, some (.loc S.length), e3, e4] ∧ S' = S ++ [.dk (kvL (sumL l ((zs.map Prod.snd).take i)))]) ⟨_, _, rfl, rfl⟩ ?_ ?_
    · rintro i x env S' hx ⟨e3, e4, rfl, rfl⟩
      refine ⟨gok_nil, ?_⟩
      obtain ⟨z, hz', rfl⟩ := map_get hx
      have hsl := sumL_len l ((zs.map Prod.snd).take i)
      have hti : ((zs.map Prod.snd).take i).length ≤ (zs.map Prod.snd).length := by rw [List.length_take]; omega
      have et : (zs.map Prod.snd).take (i + 1) = (zs.map Prod.snd).take i ++ [z.2] := take_succ (by rw [List.getElem?_map, hz']; rfl)
      have hkl : (kvL (sumL l ((zs.map Prod.snd).take i))).length < big := by unfold kvL; rw [List.length_map]; unfold big; omega
      have eg : ((getL (sumL l ((zs.map Prod.snd).take i)) z.2.1).map D.int).getD (.int 0) = .int ((getL (sumL l ((zs.map Prod.snd).take i)) z.2.1).getD 0) := by
        cases getL (sumL l ((zs.map Prod.snd).take i)) z.2.1 <;> rfl
      rcases hr z (List.mem_of_getElem? hz') with e | e
      all_goals
        rw [e]
        walk_at "w"
        refine dv_q (k_loc at0) ?_
        walk_at "w"
        refine gt2_k (k_loc at0) (k := Sum.inr z.2.1) rfl ?_
        rw [getA_kvL, eg]
        walk_at "w"
        refine w_setD (k := Sum.inr z.2.1) at0 rfl hkl ?_
        walk_at "w"
        refine ⟨_, _, rfl, ?_⟩
        rw [st0, kvL_put, et]
        unfold sumL
        rw [List.foldl_append]
        rfl
    · rintro env S' ⟨e3, e4, rfl, rfl⟩
      refine ⟨gok_nil, e3, e4, rfl, ?_⟩
      rw [List.length_map, List.take_of_length_le (by rw [List.length_map]; exact Nat.le_refl _)]
  have rest : ∀ e3 e4 : Option D, W (sSeq (sRet (eFzL (eCall (F "load_of") (aCons (eFz (eNm 2)) aNil)))) sNil [some (.tuf ds), some o, some (.loc S.length), e3, e4] (S ++ [.dk (kvL (sumL l (zs.map Prod.snd)))]))
      (FinQ fun d S1 => W (trunc S (.ok d S1)) fun d S' => d = .tuf ((togF l (zs.map Prod.snd)).map encP) ∧ S' = S) := fun e3 e4 => by
    have := sumL_len l (zs.map Prod.snd)
    walk_at "w"
    refine w_pure (LO _ _ _ (k_loc at0) (seq_dk at0) (fun z e => nomatch e) (by omega)) ?_
    walk_at "w"
    exact tr_pure (loadOf_lts _ _) ⟨rfl, rfl⟩
  rcases ho with rfl | rfl
  · walk_at "w"
    refine body.imp fun fl S1 ⟨e3, e4, h3, h4⟩ => ?_
    subst h3 h4
    exact rest e3 e4
  · walk_at "w"
    refine body.imp fun fl S1 ⟨e3, e4, h3, h4⟩ => ?_
    subst h3 h4
    exact rest e3 e4
end Bz

set_option Elab.async false
set_option linter.all false
set_option maxRecDepth 100000
set_option maxHeartbeats 4000000
/-! Bz: loads. -/
namespace Bz
open PySem PySem.Spec PyProof.Rows L2
local macro_rules | `(tactic| walk_at "w") => `(tactic| repeat (first
  | with_reducible refine w_sSeq ?_ | with_reducible refine w_sIf ?_ | with_reducible refine w_sAsg ?_ | with_reducible refine w_sRet ?_ | with_reducible refine w_sNil ?_ | with_reducible refine w_sExpr ?_
  | with_reducible refine w_sFor ?_ | with_reducible refine w_asB ?_ | with_reducible refine w_tru ?_ | with_reducible refine w_tsAnd ?_ | with_reducible refine w_tsOr ?_ | with_reducible refine w_tsNot ?_
  | with_reducible refine w_tsYes ?_ | with_reducible refine w_and ?_ | with_reducible refine w_or ?_ | with_reducible refine w_not ?_ | with_reducible refine w_eIf ?_ | with_reducible refine w_bin ?_
  | with_reducible refine w_un ?_ | with_reducible refine w_chain ?_ | with_reducible refine w_nm rfl ?_ | with_reducible refine w_c ?_ | with_reducible refine w_stlV ?_ | with_reducible refine w_stlN ?_
  | with_reducible refine w_stlK ?_ | with_reducible refine w_stlT ?_ | with_reducible refine w_aNil ?_ | with_reducible refine w_aCons ?_ | with_reducible refine w_fz ?_ | with_reducible refine fz_v ?_
  | with_reducible refine fz_n ?_ | with_reducible refine fz_k ?_ | with_reducible refine fz_t ?_ | with_reducible refine w_fzL ?_ | with_reducible refine fl_d rfl ?_ | with_reducible refine fl_n ?_
  | with_reducible refine fl_k ?_ | with_reducible refine fl_t ?_ | with_reducible refine w_eTup ?_ | with_reducible refine w_eTuf ?_ | with_reducible refine w_eLst ?_ | with_reducible refine w_dnK ?_
  | with_reducible refine w_dnT ?_ | with_reducible refine w_call ?_ | with_reducible refine w_eSl ?_ | with_reducible refine w_ptNo ?_ | with_reducible refine w_ptI ?_ | with_reducible refine w_m1 ?_
  | with_reducible refine w_m2 ?_ | with_reducible refine w_get1 ?_ | with_reducible refine w_get2 ?_ | with_reducible refine w_eLc ?_ | with_reducible refine w_eDc ?_ | with_reducible refine dl_q (Nat.le_of_ble_eq_true rfl) ?_
  | with_reducible refine int_q ?_ | with_reducible refine as_q ?_ | with_reducible refine ty_q (ty_loc (by assumption)) ?_ | with_reducible refine sq_nx ?_ | with_reducible refine sq_rt ?_ | with_reducible refine sq_bk ?_
  | with_reducible refine sq_ct ?_ | with_reducible refine fq_rt ?_ | with_reducible refine fq_nx ?_ | with_reducible refine tq_nx ?_ | with_reducible refine tq_ct ?_ | with_reducible refine tq_bk ?_
  | with_reducible refine tq_rt ?_ | with_reducible refine w_srBB ?_ | with_reducible refine bq_tup ?_ | with_reducible refine bq_tuf ?_ | with_reducible refine bq_rol ?_ | with_reducible refine bq_str ?_
  | with_reducible refine bq_rod ?_ | with_reducible refine bq_loc (by assumption) ?_ | with_reducible refine w_srR1 ?_ | with_reducible refine w_srR2 ?_ | with_reducible refine w_srZB ?_ | with_reducible refine w_srItems ?_
  | with_reducible refine w_srVals ?_ | with_reducible refine w_srEn ?_ | with_reducible refine w_addI ?_ | with_reducible refine w_subI ?_ | with_reducible refine w_mulI (by omega) ?_ | with_reducible refine w_divI (by omega) (by omega) ?_
  | with_reducible refine w_modI (by first | omega | decide +kernel) ?_ | with_reducible refine w_powI rfl ?_ | with_reducible refine w_neg ?_ | with_reducible refine w_iaddI ?_ | with_reducible refine w_max ?_ | with_reducible refine w_min ?_
  | with_reducible refine w_abs ?_ | with_reducible refine w_gtI ?_ | with_reducible refine w_ltI ?_ | with_reducible refine w_leI ?_ | with_reducible refine w_geI ?_ | with_reducible refine w_eqI ?_
  | with_reducible refine w_neI ?_ | with_reducible refine w_eqS ?_ | with_reducible refine w_neS ?_ | with_reducible refine w_ixT rfl ?_ | with_reducible refine w_ixR rfl ?_ | with_reducible refine w_ixF rfl ?_
  | with_reducible refine w_ixL (by assumption) rfl ?_ | with_reducible refine w_len (seq_loc (by assumption)) ?_ | with_reducible refine w_len rfl ?_ | with_reducible refine w_gNm (Nat.le_of_ble_eq_true rfl) ?_ | with_reducible refine w_gSb ?_ | with_reducible refine w_gTp rfl ?_
  | with_reducible refine w_gTf rfl ?_ | with_reducible refine w_gsCons ?_ | with_reducible refine w_gsNil ?_ | with_reducible refine w_sPar2 ?_ | with_reducible refine w_sPar3 ?_ | with_reducible refine w_sAug rfl ?_
  | with_reducible refine w_sAugD ?_ | with_reducible refine br_n ?_ | with_reducible refine br_t ?_ | with_reducible refine br_f ?_))
/-! ### sorted_by -/
abbrev Ln := List (Str × Ld)
def StepR (d : D) (s : Str × Ld) : Prop := ∃ es, LR es s.2 ∧ (d = .tup [.str s.1, .tuf es] ∨ d = .tuf [.str s.1, .tuf es])
def LineR (ds : List D) (l : Ln) : Prop := Paired StepR ds l
def encRow (r : Str × Ld) : D := .tuf [.str r.1, .tuf (r.2.map encP)]
/-- shares as they may stand -/
def ShOk (l : Ld) : Prop := Nd l ∧ l.length < 64 ∧ ∀ p ∈ l, 0 ≤ p.2 ∧ p.2 ≤ 1000000
def tkT (left sh : Ld) : Ld := (sh.filter fun p => (getL left p.1).isSome).map fun p => (p.1, (getL left p.1).getD 0 * p.2 / 1000)
def subL (l : Ld) (k : Str) (g : Int) : Ld := putL l k ((getL l k).getD 0 - g)
def subsL (l m : Ld) : Ld := m.foldl (fun t p => subL t p.1 p.2) l
def tkL (left sh : Ld) : Ld := subsL left (tkT left sh)
def stepG (st : Ln × Ld) (s : Str × Ld) : Ln × Ld := (st.1 ++ [(s.1, loadOf (tkT st.2 s.2))], tkL st.2 s.2)
def goG (l : Ld) (line : Ln) : Ln × Ld := line.foldl stepG ([], l)
def sortF (line : Ln) (l : Ld) : Ln := (goG l line).1 ++ [(("rest" : Str), loadOf (goG l line).2)]
theorem tkT_nd {left sh : Ld} (h : Nd sh) : Nd (tkT left sh) := by
  unfold tkT Nd at *
  rw [List.map_map]
  show ((sh.filter fun p => (getL left p.1).isSome).map Prod.fst).Nodup
  exact (List.filter_sublist.map Prod.fst).nodup h
theorem tkT_len (left sh : Ld) : (tkT left sh).length ≤ sh.length := by
  unfold tkT
  rw [List.length_map]
  exact List.length_filter_le _ _
theorem tkT_mem {left sh : Ld} {p : Str × Int} (h : p ∈ tkT left sh) : p.1 ∈ left.map Prod.fst := by
  unfold tkT at h
  obtain ⟨q, hq, rfl⟩ := List.mem_map.mp h
  obtain ⟨g, hg⟩ := Option.isSome_iff_exists.mp (List.mem_filter.mp hq).2
  unfold getL at hg
  obtain ⟨r, hr, _⟩ := Option.map_eq_some_iff.mp hg
  have h2 := List.find?_some hr
  exact List.mem_map.mpr ⟨r, List.mem_of_find?_eq_some hr, of_decide_eq_true h2⟩
theorem subsL_keys : ∀ (m l : Ld), (∀ p ∈ m, p.1 ∈ l.map Prod.fst) → (subsL l m).map Prod.fst = l.map Prod.fst
  | [], _, _ => rfl
  | p :: m, l, h => by
    have e := putL_len_in ((getL l p.1).getD 0 - p.2) (h p List.mem_cons_self)
    show (subsL (subL l p.1 p.2) m).map Prod.fst = _
    rw [subsL_keys m _ fun q hq => by unfold subL; rw [e]; exact h q (List.mem_cons_of_mem _ hq)]
    exact e
theorem tkL_keys (left sh : Ld) : (tkL left sh).map Prod.fst = left.map Prod.fst := subsL_keys _ _ fun p hp => tkT_mem hp
theorem goG_app (l : Ld) (a b : Ln) : goG l (a ++ b) = b.foldl stepG (goG l a) := List.foldl_append
theorem goG_keys (l : Ld) : ∀ (line : Ln) (r : Ln), (line.foldl stepG (r, l)).2.map Prod.fst = l.map Prod.fst := by
  intro line
  induction line generalizing l with
  | nil => intro r; rfl
  | cons s line ih =>
    intro r
    have := ih (tkL l s.2) (r ++ [(s.1, loadOf (tkT l s.2))])
    rw [tkL_keys] at this
    exact this
theorem goG_left_len (l : Ld) (line : Ln) : (goG l line).2.length = l.length := by
  have := congrArg List.length (goG_keys l line [])
  rwa [List.length_map, List.length_map] at this
theorem goG_rows_len (l : Ld) (line : Ln) : (goG l line).1.length = line.length := by
  suffices h : ∀ (line : Ln) (st : Ln × Ld), (line.foldl stepG st).1.length = st.1.length + line.length by
    have := h line ([], l); rw [List.length_nil, Nat.zero_add] at this; exact this
  intro line
  induction line with
  | nil => intro st; rfl
  | cons s line ih =>
    intro st
    have := ih (stepG st s)
    show ((line.foldl stepG (stepG st s)).1).length = _
    rw [this]
    show (st.1 ++ [_]).length + _ = _
    rw [List.length_append, List.length_cons, List.length_cons, List.length_nil]
    omega
theorem rows_lts (n : Nat) (rows : Ln) : locsLts n (rows.map encRow) = true := locsLts_of fun x hx => by
  obtain ⟨r, _, rfl⟩ := List.mem_map.mp hx
  show (true && ((locsLt n (.tuf (r.2.map encP))) && true)) = true
  have : locsLt n (.tuf (r.2.map encP)) = true := locsLts_of fun x hx => by
    obtain ⟨k, _, rfl⟩ := List.mem_map.mp hx
    rfl
  rw [this]
  rfl
theorem sorted_by_eq {F : Str → FnM} (LO : LoadOfS (F "load_of")) {ds es : List D} {o : D} {l : Ld} {line : Ln} (h1 : LR ds l) (h2 : LineR es line) (ho : o = .tuf es ∨ o = .tup es) (hn : Nd l) (hz : l.length < 64) (hl : line.length < 1000) (hs : ∀ s ∈ line, ShOk s.2) (S : Sto) :
    runL 2 10 (b_sorted_by F) [o, .tuf ds] S = .ok (.rol ((sortF line l).map encRow)) S := by
  refine of_W (w_runL rfl ?_)
  unfold b_sorted_by
  walk_at "w"
  refine w_dictT (pairsOf_lr h1) ?_
  rw [show (l.map fun p => ((Sum.inr p.1 : Key), D.int p.2)) = kvL l from rfl, mergeA_kvL hn]
  walk_at "w"
  rw [push2, len1]
  obtain ⟨zs, rfl, rfl, hr⟩ := paired_zip h2
  have key : ∀ (ds' : List D), ds' = zs.map Prod.fst → W (forGo [] (gTp 2 (gsCons (gNm 4) (gsCons (gNm 5) gsNil)))
 (sSeq (sAsg (eFz (eDc [7, 8] (srB (eFz (eNm 5))) (gTp 2 (gsCons (gNm 7) (gsCons (gNm 8) gsNil))) (asB (eBin inV' (eNm 7) (eNm 2))) (eFz (eNm 7)) (eFz (eBin divV (eBin mulV (eBin ixV (eNm 2) (eNm 7)) (eNm 8)) (eC (.int 1000)))))) (gNm 6))
 (sSeq (sFor (srItems (eFz (eNm 6))) (gTp 2 (gsCons (gNm 7) (gsCons (gNm 9) gsNil)))
 (sSeq (sAugD subV (eNm 2) (eNm 7) (eNm 9))
 sNil))
 (sSeq (sExpr (eM1 .list mApp1 (eNm 3) (eFzL (eTuf (aCons (eFzL (eNm 4)) (aCons (eFzL (eCall (F "load_of") (aCons (eFz (eNm 6)) aNil))) aNil))))))
 sNil))) ds' [some o, some (.tuf ds), some (.loc S.length), some (.loc (S.length + 1)), none, none, none, none, none, none] (S ++ [.dk (kvL l), .lst []]))
      fun fl S1 => ∃ e4 e5 e6 e7 e8 e9 : Option D, fl = .nx [some o, some (.tuf ds), some (.loc S.length), some (.loc (S.length + 1)), e4, e5, e6, e7, e8, e9] ∧ S1 = S ++ [.dk (kvL (goG l (zs.map Prod.snd)).2), .lst ((goG l (zs.map Prod.snd)).1.map encRow)] := by
    intro ds' hds
    subst hds
    refine w_forGo (fun i env S' => ∃ e4 e5 e6 e7 e8 e9 : Option D, env = [some o, some (.tuf ds), some (.loc S.length), some (.loc (S.length + 1)), e4, e5, e6, e7, e8, e9] ∧ S' = S ++ [.dk (kvL (goG l ((zs.map Prod.snd).take i)).2), .lst ((goG l ((zs.map Prod.snd).take i)).1.map encRow)]) ⟨_, _, _, _, _, _, rfl, rfl⟩ ?_ ?_
    · rintro i x env S' hx ⟨e4, e5, e6, e7, e8, e9, rfl, rfl⟩
      refine ⟨gok_nil, ?_⟩
      obtain ⟨z, hz', rfl⟩ := map_get hx
      have hzm := List.mem_of_getElem? hz'
      have et : (zs.map Prod.snd).take (i + 1) = (zs.map Prod.snd).take i ++ [z.2] := take_succ (by rw [List.getElem?_map, hz']; rfl)
      obtain ⟨hsn, hsl, hsb⟩ := hs z.2 (List.mem_map_of_mem hzm)
      have hleft := goG_left_len l ((zs.map Prod.snd).take i)
      have hrows := goG_rows_len l ((zs.map Prod.snd).take i)
      have hti : ((zs.map Prod.snd).take i).length ≤ (zs.map Prod.snd).length := by rw [List.length_take]; omega
      generalize hst : goG l ((zs.map Prod.snd).take i) = st at hleft hrows ⊢
      have enext : goG l ((zs.map Prod.snd).take (i + 1)) = stepG st z.2 := by rw [et, goG_app, hst]; rfl
      obtain ⟨sh, hsh, he⟩ := hr z hzm
      obtain ⟨ys, rfl, hy2, hyr⟩ := paired_zip hsh
      have hyl : ys.length < 64 := by have := congrArg List.length hy2; rw [List.length_map] at this; omega
      rcases he with e | e
      all_goals
        rw [e]
        walk_at "w"
        refine ⟨by rw [List.length_map]; unfold big; omega, ?_⟩
        refine w_dcMap (fun y : D × (Str × Int) => (getL st.2 y.2.1).isSome) (fun y => (Sum.inr y.2.1, .int ((getL st.2 y.2.1).getD 0 * y.2.2 / 1000))) rfl (fun y hy => ?_) ?_
        · have hyb := hsb y.2 (by rw [hy2]; exact List.mem_map_of_mem hy)
          rcases hyr y hy with e | e
          all_goals
            rw [e]
            walk_at "w"
            refine w_in (in_dkl at0 (k := Sum.inr y.2.1) rfl) ?_
            walk_at "w"
            rw [getA_kvL]
            refine br_b (fun h => ?_) fun h => ?_
            · rw [Option.isSome_map] at h
              obtain ⟨g, hg⟩ := Option.isSome_iff_exists.mp h
              refine ⟨h, ?_⟩
              walk_at "w"
              refine ⟨rfl, ?_⟩
              walk_at "w"
              refine w_ixDl at0 (k := Sum.inr y.2.1) rfl (by rw [getA_kvL, hg]; rfl) ?_
              walk_at "w"
              refine ⟨?_, rfl⟩
              rw [hg]
              rfl
            · rw [Option.isSome_map] at h
              exact ⟨h, rfl⟩
        · have em : (ys.filter fun y : D × (Str × Int) => (getL st.2 y.2.1).isSome).map (fun y => ((Sum.inr y.2.1 : Key), D.int ((getL st.2 y.2.1).getD 0 * y.2.2 / 1000))) = kvL (tkT st.2 z.2.2) := by
            unfold kvL tkT
            rw [hy2, List.filter_map, List.map_map, List.map_map]
            rfl
          rw [em, mergeA_kvL (tkT_nd hsn)]
          have hT := tkT_len st.2 z.2.2
          have hTm : ∀ p ∈ tkT st.2 z.2.2, p.1 ∈ st.2.map Prod.fst := fun p hp => tkT_mem hp
          have eL : tkL st.2 z.2.2 = subsL st.2 (tkT st.2 z.2.2) := rfl
          have eG : stepG st z.2 = (st.1 ++ [(z.2.1, loadOf (tkT st.2 z.2.2))], subsL st.2 (tkT st.2 z.2.2)) := rfl
          generalize hTT : tkT st.2 z.2.2 = T at hT hTm eL eG ⊢
          walk_at "w"
          refine ⟨_, _, rfl, ?_⟩
          rw [items_kvL]
          refine w_forGo (fun j env S' => ∃ e7 e9 : Option D, env = [some o, some (.tuf ds), some (.loc S.length), some (.loc (S.length + 1)), some (.str z.2.1), some (.tuf (ys.map Prod.fst)), some (.rod ((kvL T).map Prod.fst) ((kvL T).map Prod.snd)), e7, e8, e9] ∧ S' = S ++ [.dk (kvL (subsL st.2 (T.take j))), .lst (st.1.map encRow)]) ⟨_, _, rfl, rfl⟩ ?_ ?_
          · rintro j x env S' hx ⟨e7, e9, rfl, rfl⟩
            refine ⟨gok_nil, ?_⟩
            obtain ⟨p, hp, rfl⟩ := map_get hx
            have hpm := List.mem_of_getElem? hp
            have etj := take_succ hp
            have hkeys := subsL_keys (T.take j) st.2 fun q hq => hTm q (List.mem_of_mem_take hq)
            obtain ⟨g, hg⟩ := getL_mem (l := subsL st.2 (T.take j)) (k := p.1) (by rw [hkeys]; exact hTm p hpm)
            have hlen : (kvL (subsL st.2 (T.take j))).length < big := by
              have := congrArg List.length hkeys
              rw [List.length_map, List.length_map] at this
              unfold kvL
              rw [List.length_map]
              unfold big
              omega
            unfold encT
            walk_at "w"
            refine ⟨_, rfl, ?_⟩
            refine w_getR (k_loc at0) (k := Sum.inr p.1) rfl (by rw [getA_kvL, hg]; rfl) ?_
            walk_at "w"
            refine ⟨_, put_dk at0 (k := Sum.inr p.1) rfl hlen, ?_⟩
            walk_at "w"
            refine ⟨_, _, rfl, ?_⟩
            rw [st0, kvL_put, etj]
            have : subsL st.2 (T.take j ++ [p]) = subL (subsL st.2 (T.take j)) p.1 p.2 := by unfold subsL; rw [List.foldl_append]; rfl
            rw [this]
            unfold subL
            rw [hg]
            rfl
          · rintro env S' ⟨e7, e9, rfl, rfl⟩
            refine ⟨gok_nil, ?_⟩
            rw [List.length_map, List.take_length]
            have hlst : (S ++ [Ob.dk (kvL (subsL st.2 T)), .lst (st.1.map encRow)])[S.length + 1]? = some (.lst (st.1.map encRow)) := at1
            walk_at "w"
            refine w_pure (LO _ T _ (by show some (List.zip _ _) = _; rw [zip_fs]) rfl (fun z e => nomatch e) (by omega)) ?_
            walk_at "w"
            refine w_append hlst (by rw [List.length_map, hrows]; unfold big; omega) ?_
            walk_at "w"
            refine ⟨_, _, _, _, _, _, rfl, ?_⟩
            rw [st1, enext, eG, List.map_append]
            rfl
    · rintro env S' ⟨e4, e5, e6, e7, e8, e9, rfl, rfl⟩
      refine ⟨gok_nil, _, _, _, _, _, _, rfl, ?_⟩
      rw [List.length_map, List.take_of_length_le (by rw [List.length_map]; exact Nat.le_refl _)]
  have hlenz : (zs.map Prod.snd).length < 1000 := hl
  rcases ho with rfl | rfl
  all_goals
    walk_at "w"
    refine (key _ rfl).imp fun fl S1 ⟨e4, e5, e6, e7, e8, e9, h3, h4⟩ => ?_
    subst h3 h4
    have hll := goG_left_len l (zs.map Prod.snd)
    have hrl := goG_rows_len l (zs.map Prod.snd)
    walk_at "w"
    refine w_pure (LO _ (goG l (zs.map Prod.snd)).2 _ (k_loc at0) (seq_dk at0) (fun z e => nomatch e) (by omega)) ?_
    walk_at "w"
    refine w_catL (lrd_loc at1) rfl (by rw [List.length_map, hrl, List.length_singleton]; unfold big; omega) ?_
    walk_at "w"
    have efin : (goG l (zs.map Prod.snd)).1.map encRow ++ [.tuf [.str "rest", .tuf ((loadOf (goG l (zs.map Prod.snd)).2).map encP)]] = (sortF (zs.map Prod.snd) l).map encRow := by
      unfold sortF
      rw [List.map_append]
      rfl
    rw [efin]
    exact tr_pure (rows_lts _ _) ⟨rfl, rfl⟩
end Bz

set_option Elab.async false
set_option linter.all false
set_option maxRecDepth 100000
set_option maxHeartbeats 4000000
/-! Bz: loads. -/
namespace Bz
open PySem PySem.Spec PyProof.Rows L2
local macro_rules | `(tactic| walk_at "w") => `(tactic| repeat (first
  | with_reducible refine w_sSeq ?_ | with_reducible refine w_sIf ?_ | with_reducible refine w_sAsg ?_ | with_reducible refine w_sRet ?_ | with_reducible refine w_sNil ?_ | with_reducible refine w_sExpr ?_
  | with_reducible refine w_sFor ?_ | with_reducible refine w_asB ?_ | with_reducible refine w_tru ?_ | with_reducible refine w_tsAnd ?_ | with_reducible refine w_tsOr ?_ | with_reducible refine w_tsNot ?_
  | with_reducible refine w_tsYes ?_ | with_reducible refine w_and ?_ | with_reducible refine w_or ?_ | with_reducible refine w_not ?_ | with_reducible refine w_eIf ?_ | with_reducible refine w_bin ?_
  | with_reducible refine w_un ?_ | with_reducible refine w_chain ?_ | with_reducible refine w_nm rfl ?_ | with_reducible refine w_c ?_ | with_reducible refine w_stlV ?_ | with_reducible refine w_stlN ?_
  | with_reducible refine w_stlK ?_ | with_reducible refine w_stlT ?_ | with_reducible refine w_aNil ?_ | with_reducible refine w_aCons ?_ | with_reducible refine w_fz ?_ | with_reducible refine fz_v ?_
  | with_reducible refine fz_n ?_ | with_reducible refine fz_k ?_ | with_reducible refine fz_t ?_ | with_reducible refine w_fzL ?_ | with_reducible refine fl_d rfl ?_ | with_reducible refine fl_n ?_
  | with_reducible refine fl_k ?_ | with_reducible refine fl_t ?_ | with_reducible refine w_eTup ?_ | with_reducible refine w_eTuf ?_ | with_reducible refine w_eLst ?_ | with_reducible refine w_dnK ?_
  | with_reducible refine w_dnT ?_ | with_reducible refine w_call ?_ | with_reducible refine w_eSl ?_ | with_reducible refine w_ptNo ?_ | with_reducible refine w_ptI ?_ | with_reducible refine w_m1 ?_
  | with_reducible refine w_m2 ?_ | with_reducible refine w_get1 ?_ | with_reducible refine w_get2 ?_ | with_reducible refine w_eLc ?_ | with_reducible refine w_eDc ?_ | with_reducible refine dl_q (Nat.le_of_ble_eq_true rfl) ?_
  | with_reducible refine int_q ?_ | with_reducible refine as_q ?_ | with_reducible refine ty_q (ty_loc (by assumption)) ?_ | with_reducible refine sq_nx ?_ | with_reducible refine sq_rt ?_ | with_reducible refine sq_bk ?_
  | with_reducible refine sq_ct ?_ | with_reducible refine fq_rt ?_ | with_reducible refine fq_nx ?_ | with_reducible refine tq_nx ?_ | with_reducible refine tq_ct ?_ | with_reducible refine tq_bk ?_
  | with_reducible refine tq_rt ?_ | with_reducible refine w_srBB ?_ | with_reducible refine bq_tup ?_ | with_reducible refine bq_tuf ?_ | with_reducible refine bq_rol ?_ | with_reducible refine bq_str ?_
  | with_reducible refine bq_rod ?_ | with_reducible refine bq_loc (by assumption) ?_ | with_reducible refine w_srR1 ?_ | with_reducible refine w_srR2 ?_ | with_reducible refine w_srZB ?_ | with_reducible refine w_srItems ?_
  | with_reducible refine w_srVals ?_ | with_reducible refine w_srEn ?_ | with_reducible refine w_addI ?_ | with_reducible refine w_subI ?_ | with_reducible refine w_mulI (by omega) ?_ | with_reducible refine w_divI (by omega) (by omega) ?_
  | with_reducible refine w_modI (by first | omega | decide +kernel) ?_ | with_reducible refine w_powI rfl ?_ | with_reducible refine w_neg ?_ | with_reducible refine w_iaddI ?_ | with_reducible refine w_max ?_ | with_reducible refine w_min ?_
  | with_reducible refine w_abs ?_ | with_reducible refine w_gtI ?_ | with_reducible refine w_ltI ?_ | with_reducible refine w_leI ?_ | with_reducible refine w_geI ?_ | with_reducible refine w_eqI ?_
  | with_reducible refine w_neI ?_ | with_reducible refine w_eqS ?_ | with_reducible refine w_neS ?_ | with_reducible refine w_ixT rfl ?_ | with_reducible refine w_ixR rfl ?_ | with_reducible refine w_ixF rfl ?_
  | with_reducible refine w_ixL (by assumption) rfl ?_ | with_reducible refine w_len (seq_loc (by assumption)) ?_ | with_reducible refine w_len rfl ?_ | with_reducible refine w_gNm (Nat.le_of_ble_eq_true rfl) ?_ | with_reducible refine w_gSb ?_ | with_reducible refine w_gTp rfl ?_
  | with_reducible refine w_gTf rfl ?_ | with_reducible refine w_gsCons ?_ | with_reducible refine w_gsNil ?_ | with_reducible refine w_sPar2 ?_ | with_reducible refine w_sPar3 ?_ | with_reducible refine w_sAug rfl ?_
  | with_reducible refine w_sAugD ?_ | with_reducible refine br_n ?_ | with_reducible refine br_t ?_ | with_reducible refine br_f ?_))
/-! ### pairs in order -/
open PySem.W in
def pPair (p : Str × Int) : PyData := .tuple [.str p.1, .int p.2]
def ltT (a b : Str) : Prop := a.cps.toList < b.cps.toList
instance (a b : Str) : Decidable (ltT a b) := inferInstanceAs (Decidable (a.cps.toList < b.cps.toList))
theorem ltT_trans {a b c : Str} (h1 : ltT a b) (h2 : ltT b c) : ltT a c := List.lt_trans h1 h2
theorem ltT_irrefl (a : Str) : ¬ ltT a a := List.lt_irrefl _
theorem ltT_asymm {a b : Str} (h : ltT a b) : ¬ ltT b a := fun h2 => ltT_irrefl a (ltT_trans h h2)
theorem ltT_tri (a b : Str) : ltT a b ∨ a = b ∨ ltT b a := by
  rcases List.le_total a.cps.toList b.cps.toList with h | h
  · by_cases e : a = b
    · exact .inr (.inl e)
    · refine .inl (Classical.byContradiction fun z => e ?_)
      exact str_ext (List.le_antisymm h (List.not_lt.mp z))
  · by_cases e : a = b
    · exact .inr (.inl e)
    · refine .inr (.inr (Classical.byContradiction fun z => e ?_))
      exact str_ext (List.le_antisymm (List.not_lt.mp z) h)
/-- rising by names -/
def Ris (l : Ld) : Prop := l.Pairwise fun a b => ltT a.1 b.1
theorem ltT_ne {a b : Str} (h : ltT a b) : a ≠ b := fun e => ltT_irrefl b (by rw [e] at h; exact h)
theorem Ris.nd {l : Ld} (h : Ris l) : Nd l := List.pairwise_map.mpr (List.Pairwise.imp (R := fun a b : Str × Int => ltT a.1 b.1) (S := fun a b => a.1 ≠ b.1) (fun q => ltT_ne q) h)
theorem ris_one {l m : Ld} (hp : l.Perm m) (h1 : Ris l) (h2 : Ris m) : l = m := hp.eq_of_pairwise (fun a b _ _ x y => absurd y (ltT_asymm x)) h1 h2
theorem dataLt_pP (a b : Str × Int) : PySem.W.dataLt (pPair a) (pPair b) = if a.1 = b.1 then decide (a.2 < b.2) else decide (ltT a.1 b.1) := by
  unfold pPair
  rw [PySem.W.dataLt_pair (by simp [PySem.W.alike]) (by simp [PySem.W.alike]), PySem.W.dataLt_str, PySem.W.dataLt_int]
  simp only [PyData.eqv, beq_iff_eq]
  by_cases h : a.1 = b.1
  · rw [if_pos h, if_pos h]
    by_cases h2 : a.2 = b.2
    · rw [if_pos h2, h2]
      exact (decide_eq_false (Int.lt_irrefl _)).symm
    · rw [if_neg h2]
  · rw [if_neg h, if_neg h]
    rfl
def sortL (l : Ld) : Ld := sortBy l (l.map pPair)
theorem zip_map_r {α β : Type} (f : α → β) : ∀ l : List α, l.zip (l.map f) = l.map fun x => (x, f x)
  | [] => rfl
  | x :: l => by rw [List.map_cons, List.zip_cons_cons, zip_map_r f l]; rfl
theorem sortBy_perm {α : Type} (l : List α) (f : α → PyData) : (sortBy l (l.map f)).Perm l := by
  unfold sortBy
  refine ((List.mergeSort_perm _ _).map Prod.fst).trans ?_
  rw [zip_map_r, List.map_map]
  rw [show ((Prod.fst : α × PyData → α) ∘ fun x => (x, f x)) = id from rfl, List.map_id]
open PySem.W in
theorem sortBy_pw {α : Type} (l : List α) (f : α → PyData) : (sortBy l (l.map f)).Pairwise fun a b => PySem.W.dataLt (f b) (f a) = false := by
  unfold sortBy
  have h := PySem.W.sort_pairwise (le := PySem.W.dataLe false Prod.snd) (PySem.W.sortLe_total (listOrd itemOrd) false fun b : α × PyData => PySem.W.keyToks b.2) (l.zip (l.map f))
  refine List.pairwise_map.mpr (List.Pairwise.imp_of_mem (fun {a b} ha hb hab => ?_) h)
  have mem : ∀ z, z ∈ (l.zip (l.map f)).mergeSort (PySem.W.dataLe false Prod.snd) → z.2 = f z.1 := fun z hz => by
    have := (List.mergeSort_perm _ _).mem_iff.mp hz
    rw [zip_map_r] at this
    obtain ⟨x, _, rfl⟩ := List.mem_map.mp this
    rfl
  have ea := mem a ha
  have eb := mem b hb
  have hab : (!PySem.W.dataLt b.2 a.2) = true := hab
  rw [← ea, ← eb]
  simpa using hab
theorem sortL_perm (l : Ld) : (sortL l).Perm l := sortBy_perm l pPair
theorem sortL_ris {l : Ld} (h : Nd l) : Ris (sortL l) := by
  have hn : Nd (sortL l) := ((sortL_perm l).map Prod.fst).nodup_iff.mpr h
  have h2 := sortBy_pw l pPair
  have hn : (sortL l).Pairwise fun a b => a.1 ≠ b.1 := List.pairwise_map.mp hn
  refine (hn.and h2).imp fun {a b} ⟨n, q⟩ => ?_
  rw [dataLt_pP, if_neg (Ne.symm n)] at q
  rcases ltT_tri a.1 b.1 with z | z | z
  · exact z
  · exact absurd z n
  · exact absurd z (of_decide_eq_false q)
theorem sortBy_map {α β : Type} (f : α → β) (l : List α) (ds : List PyData) : sortBy (l.map f) ds = (sortBy l ds).map f := by
  unfold sortBy
  have e : (l.map f).zip ds = (l.zip ds).map fun z => (f z.1, z.2) := by
    rw [List.zip_map_left]
    rfl
  rw [e, ← PySem.W.sort_maps (r := PySem.W.dataLe false Prod.snd) (fun z : α × PyData => (f z.1, z.2)) (fun a _ b _ => rfl), List.map_map, List.map_map]
  rfl
theorem depAll_le {n : Nat} : ∀ {ds : List PyData}, (∀ x ∈ ds, x.depth ≤ n) → PyData.depthAll ds ≤ n
  | [], _ => Nat.zero_le _
  | d :: ds, h => by
    rw [PyData.depthAll]
    exact Nat.max_le.mpr ⟨h d List.mem_cons_self, depAll_le fun x hx => h x (List.mem_cons_of_mem _ hx)⟩
theorem sortOk_pP (l : Ld) : sortOk (l.map pPair) = true := by
  unfold sortOk
  rw [Bool.and_eq_true, Bool.and_eq_true]
  refine ⟨⟨?_, ?_⟩, decide_eq_true (depAll_le fun x hx => ?_)⟩
  · refine List.all_eq_true.mpr fun p hp => List.all_eq_true.mpr fun q hq => ?_
    obtain ⟨a, _, rfl⟩ := List.mem_map.mp hp
    obtain ⟨b, _, rfl⟩ := List.mem_map.mp hq
    simp [pPair, PySem.W.alike, PySem.W.alikeAll]
  · rw [Bool.or_eq_true]
    refine .inl (List.all_eq_true.mpr fun p hp => ?_)
    obtain ⟨a, _, rfl⟩ := List.mem_map.mp hp
    rfl
  · obtain ⟨a, _, rfl⟩ := List.mem_map.mp hx
    simp [pPair, PyData.depth, PyData.depthAll]
theorem rfds_mapG {α : Type} {lk : Nat → Option PyData} {f : α → D} {g : α → PyData} (h : ∀ x, rfd lk (f x) = some (g x)) : ∀ xs : List α, rfds lk (xs.map f) = some (xs.map g)
  | [] => rfl
  | x :: xs => by
    show (match rfd lk (f x), rfds lk (xs.map f) with
    | some d, some ds => some (d :: ds)
    | _, _ => none) = _
    rw [h, rfds_mapG h xs]
    rfl
theorem kv_pairs (l : Ld) : (((kvL l).zip (l.map fun p => PyData.int p.2)).map fun z => pairP z.1.1 z.2) = l.map pPair := by
  induction l with
  | nil => rfl
  | cons p l ih =>
    rw [show kvL (p :: l) = (Sum.inr p.1, D.int p.2) :: kvL l from rfl, List.map_cons, List.zip_cons_cons, List.map_cons, ih, List.map_cons]
    rfl
theorem items_kv (l : Ld) : itemsD (kvL l) = l.map encT := by
  unfold itemsD kvL
  rw [List.map_map]
  rfl
/-- sorted(d.items()) of a dict of kinds -/
theorem w_sortL {S : Sto} {env : Env} {fa : ExM} {Q : Rv → Sto → Prop} (h : W (fa env S) fun x S1 => ∃ l : Ld, kOf x S1 = some (kvL l) ∧ Q (.new ((sortL l).map encT)) S1) : W (eSIt fa env S) Q := by
  refine w_sortItems (kvs := []) (ps := []) (h.imp fun x S1 ⟨l, e, q⟩ => ⟨kvL l, l.map fun p => .int p.2, e, ?_, ?_, ?_⟩)
  · unfold kvL
    rw [List.map_map]
    exact rfds_mapG (f := Prod.snd ∘ fun p : Str × Int => ((Sum.inr p.1 : Key), D.int p.2)) (fun x => rfl) l
  · rw [kv_pairs]
    exact sortOk_pP l
  · rw [kv_pairs, items_kv, sortBy_map]
    exact q
/-! ### load_of, told -/
theorem loadOf_keys (l : Ld) : (loadOf l).map Prod.fst = (sortStrs (l.map Prod.fst)).filter fun k => decide (0 < (getL l k).getD 0) := by
  unfold loadOf
  rw [List.map_map]
  show ((sortStrs (l.map Prod.fst)).filter fun k => decide (0 < (getL l k).getD 0)).map id = _
  rw [List.map_id]
theorem sortStrs_lt {ks : List Str} (h : ks.Nodup) : (sortStrs ks).Pairwise ltT := by
  have hn : (sortStrs ks).Nodup := (sortStrs_perm ks).nodup_iff.mpr h
  refine ((List.pairwise_iff_forall_sublist.mpr fun {a b} hs => ?_ : (sortStrs ks).Pairwise fun a b => a ≠ b).and (sortStrs_pw ks)).imp fun {a b} ⟨n, q⟩ => ?_
  · exact List.pairwise_iff_forall_sublist.mp hn hs
  · rcases ltT_tri a b with z | z | z
    · exact z
    · exact absurd z n
    · rw [leStr_eq] at q
      exact absurd (of_decide_eq_true q) (List.not_le.mpr z)
theorem loadOf_ris {l : Ld} (h : Nd l) : Ris (loadOf l) := by
  have hk : ((loadOf l).map Prod.fst).Pairwise ltT := by
    rw [loadOf_keys]
    exact List.Pairwise.filter _ (sortStrs_lt h)
  exact List.pairwise_map.mp hk
theorem getL_some {l : Ld} (h : Nd l) {p : Str × Int} (hp : p ∈ l) : getL l p.1 = some p.2 := by
  induction l with
  | nil => cases hp
  | cons q l ih =>
    unfold getL
    rw [List.find?_cons]
    rcases List.mem_cons.mp hp with rfl | hp
    · simp
    · have hn : (q.1 :: l.map Prod.fst).Nodup := h
      obtain ⟨h1, h2⟩ := List.nodup_cons.mp hn
      have : q.1 ≠ p.1 := fun e => h1 (e ▸ List.mem_map_of_mem hp)
      simp only [this, decide_false]
      exact ih h2 hp
theorem getL_of {l : Ld} {k : Str} {g : Int} (h : getL l k = some g) : (k, g) ∈ l := by
  unfold getL at h
  obtain ⟨r, hr, h2⟩ := Option.map_eq_some_iff.mp h
  have h3 := List.find?_some hr
  have h3 : r.1 = k := of_decide_eq_true h3
  have := List.mem_of_find?_eq_some hr
  rw [← h3, ← h2]
  exact this
theorem mem_loadOf {l : Ld} (h : Nd l) {p : Str × Int} : p ∈ loadOf l ↔ p ∈ l ∧ 0 < p.2 := by
  unfold loadOf
  rw [List.mem_map]
  constructor
  · rintro ⟨k, hk, rfl⟩
    obtain ⟨h1, h2⟩ := List.mem_filter.mp hk
    obtain ⟨g, hg⟩ := getL_mem ((sortStrs_perm _).mem_iff.mp h1)
    rw [hg] at h2 ⊢
    exact ⟨getL_of hg, of_decide_eq_true h2⟩
  · rintro ⟨h1, h2⟩
    refine ⟨p.1, List.mem_filter.mpr ⟨(sortStrs_perm _).mem_iff.mpr (List.mem_map_of_mem h1), ?_⟩, ?_⟩
    · rw [getL_some h h1]; exact decide_eq_true h2
    · rw [getL_some h h1]; rfl
/-- rising lists with the same members are the same -/
theorem ris_ext {l m : Ld} (h1 : Ris l) (h2 : Ris m) (h : ∀ p, p ∈ l ↔ p ∈ m) : l = m := by
  have n1 : l.Nodup := List.Pairwise.imp (R := fun a b : Str × Int => ltT a.1 b.1) (S := fun a b => a ≠ b) (fun q e => ltT_ne q (by rw [e])) h1
  have n2 : m.Nodup := List.Pairwise.imp (R := fun a b : Str × Int => ltT a.1 b.1) (S := fun a b => a ≠ b) (fun q e => ltT_ne q (by rw [e])) h2
  exact ris_one ((List.perm_ext_iff_of_nodup n1 n2).mpr h) h1 h2
theorem loadOf_sort {l : Ld} (h : Nd l) (hp : ∀ p ∈ l, 0 < p.2) : loadOf l = sortL l := by
  refine ris_ext (loadOf_ris h) (sortL_ris h) fun p => ?_
  rw [mem_loadOf h, (sortL_perm l).mem_iff]
  exact ⟨fun q => q.1, fun q => ⟨q, hp p q⟩⟩
theorem w_insert {n : Nat} {xs : List D} {i : Int} {d : D} {S : Sto} {Q : Rv → Sto → Prop} (h0 : S[n]? = some (.lst xs)) (hi : xs.length < big ∧ 0 ≤ i ∧ i < 2 ^ 60) (q : Q (.val .non) (S.set n (.lst (xs.take i.toNat ++ [d] ++ xs.drop i.toNat)))) : W (mIns2 (.val (.loc n)) (.int i) d S) Q := by
  unfold mIns2 mInsert chg
  simp only [h0, if_pos hi]
  exact .ok q
end Bz

set_option Elab.async false
set_option linter.all false
set_option maxRecDepth 100000
set_option maxHeartbeats 4000000
/-! Bz: loads. -/
namespace Bz
open PySem PySem.Spec PyProof.Rows L2
local macro_rules | `(tactic| walk_at "w") => `(tactic| repeat (first
  | with_reducible refine w_sSeq ?_ | with_reducible refine w_sIf ?_ | with_reducible refine w_sAsg ?_ | with_reducible refine w_sRet ?_ | with_reducible refine w_sNil ?_ | with_reducible refine w_sExpr ?_
  | with_reducible refine w_sFor ?_ | with_reducible refine w_asB ?_ | with_reducible refine w_tru ?_ | with_reducible refine w_tsAnd ?_ | with_reducible refine w_tsOr ?_ | with_reducible refine w_tsNot ?_
  | with_reducible refine w_tsYes ?_ | with_reducible refine w_and ?_ | with_reducible refine w_or ?_ | with_reducible refine w_not ?_ | with_reducible refine w_eIf ?_ | with_reducible refine w_bin ?_
  | with_reducible refine w_un ?_ | with_reducible refine w_chain ?_ | with_reducible refine w_nm rfl ?_ | with_reducible refine w_c ?_ | with_reducible refine w_stlV ?_ | with_reducible refine w_stlN ?_
  | with_reducible refine w_stlK ?_ | with_reducible refine w_stlT ?_ | with_reducible refine w_aNil ?_ | with_reducible refine w_aCons ?_ | with_reducible refine w_fz ?_ | with_reducible refine fz_v ?_
  | with_reducible refine fz_n ?_ | with_reducible refine fz_k ?_ | with_reducible refine fz_t ?_ | with_reducible refine w_fzL ?_ | with_reducible refine fl_d rfl ?_ | with_reducible refine fl_n ?_
  | with_reducible refine fl_k ?_ | with_reducible refine fl_t ?_ | with_reducible refine w_eTup ?_ | with_reducible refine w_eTuf ?_ | with_reducible refine w_eLst ?_ | with_reducible refine w_dnK ?_
  | with_reducible refine w_dnT ?_ | with_reducible refine w_call ?_ | with_reducible refine w_eSl ?_ | with_reducible refine w_ptNo ?_ | with_reducible refine w_ptI ?_ | with_reducible refine w_m1 ?_
  | with_reducible refine w_m2 ?_ | with_reducible refine w_get1 ?_ | with_reducible refine w_get2 ?_ | with_reducible refine w_eLc ?_ | with_reducible refine w_eDc ?_ | with_reducible refine dl_q (Nat.le_of_ble_eq_true rfl) ?_
  | with_reducible refine int_q ?_ | with_reducible refine as_q ?_ | with_reducible refine ty_q (ty_loc (by assumption)) ?_ | with_reducible refine sq_nx ?_ | with_reducible refine sq_rt ?_ | with_reducible refine sq_bk ?_
  | with_reducible refine sq_ct ?_ | with_reducible refine fq_rt ?_ | with_reducible refine fq_nx ?_ | with_reducible refine tq_nx ?_ | with_reducible refine tq_ct ?_ | with_reducible refine tq_bk ?_
  | with_reducible refine tq_rt ?_ | with_reducible refine w_srBB ?_ | with_reducible refine bq_tup ?_ | with_reducible refine bq_tuf ?_ | with_reducible refine bq_rol ?_ | with_reducible refine bq_str ?_
  | with_reducible refine bq_rod ?_ | with_reducible refine bq_loc (by assumption) ?_ | with_reducible refine w_srR1 ?_ | with_reducible refine w_srR2 ?_ | with_reducible refine w_srZB ?_ | with_reducible refine w_srItems ?_
  | with_reducible refine w_srVals ?_ | with_reducible refine w_srEn ?_ | with_reducible refine w_addI ?_ | with_reducible refine w_subI ?_ | with_reducible refine w_mulI (by omega) ?_ | with_reducible refine w_divI (by omega) (by omega) ?_
  | with_reducible refine w_modI (by first | omega | decide +kernel) ?_ | with_reducible refine w_powI rfl ?_ | with_reducible refine w_neg ?_ | with_reducible refine w_iaddI ?_ | with_reducible refine w_max ?_ | with_reducible refine w_min ?_
  | with_reducible refine w_abs ?_ | with_reducible refine w_gtI ?_ | with_reducible refine w_ltI ?_ | with_reducible refine w_leI ?_ | with_reducible refine w_geI ?_ | with_reducible refine w_eqI ?_
  | with_reducible refine w_neI ?_ | with_reducible refine w_eqS ?_ | with_reducible refine w_neS ?_ | with_reducible refine w_ixT rfl ?_ | with_reducible refine w_ixR rfl ?_ | with_reducible refine w_ixF rfl ?_
  | with_reducible refine w_ixL (by assumption) rfl ?_ | with_reducible refine w_len (seq_loc (by assumption)) ?_ | with_reducible refine w_len rfl ?_ | with_reducible refine w_gNm (Nat.le_of_ble_eq_true rfl) ?_ | with_reducible refine w_gSb ?_ | with_reducible refine w_gTp rfl ?_
  | with_reducible refine w_gTf rfl ?_ | with_reducible refine w_gsCons ?_ | with_reducible refine w_gsNil ?_ | with_reducible refine w_sPar2 ?_ | with_reducible refine w_sPar3 ?_ | with_reducible refine w_sAug rfl ?_
  | with_reducible refine w_sAugD ?_ | with_reducible refine br_n ?_ | with_reducible refine br_t ?_ | with_reducible refine br_f ?_))
/-! ### what the laws draw -/
def flatD : D → Bool
  | .non => true
  | .bl _ => true
  | .int _ => true
  | .str _ => true
  | _ => false
theorem of_flat {xs : List D} (h : xs.all flatD = true) : ∀ d ∈ xs, nol d = true ∧ ∀ n, locsLt n d = true := fun d hd => by
  have := List.all_eq_true.mp h d hd
  cases d <;> first | exact ⟨rfl, fun _ => rfl⟩ | cases this
theorem Fr.setN {nb n : Nat} {S S' : Sto} {o : Ob} (f : Fr nb S S') (h : S.length ≤ n) : Fr nb S (S'.set n o) := ⟨by rw [List.length_set]; exact f.1, fun m o' hm hs => by
  rw [List.getElem?_set_ne (by have := lt_of hs; omega)]
  exact f.2 m o' hm hs⟩
def kindsW : List Str := ["glass", "iron", "leaf", "paper", "rag", "wood"]
def kindsX : List Str := ["glass", "iron", "leaf", "paper", "rag", "wood", "stone"]
structure WLoad (kinds : List Str) (most : Nat) (l : Ld) : Prop where
  ris : Ris l
  len : l.length ≤ most
  ok : ∀ p ∈ l, p.1 ∈ kinds ∧ 1 ≤ p.2 ∧ p.2 ≤ 1000
theorem mem_putL {l : Ld} {k : Str} {g : Int} {p : Str × Int} (h : p ∈ putL l k g) : p ∈ l ∨ p = (k, g) := by
  unfold putL putA at h
  split at h
  · obtain ⟨q, hq, rfl⟩ := List.mem_map.mp h
    split
    · rename_i e; exact .inr (by rw [e])
    · exact .inl hq
  · rcases List.mem_append.mp h with h | h
    · exact .inl h
    · exact .inr (List.mem_singleton.mp h)
theorem locs_T (n : Nat) (l : Ld) : locsLt n (.tuf (l.map encT)) = true := locsLts_of fun x hx => by
  obtain ⟨k, _, rfl⟩ := List.mem_map.mp hx
  rfl
theorem locs_P (n : Nat) (l : Ld) : locsLt n (.tuf (l.map encP)) = true := locsLts_of fun x hx => by
  obtain ⟨k, _, rfl⟩ := List.mem_map.mp hx
  rfl
def LoadS (g : FnM) : Prop := ∀ (nb : Nat) (S : Sto) (most : Int) (Q : D → Sto → Prop), Bag nb S → 0 ≤ most → most ≤ 20 → (∀ l S', WLoad kindsW most.toNat l → Bag nb S' → Fr nb S S' → S'.length = S.length → Q (.tuf (l.map encT)) S') → W (g [.loc nb, .int most] S) Q
theorem load_ok {F : Str → FnM} (T : TakeS (F "_law_take")) (O : OfS (F "_law_of")) : LoadS (runL 2 5 (b_law_load F)) := by
  intro nb S most Q hb m0 m1 q
  have hlt := hb.lt
  refine w_runL rfl ?_
  unfold b_law_load
  walk_at "w"
  refine T nb _ _ _ hb.push (by omega) (by omega) fun r S1 r0 r1 hb1 f1 l1 => ?_
  walk_at "w"
  refine ⟨_, rfl, by omega, ?_⟩
  have h1 : S1[S.length]? = some (.dk (kvL [])) := f1.at at0 (by omega)
  have fr1 : Fr nb S S1 := Fr.push.trans f1
  have hl1 : S1.length = S.length + 1 := by rw [l1]; simp
  refine w_forGo (fun i env S' => ∃ (l : Ld) (e3 e4 : Option D), env = [some (.loc nb), some (.int most), some (.loc S.length), e3, e4] ∧ Bag nb S' ∧ Fr nb S S' ∧ S'.length = S.length + 1 ∧ S'[S.length]? = some (.dk (kvL l)) ∧ Nd l ∧ l.length ≤ i ∧ ∀ p ∈ l, p.1 ∈ kindsW ∧ 1 ≤ p.2 ∧ p.2 ≤ 1000)
    ⟨[], _, _, rfl, hb1, fr1, hl1, h1, List.nodup_nil, Nat.le_refl _, fun _ h => nomatch h⟩ ?_ ?_
  · rintro i x env S' hx ⟨l, e3, e4, rfl, hb', f', hl', hL, nd, len, ok⟩
    obtain ⟨hi, rfl⟩ := rngI_get hx
    refine ⟨gok_nil, ?_⟩
    walk_at "w"
    refine O nb _ (kindsW.map D.str) _ hb' (by decide) (by decide) (of_flat rfl) fun d S2 hd hb2 f2 l2 => ?_
    obtain ⟨k, hk, rfl⟩ := List.mem_map.mp hd
    walk_at "w"
    refine T nb _ _ _ hb2 (by decide) (by decide) fun r S3 r0 r1 hb3 f3 l3 => ?_
    walk_at "w"
    refine O nb _ (([1, 3, 10, 333, 999, 1 + r] : List Int).map D.int) _ hb3 (by simp) (by simp) (of_flat rfl) fun d S4 hd hb4 f4 l4 => ?_
    obtain ⟨g, hg, rfl⟩ := List.mem_map.mp hd
    have hg2 : 1 ≤ g ∧ g ≤ 1000 := by
      simp only [List.mem_cons, List.not_mem_nil, or_false] at hg
      omega
    have h4 : S4[S.length]? = some (.dk (kvL l)) := f4.at (f3.at (f2.at hL (by omega)) (by omega)) (by omega)
    walk_at "w"
    refine w_setD (k := Sum.inr k) h4 rfl (by unfold kvL; rw [List.length_map]; unfold big; omega) ?_
    rw [kvL_put]
    walk_at "w"
    have hl4 : S.length < S4.length := by omega
    refine ⟨putL l k g, _, _, rfl, hb4.set (by omega), ((f'.trans f2).trans (f3.trans f4)).setN (Nat.le_refl _), by rw [List.length_set]; omega, List.getElem?_set_self hl4, nd_put nd k g, by have := putL_len l k g; omega, fun p hp => ?_⟩
    rcases mem_putL hp with hp | rfl
    · exact ok p hp
    · exact ⟨hk, hg2⟩
  · rintro env S' ⟨l, e3, e4, rfl, hb', f', hl', hL, nd, len, ok⟩
    refine ⟨gok_nil, ?_⟩
    have hlen : l.length ≤ r.toNat := by simpa [rngI] using len
    walk_at "w"
    refine w_sortL ?_
    walk_at "w"
    refine ⟨l, k_loc hL, ?_⟩
    refine w_tufL rfl ?_
    walk_at "w"
    refine tr_bag hb hb' f' (locs_T _ _) fun S2 b2 f2 l2 => q _ _ ⟨sortL_ris nd, by rw [(sortL_perm l).length_eq]; omega, fun p hp => ok p ((sortL_perm l).mem_iff.mp hp)⟩ b2 f2 l2
/-- a line of the laws -/
def encStep (s : Str × Ld) : D := .tuf [.str s.1, .tuf (s.2.map encT)]
def namesW : List Str := ["bale", "melt", "pulp", "sieve", "zinc"]
structure WLine (line : Ln) : Prop where
  nd : (line.map Prod.fst).Nodup
  names : ∀ s ∈ line, s.1 ∈ namesW
  len : line.length ≤ 5
  sh : ∀ s ∈ line, WLoad kindsX 4 s.2
theorem locs_step (n : Nat) (line : Ln) : locsLts n (line.map encStep) = true := locsLts_of fun x hx => by
  obtain ⟨r, _, rfl⟩ := List.mem_map.mp hx
  show (true && ((locsLt n (.tuf (r.2.map encT))) && true)) = true
  rw [locs_T]
  rfl
def StepsS (g : FnM) : Prop := ∀ (nb : Nat) (S : Sto) (Q : D → Sto → Prop), Bag nb S → (∀ line S', WLine line → Bag nb S' → Fr nb S S' → S'.length = S.length → Q (.tuf (line.map encStep)) S') → W (g [.loc nb] S) Q
theorem nodup_ins {α : Type} {xs : List α} {y : α} (n : Nat) (h : xs.Nodup) (hy : y ∉ xs) : (xs.take n ++ [y] ++ xs.drop n).Nodup := by
  have e : (xs.take n ++ [y] ++ xs.drop n).Perm (y :: xs) := by
    have : (xs.take n ++ ([y] ++ xs.drop n)).Perm ([y] ++ (xs.take n ++ xs.drop n)) := by
      rw [← List.append_assoc, ← List.append_assoc]
      exact List.perm_append_comm.append_right _
    rw [List.take_append_drop] at this
    rw [List.append_assoc]
    exact this
  exact e.nodup_iff.mpr (List.nodup_cons.mpr ⟨hy, h⟩)
theorem mem_ins {α : Type} {xs : List α} {x y : α} (n : Nat) (h : x ∈ xs.take n ++ [y] ++ xs.drop n) : x ∈ xs ∨ x = y := by
  rcases List.mem_append.mp h with h | h
  · rcases List.mem_append.mp h with h | h
    · exact .inl (List.mem_of_mem_take h)
    · exact .inr (List.mem_singleton.mp h)
  · exact .inl (List.mem_of_mem_drop h)
theorem steps_ok {F : Str → FnM} (T : TakeS (F "_law_take")) (O : OfS (F "_law_of")) : StepsS (runL 1 6 (b_law_steps F)) := by
  intro nb S Q hb q
  have hlt := hb.lt
  refine w_runL rfl ?_
  unfold b_law_steps
  walk_at "w"
  refine w_forGo (items := namesW.map D.str) (fun i env S' => ∃ (line : Ln) (e2 e3 e4 e5 : Option D), env = [some (.loc nb), some (.loc S.length), e2, e3, e4, e5] ∧ Bag nb S' ∧ Fr nb S S' ∧ S.length < S'.length ∧ S'[S.length]? = some (.lst (line.map encStep)) ∧ (line.map Prod.fst).Nodup ∧ (∀ s ∈ line, s.1 ∈ namesW.take i) ∧ line.length ≤ i ∧ ∀ s ∈ line, WLoad kindsX 4 s.2)
    ⟨[], _, _, _, _, rfl, hb.push, Fr.push, by simp, at0, List.nodup_nil, fun _ h => (nomatch h), Nat.le_refl _, fun _ h => nomatch h⟩ ?_ ?_
  · rintro i x env S' hx ⟨line, e2, e3, e4, e5, rfl, hb', f', hl', hL, nd, nam, len, ok⟩
    refine ⟨gok_nil, ?_⟩
    obtain ⟨name, hname, rfl⟩ := map_get hx
    have hi5 : i < 5 := by have := (List.getElem?_eq_some_iff.mp hname).1; exact this
    have et := take_succ hname
    have hnew : name ∉ namesW.take i := by
      intro hm
      obtain ⟨j, hj, ej⟩ := List.mem_iff_getElem.mp hm
      have : ∀ i < 5, ∀ n, namesW[i]? = some n → n ∉ namesW.take i := by decide
      exact this i hi5 name hname hm
    walk_at "w"
    refine T nb _ _ _ hb' (by decide) (by decide) fun r S1 r0 r1 hb1 f1 l1 => ?_
    walk_at "w"
    refine br_d (fun hr => ?_) fun hr => ?_
    · walk_at "w"
      refine T nb _ _ _ hb1.push (by decide) (by decide) fun r2 S2 r20 r21 hb2 f2 l2 => ?_
      walk_at "w"
      refine ⟨_, rfl, by omega, ?_⟩
      have hS1 : S.length < S1.length := by omega
      have hL2 : S2[S.length]? = some (.lst (line.map encStep)) := f2.at (at_left (f1.at hL (by omega))) (by omega)
      have hM2 : S2[S1.length]? = some (.dk (kvL [])) := f2.at at0 (by have := hb1.lt; omega)
      have fr2 : Fr nb S S2 := (f'.trans f1).trans (Fr.push.trans f2)
      have hl2 : S2.length = S1.length + 1 := by rw [l2]; simp
      have hn1 : nb < S1.length := hb1.lt
      refine w_forGo (fun j env S' => ∃ (l : Ld) (e4 e5 : Option D), env = [some (.loc nb), some (.loc S.length), some (.str name), some (.loc S1.length), e4, e5] ∧ Bag nb S' ∧ Fr nb S S' ∧ S'.length = S1.length + 1 ∧ S'[S.length]? = some (.lst (line.map encStep)) ∧ S'[S1.length]? = some (.dk (kvL l)) ∧ Nd l ∧ l.length ≤ j ∧ ∀ p ∈ l, p.1 ∈ kindsX ∧ 1 ≤ p.2 ∧ p.2 ≤ 1000)
        ⟨[], _, _, rfl, hb2, fr2, hl2, hL2, hM2, List.nodup_nil, Nat.le_refl _, fun _ h => nomatch h⟩ ?_ ?_
      · rintro j x env S3 hx3 ⟨l, e4, e5, rfl, hb3, f3, hl3, hL3, hM3, nd3, len3, ok3⟩
        obtain ⟨hj, rfl⟩ := rngI_get hx3
        refine ⟨gok_nil, ?_⟩
        walk_at "w"
        refine O nb _ (kindsX.map D.str) _ hb3 (by decide) (by decide) (of_flat rfl) fun d S4 hd hb4 f4 l4 => ?_
        obtain ⟨k, hk, rfl⟩ := List.mem_map.mp hd
        walk_at "w"
        refine T nb _ _ _ hb4 (by decide) (by decide) fun r5 S5 r50 r51 hb5 f5 l5 => ?_
        walk_at "w"
        refine O nb _ (([1, 500, 999, 1000, 1 + r5] : List Int).map D.int) _ hb5 (by simp) (by simp) (of_flat rfl) fun d S6 hd hb6 f6 l6 => ?_
        obtain ⟨g, hg, rfl⟩ := List.mem_map.mp hd
        have hg2 : 1 ≤ g ∧ g ≤ 1000 := by
          simp only [List.mem_cons, List.not_mem_nil, or_false] at hg
          omega
        have hL6 := f6.at (f5.at (f4.at hL3 (by omega)) (by omega)) (by omega)
        have hM6 := f6.at (f5.at (f4.at hM3 (by omega)) (by omega)) (by omega)
        walk_at "w"
        refine w_setD (k := Sum.inr k) hM6 rfl (by unfold kvL; rw [List.length_map]; unfold big; omega) ?_
        rw [kvL_put]
        walk_at "w"
        refine ⟨putL l k g, _, _, rfl, hb6.set (by omega), ((f3.trans f4).trans (f5.trans f6)).setN (by omega), by rw [List.length_set]; omega, by rw [List.getElem?_set_ne (by omega)]; exact hL6, List.getElem?_set_self (by omega), nd_put nd3 k g, by have := putL_len l k g; omega, fun p hp => ?_⟩
        rcases mem_putL hp with hp | rfl
        · exact ok3 p hp
        · exact ⟨hk, hg2⟩
      · rintro env S3 ⟨l, e4, e5, rfl, hb3, f3, hl3, hL3, hM3, nd3, len3, ok3⟩
        refine ⟨gok_nil, ?_⟩
        have hlen : l.length ≤ r2.toNat := by simpa [rngI] using len3
        walk_at "w"
        refine T nb _ _ _ hb3 (by rw [List.length_map]; omega) (by rw [List.length_map]; omega) fun r4 S4 r40 r41 hb4 f4 l4 => ?_
        have hL4 := f4.at hL3 (by omega)
        have hM4 := f4.at hM3 (by omega)
        walk_at "w"
        refine w_sortL ?_
        walk_at "w"
        refine ⟨l, k_loc hM4, ?_⟩
        refine w_tufL rfl ?_
        walk_at "w"
        refine w_insert hL4 ⟨by rw [List.length_map]; unfold big; omega, by omega, by rw [List.length_map] at r41; omega⟩ ?_
        walk_at "w"
        have em : (line.map encStep).take r4.toNat ++ [.tuf [.str name, .tuf ((sortL l).map encT)]] ++ (line.map encStep).drop r4.toNat = (line.take r4.toNat ++ [(name, sortL l)] ++ line.drop r4.toNat).map encStep := by
          rw [List.map_append, List.map_append, List.map_take, List.map_drop]
          rfl
        rw [em]
        have hS4 : S.length < S4.length := by omega
        refine ⟨_, _, _, _, _, rfl, hb4.set (by omega), (f3.trans f4).setN (Nat.le_refl _), by rw [List.length_set]; exact hS4, List.getElem?_set_self hS4, ?_, fun s hs => ?_, ?_, fun s hs => ?_⟩
        · have e2 : (line.take r4.toNat ++ [(name, sortL l)] ++ line.drop r4.toNat).map Prod.fst = (line.map Prod.fst).take r4.toNat ++ [name] ++ (line.map Prod.fst).drop r4.toNat := by
            rw [List.map_append, List.map_append, List.map_take, List.map_drop]
            rfl
          rw [e2]
          refine nodup_ins _ nd fun hm => ?_
          obtain ⟨s, hs, es⟩ := List.mem_map.mp hm
          exact hnew (es ▸ nam s hs)
        · rw [et]
          rcases mem_ins _ hs with hs | rfl
          · exact List.mem_append_left _ (nam s hs)
          · exact List.mem_append_right _ (List.mem_singleton.mpr rfl)
        · simp only [List.length_append, List.length_take, List.length_drop, List.length_singleton]
          omega
        · rcases mem_ins _ hs with hs | rfl
          · exact ok s hs
          · exact ⟨sortL_ris nd3, by rw [(sortL_perm l).length_eq]; omega, fun p hp => ok3 p ((sortL_perm l).mem_iff.mp hp)⟩
    · walk_at "w"
      refine ⟨line, _, _, _, _, rfl, hb1, f'.trans f1, by omega, f1.at hL (by omega), nd, fun s hs => ?_, by omega, ok⟩
      rw [et]
      exact List.mem_append_left _ (nam s hs)
  · rintro env S' ⟨line, e2, e3, e4, e5, rfl, hb', f', hl', hL, nd, nam, len, ok⟩
    refine ⟨gok_nil, ?_⟩
    walk_at "w"
    refine w_tufL (lrd_loc hL) ?_
    walk_at "w"
    exact tr_bag hb hb' f' (locs_step _ _) fun S2 b2 f2 l2 => q _ _ ⟨nd, fun s hs => List.mem_of_mem_take (nam s hs), len, ok⟩ b2 f2 l2
end Bz

set_option Elab.async false
set_option linter.all false
set_option maxRecDepth 100000
set_option maxHeartbeats 4000000
/-! Bz: loads. -/
namespace Bz
open PySem PySem.Spec PyProof.Rows L2
local macro_rules | `(tactic| walk_at "w") => `(tactic| repeat (first
  | with_reducible refine w_sSeq ?_ | with_reducible refine w_sIf ?_ | with_reducible refine w_sAsg ?_ | with_reducible refine w_sRet ?_ | with_reducible refine w_sNil ?_ | with_reducible refine w_sExpr ?_
  | with_reducible refine w_sFor ?_ | with_reducible refine w_asB ?_ | with_reducible refine w_tru ?_ | with_reducible refine w_tsAnd ?_ | with_reducible refine w_tsOr ?_ | with_reducible refine w_tsNot ?_
  | with_reducible refine w_tsYes ?_ | with_reducible refine w_and ?_ | with_reducible refine w_or ?_ | with_reducible refine w_not ?_ | with_reducible refine w_eIf ?_ | with_reducible refine w_bin ?_
  | with_reducible refine w_un ?_ | with_reducible refine w_chain ?_ | with_reducible refine w_nm rfl ?_ | with_reducible refine w_c ?_ | with_reducible refine w_stlV ?_ | with_reducible refine w_stlN ?_
  | with_reducible refine w_stlK ?_ | with_reducible refine w_stlT ?_ | with_reducible refine w_aNil ?_ | with_reducible refine w_aCons ?_ | with_reducible refine w_fz ?_ | with_reducible refine fz_v ?_
  | with_reducible refine fz_n ?_ | with_reducible refine fz_k ?_ | with_reducible refine fz_t ?_ | with_reducible refine w_fzL ?_ | with_reducible refine fl_d rfl ?_ | with_reducible refine fl_n ?_
  | with_reducible refine fl_k ?_ | with_reducible refine fl_t ?_ | with_reducible refine w_eTup ?_ | with_reducible refine w_eTuf ?_ | with_reducible refine w_eLst ?_ | with_reducible refine w_dnK ?_
  | with_reducible refine w_dnT ?_ | with_reducible refine w_call ?_ | with_reducible refine w_eSl ?_ | with_reducible refine w_ptNo ?_ | with_reducible refine w_ptI ?_ | with_reducible refine w_m1 ?_
  | with_reducible refine w_m2 ?_ | with_reducible refine w_get1 ?_ | with_reducible refine w_get2 ?_ | with_reducible refine w_eLc ?_ | with_reducible refine w_eDc ?_ | with_reducible refine dl_q (Nat.le_of_ble_eq_true rfl) ?_
  | with_reducible refine int_q ?_ | with_reducible refine as_q ?_ | with_reducible refine ty_q (ty_loc (by assumption)) ?_ | with_reducible refine sq_nx ?_ | with_reducible refine sq_rt ?_ | with_reducible refine sq_bk ?_
  | with_reducible refine sq_ct ?_ | with_reducible refine fq_rt ?_ | with_reducible refine fq_nx ?_ | with_reducible refine tq_nx ?_ | with_reducible refine tq_ct ?_ | with_reducible refine tq_bk ?_
  | with_reducible refine tq_rt ?_ | with_reducible refine w_srBB ?_ | with_reducible refine bq_tup ?_ | with_reducible refine bq_tuf ?_ | with_reducible refine bq_rol ?_ | with_reducible refine bq_str ?_
  | with_reducible refine bq_rod ?_ | with_reducible refine bq_loc (by assumption) ?_ | with_reducible refine w_srR1 ?_ | with_reducible refine w_srR2 ?_ | with_reducible refine w_srZB ?_ | with_reducible refine w_srItems ?_
  | with_reducible refine w_srVals ?_ | with_reducible refine w_srEn ?_ | with_reducible refine w_addI ?_ | with_reducible refine w_subI ?_ | with_reducible refine w_mulI (by omega) ?_ | with_reducible refine w_divI (by omega) (by omega) ?_
  | with_reducible refine w_modI (by first | omega | decide +kernel) ?_ | with_reducible refine w_powI rfl ?_ | with_reducible refine w_neg ?_ | with_reducible refine w_iaddI ?_ | with_reducible refine w_max ?_ | with_reducible refine w_min ?_
  | with_reducible refine w_abs ?_ | with_reducible refine w_gtI ?_ | with_reducible refine w_ltI ?_ | with_reducible refine w_leI ?_ | with_reducible refine w_geI ?_ | with_reducible refine w_eqI ?_
  | with_reducible refine w_neI ?_ | with_reducible refine w_eqS ?_ | with_reducible refine w_neS ?_ | with_reducible refine w_ixT rfl ?_ | with_reducible refine w_ixR rfl ?_ | with_reducible refine w_ixF rfl ?_
  | with_reducible refine w_ixL (by assumption) rfl ?_ | with_reducible refine w_len (seq_loc (by assumption)) ?_ | with_reducible refine w_len rfl ?_ | with_reducible refine w_gNm (Nat.le_of_ble_eq_true rfl) ?_ | with_reducible refine w_gSb ?_ | with_reducible refine w_gTp rfl ?_
  | with_reducible refine w_gTf rfl ?_ | with_reducible refine w_gsCons ?_ | with_reducible refine w_gsNil ?_ | with_reducible refine w_sPar2 ?_ | with_reducible refine w_sPar3 ?_ | with_reducible refine w_sAug rfl ?_
  | with_reducible refine w_sAugD ?_ | with_reducible refine br_n ?_ | with_reducible refine br_t ?_ | with_reducible refine br_f ?_))
/-- the store goes on behind S -/
def Ex (S S' : Sto) : Prop := ∃ T, S' = S ++ T
theorem Ex.refl {S : Sto} : Ex S S := ⟨[], by simp⟩
theorem Ex.push {S S' : Sto} (h : Ex S S') (os : Sto) : Ex S (S' ++ os) := by
  obtain ⟨T, rfl⟩ := h
  exact ⟨T ++ os, by rw [List.append_assoc]⟩
theorem Ex.set {S S' : Sto} (h : Ex S S') {n : Nat} {o : Ob} (hn : S.length ≤ n) : Ex S (S'.set n o) := by
  obtain ⟨T, rfl⟩ := h
  exact ⟨T.set (n - S.length) o, by rw [List.set_append_right _ _ hn]⟩
theorem Ex.len {S S' : Sto} (h : Ex S S') : S.length ≤ S'.length := by
  obtain ⟨T, rfl⟩ := h
  simp
theorem tr_ex {S S' : Sto} {d : D} {Q : D → Sto → Prop} (h : Ex S S') (h1 : locsLt S.length d = true) (q : Q d S) : W (trunc S (.ok d S')) Q := by
  obtain ⟨T, rfl⟩ := h
  exact tr_pure h1 q
theorem set_ne {S : Sto} {n m : Nat} {o o' : Ob} (h : S[m]? = some o) (hn : n ≠ m) : (S.set n o')[m]? = some o := by rw [List.getElem?_set_ne hn]; exact h
theorem set_eq {S : Sto} {n : Nat} {o o' : Ob} (h : S[n]? = some o) : (S.set n o')[n]? = some o' := List.getElem?_set_self (lt_of h)
/-! ### the law's sorting is the program's -/
theorem ext_keys : ∀ {l m : Ld}, l.map Prod.fst = m.map Prod.fst → Nd l → (∀ k, getL l k = getL m k) → l = m
  | [], [], _, _, _ => rfl
  | [], _ :: _, h, _, _ => by cases h
  | _ :: _, [], h, _, _ => by cases h
  | p :: l, q :: m, h, hn, hg => by
    rw [List.map_cons, List.map_cons, List.cons.injEq] at h
    have hn' : (p.1 :: l.map Prod.fst).Nodup := hn
    obtain ⟨h1, h2⟩ := List.nodup_cons.mp hn'
    have e : p = q := by
      have := hg p.1
      unfold getL at this
      rw [List.find?_cons, List.find?_cons, ← h.1] at this
      simp at this
      exact Prod.ext h.1 this
    subst e
    have : l = m := ext_keys h.2 h2 fun k => by
      by_cases hk : p.1 = k
      · subst hk
        have e1 : getL l p.1 = none := by
          cases e : getL l p.1 with
          | none => rfl
          | some g => exact absurd (List.mem_map_of_mem (f := Prod.fst) (getL_of e)) h1
        have e2 : getL m p.1 = none := by
          cases e : getL m p.1 with
          | none => rfl
          | some g =>
            have := List.mem_map_of_mem (f := Prod.fst) (getL_of e)
            rw [← h.2] at this
            exact absurd this h1
        rw [e1, e2]
      · have := hg k
        unfold getL at this
        rw [List.find?_cons, List.find?_cons] at this
        simp only [hk, decide_false] at this
        exact this
    rw [this]
theorem getL_none {l : Ld} {k : Str} (h : k ∉ l.map Prod.fst) : getL l k = none := by
  cases e : getL l k with
  | none => rfl
  | some g => exact absurd (List.mem_map_of_mem (f := Prod.fst) (getL_of e)) h
theorem getL_subs : ∀ (m l : Ld) (k : Str), Nd m → (∀ p ∈ m, p.1 ∈ l.map Prod.fst) → getL (subsL l m) k = (getL l k).map fun g => g - (getL m k).getD 0
  | [], l, k, _, _ => by
    show getL l k = _
    cases getL l k with
    | none => rfl
    | some g => simp [getL]
  | p :: m, l, k, hn, hk => by
    have hn' : (p.1 :: m.map Prod.fst).Nodup := hn
    obtain ⟨h1, h2⟩ := List.nodup_cons.mp hn'
    have e := putL_len_in ((getL l p.1).getD 0 - p.2) (hk p List.mem_cons_self)
    show getL (subsL (subL l p.1 p.2) m) k = _
    rw [getL_subs m _ k h2 fun q hq => by unfold subL; rw [e]; exact hk q (List.mem_cons_of_mem _ hq)]
    unfold subL
    rw [getL_put]
    by_cases hkp : k = p.1
    · subst hkp
      obtain ⟨g, hg⟩ := getL_mem (hk p List.mem_cons_self)
      have e2 : getL (p :: m) p.1 = some p.2 := getL_some hn List.mem_cons_self
      rw [if_pos rfl, hg, e2, getL_none h1]
      simp
    · rw [if_neg hkp]
      have e2 : getL (p :: m) k = getL m k := by
        unfold getL
        rw [List.find?_cons]
        simp only [Ne.symm hkp, decide_false]
      rw [e2]
/-- what the law takes: in the shares' order, what is more than nought -/
def hereF (left sh : Ld) : Ld := (sh.map fun p => (p.1, (getL left p.1).getD 0 * p.2 / 1000)).filter fun p => decide (0 < p.2)
theorem hereF_keys {left sh : Ld} : (hereF left sh).map Prod.fst = (sh.filter fun p => decide (0 < (getL left p.1).getD 0 * p.2 / 1000)).map Prod.fst := by
  unfold hereF
  rw [List.filter_map, List.map_map]
  rfl
theorem hereF_ris {left sh : Ld} (h : Ris sh) : Ris (hereF left sh) := by
  have : ((hereF left sh).map Prod.fst).Pairwise ltT := by
    rw [hereF_keys]
    exact List.pairwise_map.mpr (List.Pairwise.filter _ h)
  exact List.pairwise_map.mp this
theorem mem_hereF {left sh : Ld} {p : Str × Int} : p ∈ hereF left sh ↔ p ∈ tkT left sh ∧ 0 < p.2 := by
  unfold hereF tkT
  rw [List.mem_filter, List.mem_map, List.mem_map]
  constructor
  · rintro ⟨⟨q, hq, rfl⟩, h2⟩
    have h2 := of_decide_eq_true h2
    refine ⟨⟨q, List.mem_filter.mpr ⟨hq, ?_⟩, rfl⟩, h2⟩
    cases e : getL left q.1 with
    | some g => rfl
    | none => rw [e] at h2; simp at h2
  · rintro ⟨⟨q, hq, rfl⟩, h2⟩
    exact ⟨⟨q, (List.mem_filter.mp hq).1, rfl⟩, decide_eq_true h2⟩
theorem hereF_eq {left sh : Ld} (h : Ris sh) : hereF left sh = loadOf (tkT left sh) := by
  have hn := tkT_nd (left := left) h.nd
  refine ris_ext (hereF_ris h) (loadOf_ris hn) fun p => ?_
  rw [mem_loadOf hn, mem_hereF]
theorem hereF_in {left sh : Ld} {p : Str × Int} (h : p ∈ hereF left sh) : p.1 ∈ left.map Prod.fst := tkT_mem (mem_hereF.mp h).1
theorem subs_here {left sh : Ld} (hl : Nd left) (h : Ris sh) (hp : ∀ p ∈ left, 0 ≤ p.2) (hs : ∀ p ∈ sh, 0 ≤ p.2) : subsL left (hereF left sh) = tkL left sh := by
  have hn := tkT_nd (left := left) h.nd
  have k1 := subsL_keys (hereF left sh) left fun p hp => hereF_in hp
  have k2 := tkL_keys left sh
  refine ext_keys (k1.trans k2.symm) (by unfold Nd; rw [k1]; exact hl) fun k => ?_
  unfold tkL
  rw [getL_subs _ _ _ (hereF_ris h).nd fun p hp => hereF_in hp, getL_subs _ _ _ hn fun p hp => tkT_mem hp]
  have : (getL (hereF left sh) k).getD 0 = (getL (tkT left sh) k).getD 0 := by
    cases e : getL (tkT left sh) k with
    | none =>
      rw [getL_none fun hm => ?_]
      obtain ⟨p, hp, rfl⟩ := List.mem_map.mp hm
      rw [getL_some hn (mem_hereF.mp hp).1] at e
      cases e
    | some g =>
      by_cases hg : 0 < g
      · rw [getL_some (hereF_ris h).nd (p := (k, g)) (mem_hereF.mpr ⟨getL_of e, hg⟩)]
      · have h0 : g = 0 := by
          have := getL_of e
          unfold tkT at this
          obtain ⟨q, hq, e2⟩ := List.mem_map.mp this
          have e3 := congrArg Prod.snd e2
          have e3 : (getL left q.1).getD 0 * q.2 / 1000 = g := e3
          have hq2 := hs q (List.mem_filter.mp hq).1
          have hg0 : 0 ≤ (getL left q.1).getD 0 := by
            cases e4 : getL left q.1 with
            | none => exact Int.le_refl _
            | some y => exact hp _ (getL_of e4)
          have := Int.ediv_nonneg (Int.mul_nonneg hg0 hq2) (show (0 : Int) ≤ 1000 by decide)
          omega
        subst h0
        rw [getL_none fun hm => ?_]
        · rfl
        · obtain ⟨p, hp, rfl⟩ := List.mem_map.mp hm
          have := getL_some hn (mem_hereF.mp hp).1
          rw [e] at this
          have h3 := (mem_hereF.mp hp).2
          have h4 : (0 : Int) = p.2 := Option.some.inj this
          omega
  rw [this]
theorem hereF_app (left a b : Ld) : hereF left (a ++ b) = hereF left a ++ hereF left b := by
  unfold hereF
  rw [List.map_append, List.filter_append]
theorem subsL_app (l a b : Ld) : subsL l (a ++ b) = subsL (subsL l a) b := List.foldl_append
theorem goG_nn {l : Ld} (h : ∀ p ∈ l, 0 ≤ p.2) (hn : Nd l) : ∀ (line : Ln) (r : Ln), (∀ s ∈ line, ∀ p ∈ s.2, 0 ≤ p.2 ∧ p.2 ≤ 1000) → (∀ s ∈ line, Ris s.2) → ∀ p ∈ (line.foldl stepG (r, l)).2, 0 ≤ p.2 := by
  intro line
  induction line generalizing l with
  | nil => intro r _ _ p hp; exact h p hp
  | cons s line ih =>
    intro r hs hr
    have hs0 := hs s List.mem_cons_self
    have hr0 := hr s List.mem_cons_self
    refine ih (l := tkL l s.2) (fun p hp => ?_) (by unfold Nd; rw [tkL_keys]; exact hn) _ (fun s' h' => hs s' (List.mem_cons_of_mem _ h')) (fun s' h' => hr s' (List.mem_cons_of_mem _ h'))
    have hnk : Nd (tkL l s.2) := by unfold Nd; rw [tkL_keys]; exact hn
    have e := getL_some hnk hp
    unfold tkL at e
    rw [getL_subs _ _ _ (tkT_nd hr0.nd) fun p hp => tkT_mem hp] at e
    obtain ⟨g, hg, e2⟩ := Option.map_eq_some_iff.mp e
    have hg0 := h _ (getL_of hg)
    have hg0 : 0 ≤ g := hg0
    cases e3 : getL (tkT l s.2) p.1 with
    | none => rw [e3] at e2; simp at e2; omega
    | some y =>
      rw [e3] at e2
      have := getL_of e3
      unfold tkT at this
      obtain ⟨q, hq, e4⟩ := List.mem_map.mp this
      obtain ⟨e5, e6⟩ := Prod.mk.inj e4
      rw [e5, hg] at e6
      have hq2 := hs0 q (List.mem_filter.mp hq).1
      have e6 : g * q.2 / 1000 = y := e6
      have : g * q.2 ≤ g * 1000 := Int.mul_le_mul_of_nonneg_left hq2.2 hg0
      simp at e2
      omega
end Bz

set_option Elab.async false
set_option linter.all false
set_option maxRecDepth 100000
set_option maxHeartbeats 4000000
/-! Bz: loads. -/
namespace Bz
open PySem PySem.Spec PyProof.Rows L2
local macro_rules | `(tactic| walk_at "w") => `(tactic| repeat (first
  | with_reducible refine w_sSeq ?_ | with_reducible refine w_sIf ?_ | with_reducible refine w_sAsg ?_ | with_reducible refine w_sRet ?_ | with_reducible refine w_sNil ?_ | with_reducible refine w_sExpr ?_
  | with_reducible refine w_sFor ?_ | with_reducible refine w_asB ?_ | with_reducible refine w_tru ?_ | with_reducible refine w_tsAnd ?_ | with_reducible refine w_tsOr ?_ | with_reducible refine w_tsNot ?_
  | with_reducible refine w_tsYes ?_ | with_reducible refine w_and ?_ | with_reducible refine w_or ?_ | with_reducible refine w_not ?_ | with_reducible refine w_eIf ?_ | with_reducible refine w_bin ?_
  | with_reducible refine w_un ?_ | with_reducible refine w_chain ?_ | with_reducible refine w_nm rfl ?_ | with_reducible refine w_c ?_ | with_reducible refine w_stlV ?_ | with_reducible refine w_stlN ?_
  | with_reducible refine w_stlK ?_ | with_reducible refine w_stlT ?_ | with_reducible refine w_aNil ?_ | with_reducible refine w_aCons ?_ | with_reducible refine w_fz ?_ | with_reducible refine fz_v ?_
  | with_reducible refine fz_n ?_ | with_reducible refine fz_k ?_ | with_reducible refine fz_t ?_ | with_reducible refine w_fzL ?_ | with_reducible refine fl_d rfl ?_ | with_reducible refine fl_n ?_
  | with_reducible refine fl_k ?_ | with_reducible refine fl_t ?_ | with_reducible refine w_eTup ?_ | with_reducible refine w_eTuf ?_ | with_reducible refine w_eLst ?_ | with_reducible refine w_dnK ?_
  | with_reducible refine w_dnT ?_ | with_reducible refine w_call ?_ | with_reducible refine w_eSl ?_ | with_reducible refine w_ptNo ?_ | with_reducible refine w_ptI ?_ | with_reducible refine w_m1 ?_
  | with_reducible refine w_m2 ?_ | with_reducible refine w_get1 ?_ | with_reducible refine w_get2 ?_ | with_reducible refine w_eLc ?_ | with_reducible refine w_eDc ?_ | with_reducible refine dl_q (Nat.le_of_ble_eq_true rfl) ?_
  | with_reducible refine int_q ?_ | with_reducible refine as_q ?_ | with_reducible refine ty_q (ty_loc (by assumption)) ?_ | with_reducible refine sq_nx ?_ | with_reducible refine sq_rt ?_ | with_reducible refine sq_bk ?_
  | with_reducible refine sq_ct ?_ | with_reducible refine fq_rt ?_ | with_reducible refine fq_nx ?_ | with_reducible refine tq_nx ?_ | with_reducible refine tq_ct ?_ | with_reducible refine tq_bk ?_
  | with_reducible refine tq_rt ?_ | with_reducible refine w_srBB ?_ | with_reducible refine bq_tup ?_ | with_reducible refine bq_tuf ?_ | with_reducible refine bq_rol ?_ | with_reducible refine bq_str ?_
  | with_reducible refine bq_rod ?_ | with_reducible refine bq_loc (by assumption) ?_ | with_reducible refine w_srR1 ?_ | with_reducible refine w_srR2 ?_ | with_reducible refine w_srZB ?_ | with_reducible refine w_srItems ?_
  | with_reducible refine w_srVals ?_ | with_reducible refine w_srEn ?_ | with_reducible refine w_addI ?_ | with_reducible refine w_subI ?_ | with_reducible refine w_mulI (by omega) ?_ | with_reducible refine w_divI (by omega) (by omega) ?_
  | with_reducible refine w_modI (by first | omega | decide +kernel) ?_ | with_reducible refine w_powI rfl ?_ | with_reducible refine w_neg ?_ | with_reducible refine w_iaddI ?_ | with_reducible refine w_max ?_ | with_reducible refine w_min ?_
  | with_reducible refine w_abs ?_ | with_reducible refine w_gtI ?_ | with_reducible refine w_ltI ?_ | with_reducible refine w_leI ?_ | with_reducible refine w_geI ?_ | with_reducible refine w_eqI ?_
  | with_reducible refine w_neI ?_ | with_reducible refine w_eqS ?_ | with_reducible refine w_neS ?_ | with_reducible refine w_ixT rfl ?_ | with_reducible refine w_ixR rfl ?_ | with_reducible refine w_ixF rfl ?_
  | with_reducible refine w_ixL (by assumption) rfl ?_ | with_reducible refine w_len (seq_loc (by assumption)) ?_ | with_reducible refine w_len rfl ?_ | with_reducible refine w_gNm (Nat.le_of_ble_eq_true rfl) ?_ | with_reducible refine w_gSb ?_ | with_reducible refine w_gTp rfl ?_
  | with_reducible refine w_gTf rfl ?_ | with_reducible refine w_gsCons ?_ | with_reducible refine w_gsNil ?_ | with_reducible refine w_sPar2 ?_ | with_reducible refine w_sPar3 ?_ | with_reducible refine w_sAug rfl ?_
  | with_reducible refine w_sAugD ?_ | with_reducible refine br_n ?_ | with_reducible refine br_t ?_ | with_reducible refine br_f ?_))
theorem law_sorted_eq {F : Str → FnM} {ds es : List D} {l : Ld} {line : Ln} (h1 : LR ds l) (h2 : LineR es line) (hn : Nd l) (hz : l.length < 64) (hl : line.length < 1000) (hs : ∀ s ∈ line, ShOk s.2) (hr : ∀ s ∈ line, Ris s.2) (hp0 : ∀ p ∈ l, 0 ≤ p.2) (hm : ∀ s ∈ line, ∀ p ∈ s.2, 0 ≤ p.2 ∧ p.2 ≤ 1000) (S : Sto) :
    runL 2 10 (b_law_sorted F) [.tuf es, .tuf ds] S = .ok (.rol ((sortF line l).map encRow)) S := by
  refine of_W (w_runL rfl ?_)
  unfold b_law_sorted
  walk_at "w"
  refine w_dictT (pairsOf_lr h1) ?_
  rw [show (l.map fun p => ((Sum.inr p.1 : Key), D.int p.2)) = kvL l from rfl, mergeA_kvL hn]
  walk_at "w"
  rw [push2, len1]
  obtain ⟨zs, rfl, rfl, hzr⟩ := paired_zip h2
  refine w_forGo (fun i env S' => ∃ e4 e5 e6 e7 e8 e9 : Option D, env = [some (.tuf (zs.map Prod.fst)), some (.tuf ds), some (.loc S.length), some (.loc (S.length + 1)), e4, e5, e6, e7, e8, e9] ∧ Ex S S' ∧ S'[S.length]? = some (.dk (kvL (goG l ((zs.map Prod.snd).take i)).2)) ∧ S'[S.length + 1]? = some (.lst ((goG l ((zs.map Prod.snd).take i)).1.map encRow)))
    ⟨_, _, _, _, _, _, rfl, ⟨_, rfl⟩, at0, at1⟩ ?_ ?_
  · rintro i x env S' hx ⟨e4, e5, e6, e7, e8, e9, rfl, hex, hL, hR⟩
    refine ⟨gok_nil, ?_⟩
    obtain ⟨z, hz', rfl⟩ := map_get hx
    have hzm := List.mem_of_getElem? hz'
    have et : (zs.map Prod.snd).take (i + 1) = (zs.map Prod.snd).take i ++ [z.2] := take_succ (by rw [List.getElem?_map, hz']; rfl)
    obtain ⟨hsn, hsl, hsb⟩ := hs z.2 (List.mem_map_of_mem hzm)
    have hleft := goG_left_len l ((zs.map Prod.snd).take i)
    have hrows := goG_rows_len l ((zs.map Prod.snd).take i)
    have hti : ((zs.map Prod.snd).take i).length ≤ (zs.map Prod.snd).length := by rw [List.length_take]; omega
    have hnn := goG_nn hp0 hn ((zs.map Prod.snd).take i) [] (fun s h => hm s (List.mem_of_mem_take h)) (fun s h => hr s (List.mem_of_mem_take h))
    have hnk : Nd (goG l ((zs.map Prod.snd).take i)).2 := by unfold Nd goG; rw [goG_keys]; exact hn
    have hnn : ∀ p ∈ (goG l ((zs.map Prod.snd).take i)).2, 0 ≤ p.2 := hnn
    generalize hst : goG l ((zs.map Prod.snd).take i) = st at hleft hrows hL hR hnn hnk
    have enext : goG l ((zs.map Prod.snd).take (i + 1)) = stepG st z.2 := by rw [et, goG_app, hst]; rfl
    have hrz := hr z.2 (List.mem_map_of_mem hzm)
    have hmz := hm z.2 (List.mem_map_of_mem hzm)
    have eG : stepG st z.2 = (st.1 ++ [(z.2.1, hereF st.2 z.2.2)], subsL st.2 (hereF st.2 z.2.2)) := by
      rw [hereF_eq hrz, ← hereF_eq hrz, subs_here hnk hrz hnn fun p hp => (hmz p hp).1, hereF_eq hrz]
      rfl
    obtain ⟨sh, hsh, he⟩ := hzr z hzm
    obtain ⟨ys, rfl, hy2, hyr⟩ := paired_zip hsh
    have hyl : ys.length < 64 := by have := congrArg List.length hy2; rw [List.length_map] at this; omega
    have hSl := lt_of hR
    rcases he with e | e
    all_goals
      rw [e]
      walk_at "w"
      refine w_forGo (fun j env S2 => ∃ e7 e8 e9 : Option D, env = [some (.tuf (zs.map Prod.fst)), some (.tuf ds), some (.loc S.length), some (.loc (S.length + 1)), some (.str z.2.1), some (.tuf (ys.map Prod.fst)), some (.loc S'.length), e7, e8, e9] ∧ Ex S S2 ∧ S2[S.length]? = some (.dk (kvL (subsL st.2 (hereF st.2 ((ys.map Prod.snd).take j))))) ∧ S2[S.length + 1]? = some (.lst (st.1.map encRow)) ∧ S2[S'.length]? = some (.lst ((hereF st.2 ((ys.map Prod.snd).take j)).map encP)))
        ⟨_, _, _, rfl, hex.push _, at_left hL, at_left hR, at0⟩ ?_ ?_
      · rintro j x env S2 hx2 ⟨e7, e8, e9, rfl, hex2, hL2, hR2, hH2⟩
        refine ⟨gok_nil, ?_⟩
        obtain ⟨y, hy', rfl⟩ := map_get hx2
        have hym := List.mem_of_getElem? hy'
        have etj : (ys.map Prod.snd).take (j + 1) = (ys.map Prod.snd).take j ++ [y.2] := take_succ (by rw [List.getElem?_map, hy']; rfl)
        have hyb := hsb y.2 (by rw [hy2]; exact List.mem_map_of_mem hym)
        have hkk := subsL_keys (hereF st.2 ((ys.map Prod.snd).take j)) st.2 fun p hp => hereF_in hp
        have hgy : getL (subsL st.2 (hereF st.2 ((ys.map Prod.snd).take j))) y.2.1 = getL st.2 y.2.1 := by
          have hrt : Ris ((ys.map Prod.snd).take j) := List.Pairwise.sublist (List.take_sublist _ _) (hy2 ▸ hrz)
          rw [getL_subs _ _ _ (hereF_ris hrt).nd fun p hp => hereF_in hp]
          have hnot : y.2.1 ∉ (hereF st.2 ((ys.map Prod.snd).take j)).map Prod.fst := by
            intro hmm
            rw [hereF_keys] at hmm
            obtain ⟨q, hq, eq⟩ := List.mem_map.mp hmm
            have hq := (List.mem_filter.mp hq).1
            have hnd : Nd (ys.map Prod.snd) := hy2 ▸ hsn
            have hnd2 : Nd ((ys.map Prod.snd).take (j + 1)) := ((List.take_sublist _ _).map Prod.fst).nodup hnd
            rw [etj] at hnd2
            unfold Nd at hnd2
            rw [List.map_append] at hnd2
            exact (List.nodup_append.mp hnd2).2.2 _ (List.mem_map_of_mem hq) _ List.mem_cons_self eq
          rw [getL_none hnot]
          cases getL st.2 y.2.1 with
          | none => rfl
          | some g => simp
        have eg : ((getL (subsL st.2 (hereF st.2 ((ys.map Prod.snd).take j))) y.2.1).map D.int).getD (.int 0) = .int ((getL st.2 y.2.1).getD 0) := by
          rw [hgy]
          cases getL st.2 y.2.1 <;> rfl
        have e1 : hereF st.2 [y.2] = if 0 < (getL st.2 y.2.1).getD 0 * y.2.2 / 1000 then [(y.2.1, (getL st.2 y.2.1).getD 0 * y.2.2 / 1000)] else [] := by
          unfold hereF
          rw [List.map_cons, List.map_nil, List.filter_cons, List.filter_nil]
          by_cases h : 0 < (getL st.2 y.2.1).getD 0 * y.2.2 / 1000
          · rw [if_pos h, if_pos (decide_eq_true h)]
          · rw [if_neg h, if_neg (by rw [decide_eq_false h]; exact Bool.false_ne_true)]
        have hl1 := lt_of hL2
        have hl2 := lt_of hR2
        have hl3 := lt_of hH2
        have hhl : (hereF st.2 ((ys.map Prod.snd).take j)).length ≤ ys.length := by
          unfold hereF
          refine Nat.le_trans (List.length_filter_le _ _) ?_
          rw [List.length_map, List.length_take, List.length_map]
          omega
        rcases hyr y hym with e | e
        all_goals
          rw [e]
          walk_at "w"
          refine dv_q (k_loc hL2) ?_
          walk_at "w"
          refine gt2_k (k_loc hL2) (k := Sum.inr y.2.1) rfl ?_
          rw [getA_kvL, eg]
          walk_at "w"
          refine br_d (fun hg => ?_) fun hg => ?_
          · rw [if_pos hg] at e1
            walk_at "w"
            refine w_append hH2 (by rw [List.length_map]; unfold big; omega) ?_
            have hL3 : (S2.set S'.length (.lst ((hereF st.2 ((ys.map Prod.snd).take j)).map encP ++ [.tuf [.str y.2.1, .int ((getL st.2 y.2.1).getD 0 * y.2.2 / 1000)]])))[S.length]? = some (.dk (kvL (subsL st.2 (hereF st.2 ((ys.map Prod.snd).take j))))) := set_ne hL2 (by omega)
            have hR3 : (S2.set S'.length (.lst ((hereF st.2 ((ys.map Prod.snd).take j)).map encP ++ [.tuf [.str y.2.1, .int ((getL st.2 y.2.1).getD 0 * y.2.2 / 1000)]])))[S.length + 1]? = some (.lst (st.1.map encRow)) := set_ne hR2 (by omega)
            have hH3 := set_eq (o' := .lst ((hereF st.2 ((ys.map Prod.snd).take j)).map encP ++ [.tuf [.str y.2.1, .int ((getL st.2 y.2.1).getD 0 * y.2.2 / 1000)]])) hH2
            have hx3 := hex2.set (o := .lst ((hereF st.2 ((ys.map Prod.snd).take j)).map encP ++ [.tuf [.str y.2.1, .int ((getL st.2 y.2.1).getD 0 * y.2.2 / 1000)]])) (show S.length ≤ S'.length by omega)
            generalize S2.set S'.length _ = S3 at hL3 hR3 hH3 hx3 ⊢
            obtain ⟨g, hg2⟩ : ∃ g, getL st.2 y.2.1 = some g := by
              cases h : getL st.2 y.2.1 with
              | some g => exact ⟨g, rfl⟩
              | none => rw [h] at hg; simp at hg
            walk_at "w"
            refine w_ixDl hL3 (k := Sum.inr y.2.1) rfl (by rw [getA_kvL, hgy, hg2]; rfl) ?_
            walk_at "w"
            refine w_setD (k := Sum.inr y.2.1) hL3 rfl (by unfold kvL; rw [List.length_map]; have := congrArg List.length hkk; rw [List.length_map, List.length_map] at this; unfold big; omega) ?_
            rw [kvL_put]
            walk_at "w"
            refine ⟨_, _, _, rfl, hx3.set (Nat.le_refl _), ?_, set_ne hR3 (by omega), ?_⟩
            · rw [set_eq hL3, etj, hereF_app, e1, subsL_app]
              show _ = some (Ob.dk (kvL (subL (subsL st.2 (hereF st.2 ((ys.map Prod.snd).take j))) y.2.1 ((getL st.2 y.2.1).getD 0 * y.2.2 / 1000))))
              unfold subL
              rw [hgy, hg2]
              rfl
            · rw [set_ne hH3 (by omega), etj, hereF_app, e1, List.map_append]
              rfl
          · rw [if_neg hg] at e1
            walk_at "w"
            refine ⟨_, _, _, rfl, hex2, ?_, hR2, ?_⟩
            · rw [etj, hereF_app, e1, List.append_nil]; exact hL2
            · rw [etj, hereF_app, e1, List.append_nil]; exact hH2
      · rintro env S2 ⟨e7, e8, e9, rfl, hex2, hL2, hR2, hH2⟩
        refine ⟨gok_nil, ?_⟩
        rw [List.length_map, List.take_of_length_le (by rw [List.length_map]; exact Nat.le_refl _), ← hy2] at hL2 hH2
        have hl3 := lt_of hH2
        walk_at "w"
        refine w_tufL (lrd_loc hH2) ?_
        walk_at "w"
        refine w_append hR2 (by rw [List.length_map, hrows]; unfold big; omega) ?_
        walk_at "w"
        refine ⟨_, _, _, _, _, _, rfl, hex2.set (by omega), ?_, ?_⟩
        · rw [enext, eG]
          exact set_ne hL2 (by omega)
        · rw [set_eq hR2, enext, eG, List.map_append]
          rfl
  · rintro env S' ⟨e4, e5, e6, e7, e8, e9, rfl, hex, hL, hR⟩
    refine ⟨gok_nil, ?_⟩
    rw [List.length_map, List.take_of_length_le (by rw [List.length_map]; exact Nat.le_refl _)] at hL hR
    have hll := goG_left_len l (zs.map Prod.snd)
    have hrl := goG_rows_len l (zs.map Prod.snd)
    have hll2 : (zs.map Prod.snd).length < 1000 := hl
    generalize hst : goG l (zs.map Prod.snd) = st at hL hR hll hrl
    walk_at "w"
    refine w_sortedK (k_loc hL) (ss := st.2.map Prod.fst) (kvL_keys _) (by rw [List.length_map]; omega) ?_
    walk_at "w"
    refine ⟨by rw [List.length_map, (sortStrs_perm _).length_eq, List.length_map]; unfold big; omega, w_lcMap (fun k : Str => decide (0 < (getL st.2 k).getD 0)) (fun k => encP (k, (getL st.2 k).getD 0)) rfl (fun k hm => ?_) ?_⟩
    · obtain ⟨g, hg⟩ := getL_mem ((sortStrs_perm _).mem_iff.mp hm)
      rw [hg]
      walk_at "w"
      refine w_ixDl hL (k := Sum.inr k) rfl (by rw [getA_kvL, hg]; rfl) ?_
      walk_at "w"
      refine br_d (fun h => ⟨decide_eq_true h, ?_⟩) fun h => ⟨decide_eq_false h, rfl⟩
      walk_at "w"
      refine w_ixDl hL (k := Sum.inr k) rfl (by rw [getA_kvL, hg]; rfl) ?_
      walk_at "w"
      exact ⟨rfl, rfl⟩
    · refine w_tufL rfl ?_
      walk_at "w"
      refine w_catL (lrd_loc hR) rfl (by rw [List.length_map, hrl, List.length_singleton]; unfold big; omega) ?_
      walk_at "w"
      have efin : st.1.map encRow ++ [.tuf [.str "rest", .tuf (((sortStrs (st.2.map Prod.fst)).filter fun k => decide (0 < (getL st.2 k).getD 0)).map fun k => encP (k, (getL st.2 k).getD 0))]] = (sortF (zs.map Prod.snd) l).map encRow := by
        unfold sortF
        rw [hst, List.map_append]
        show _ = _ ++ [encRow ("rest", loadOf st.2)]
        unfold encRow loadOf
        rw [List.map_map]
        rfl
      rw [efin]
      exact tr_ex hex (rows_lts _ _) ⟨rfl, rfl⟩
end Bz

set_option Elab.async false
set_option linter.all false
set_option maxRecDepth 100000
set_option maxHeartbeats 4000000
/-! Bz: loads. -/
namespace Bz
open PySem PySem.Spec PyProof.Rows L2
local macro_rules | `(tactic| walk_at "w") => `(tactic| repeat (first
  | with_reducible refine w_sSeq ?_ | with_reducible refine w_sIf ?_ | with_reducible refine w_sAsg ?_ | with_reducible refine w_sRet ?_ | with_reducible refine w_sNil ?_ | with_reducible refine w_sExpr ?_
  | with_reducible refine w_sFor ?_ | with_reducible refine w_asB ?_ | with_reducible refine w_tru ?_ | with_reducible refine w_tsAnd ?_ | with_reducible refine w_tsOr ?_ | with_reducible refine w_tsNot ?_
  | with_reducible refine w_tsYes ?_ | with_reducible refine w_and ?_ | with_reducible refine w_or ?_ | with_reducible refine w_not ?_ | with_reducible refine w_eIf ?_ | with_reducible refine w_bin ?_
  | with_reducible refine w_un ?_ | with_reducible refine w_chain ?_ | with_reducible refine w_nm rfl ?_ | with_reducible refine w_c ?_ | with_reducible refine w_stlV ?_ | with_reducible refine w_stlN ?_
  | with_reducible refine w_stlK ?_ | with_reducible refine w_stlT ?_ | with_reducible refine w_aNil ?_ | with_reducible refine w_aCons ?_ | with_reducible refine w_fz ?_ | with_reducible refine fz_v ?_
  | with_reducible refine fz_n ?_ | with_reducible refine fz_k ?_ | with_reducible refine fz_t ?_ | with_reducible refine w_fzL ?_ | with_reducible refine fl_d rfl ?_ | with_reducible refine fl_n ?_
  | with_reducible refine fl_k ?_ | with_reducible refine fl_t ?_ | with_reducible refine w_eTup ?_ | with_reducible refine w_eTuf ?_ | with_reducible refine w_eLst ?_ | with_reducible refine w_dnK ?_
  | with_reducible refine w_dnT ?_ | with_reducible refine w_call ?_ | with_reducible refine w_eSl ?_ | with_reducible refine w_ptNo ?_ | with_reducible refine w_ptI ?_ | with_reducible refine w_m1 ?_
  | with_reducible refine w_m2 ?_ | with_reducible refine w_get1 ?_ | with_reducible refine w_get2 ?_ | with_reducible refine w_eLc ?_ | with_reducible refine w_eDc ?_ | with_reducible refine dl_q (Nat.le_of_ble_eq_true rfl) ?_
  | with_reducible refine int_q ?_ | with_reducible refine as_q ?_ | with_reducible refine ty_q (ty_loc (by assumption)) ?_ | with_reducible refine sq_nx ?_ | with_reducible refine sq_rt ?_ | with_reducible refine sq_bk ?_
  | with_reducible refine sq_ct ?_ | with_reducible refine fq_rt ?_ | with_reducible refine fq_nx ?_ | with_reducible refine tq_nx ?_ | with_reducible refine tq_ct ?_ | with_reducible refine tq_bk ?_
  | with_reducible refine tq_rt ?_ | with_reducible refine w_srBB ?_ | with_reducible refine bq_tup ?_ | with_reducible refine bq_tuf ?_ | with_reducible refine bq_rol ?_ | with_reducible refine bq_str ?_
  | with_reducible refine bq_rod ?_ | with_reducible refine bq_loc (by assumption) ?_ | with_reducible refine w_srR1 ?_ | with_reducible refine w_srR2 ?_ | with_reducible refine w_srZB ?_ | with_reducible refine w_srItems ?_
  | with_reducible refine w_srVals ?_ | with_reducible refine w_srEn ?_ | with_reducible refine w_addI ?_ | with_reducible refine w_subI ?_ | with_reducible refine w_mulI (by omega) ?_ | with_reducible refine w_divI (by omega) (by omega) ?_
  | with_reducible refine w_modI (by first | omega | decide +kernel) ?_ | with_reducible refine w_powI rfl ?_ | with_reducible refine w_neg ?_ | with_reducible refine w_iaddI ?_ | with_reducible refine w_max ?_ | with_reducible refine w_min ?_
  | with_reducible refine w_abs ?_ | with_reducible refine w_gtI ?_ | with_reducible refine w_ltI ?_ | with_reducible refine w_leI ?_ | with_reducible refine w_geI ?_ | with_reducible refine w_eqI ?_
  | with_reducible refine w_neI ?_ | with_reducible refine w_eqS ?_ | with_reducible refine w_neS ?_ | with_reducible refine w_ixT rfl ?_ | with_reducible refine w_ixR rfl ?_ | with_reducible refine w_ixF rfl ?_
  | with_reducible refine w_ixL (by assumption) rfl ?_ | with_reducible refine w_len (seq_loc (by assumption)) ?_ | with_reducible refine w_len rfl ?_ | with_reducible refine w_gNm (Nat.le_of_ble_eq_true rfl) ?_ | with_reducible refine w_gSb ?_ | with_reducible refine w_gTp rfl ?_
  | with_reducible refine w_gTf rfl ?_ | with_reducible refine w_gsCons ?_ | with_reducible refine w_gsNil ?_ | with_reducible refine w_sPar2 ?_ | with_reducible refine w_sPar3 ?_ | with_reducible refine w_sAug rfl ?_
  | with_reducible refine w_sAugD ?_ | with_reducible refine br_n ?_ | with_reducible refine br_t ?_ | with_reducible refine br_f ?_))
/-! ### data of loads, rows -/
theorem eqvAll_map {α : Type} [DecidableEq α] (f : α → PyData) (h : ∀ x y, PyData.eqv (f x) (f y) = decide (x = y)) : ∀ a b : List α, PyData.eqvAll (a.map f) (b.map f) = decide (a = b)
  | [], [] => by simp [PyData.eqvAll]
  | [], _ :: _ => by simp [PyData.eqvAll]
  | _ :: _, [] => by simp [PyData.eqvAll]
  | p :: a, q :: b => by
    rw [List.map_cons, List.map_cons, PyData.eqvAll, h, eqvAll_map f h a b, ← Bool.decide_and]
    exact decide_eq_decide.mpr (by rw [List.cons.injEq])
theorem eqv_tup {α : Type} [DecidableEq α] (f : α → PyData) (h : ∀ x y, PyData.eqv (f x) (f y) = decide (x = y)) (a b : List α) : PyData.eqv (.tuple (a.map f)) (.tuple (b.map f)) = decide (a = b) := by
  rw [PyData.eqv, eqvAll_map f h]
theorem eqv_lst {α : Type} [DecidableEq α] (f : α → PyData) (h : ∀ x y, PyData.eqv (f x) (f y) = decide (x = y)) (a b : List α) : PyData.eqv (.list (a.map f)) (.list (b.map f)) = decide (a = b) := by
  rw [PyData.eqv, eqvAll_map f h]
theorem eqv_pair {α β : Type} [DecidableEq α] [DecidableEq β] (f : α → PyData) (g : β → PyData) (hf : ∀ x y, PyData.eqv (f x) (f y) = decide (x = y)) (hg : ∀ x y, PyData.eqv (g x) (g y) = decide (x = y)) (a b : α × β) : PyData.eqv (.tuple [f a.1, g a.2]) (.tuple [f b.1, g b.2]) = decide (a = b) := by
  simp only [PyData.eqv, PyData.eqvAll, Bool.and_true, hf, hg]
  rw [← Bool.decide_and]
  exact decide_eq_decide.mpr ⟨fun e => Prod.ext e.1 e.2, fun e => by rw [e]; exact ⟨rfl, rfl⟩⟩
theorem eqv_int (x y : Int) : PyData.eqv (.int x) (.int y) = decide (x = y) := by
  rw [PyData.eqv]; rfl
theorem eqv_str (x y : Str) : PyData.eqv (.str x) (.str y) = decide (x = y) := by
  rw [PyData.eqv, Bool.beq_eq_decide_eq]
/-- laid out, and not deep -/
def Lay (n : Nat) (p : PyData) : Prop := p.canLay0 = true ∧ p.depth ≤ n
theorem lay_int (i : Int) : Lay 0 (.int i) := ⟨by simp [PyData.canLay0], Nat.le_refl _⟩
abbrev sOk (i : Str) : Prop := PyData.strOk i = true
theorem lay_str {i : Str} (h : sOk i) : Lay 0 (.str i) := ⟨by rw [PyData.canLay0]; exact h, Nat.le_refl _⟩
theorem Lay.up {n m : Nat} {p : PyData} (h : Lay n p) (hm : n ≤ m) : Lay m p := ⟨h.1, Nat.le_trans h.2 hm⟩
theorem canAll : ∀ {ps : List PyData}, (∀ p ∈ ps, p.canLay0 = true) → PyData.canLayAll0 ps = true
  | [], _ => rfl
  | p :: ps, h => by rw [PyData.canLayAll0, h p List.mem_cons_self, canAll fun q hq => h q (List.mem_cons_of_mem _ hq)]; rfl
theorem lay_tup {n : Nat} {ps : List PyData} (h : ∀ p ∈ ps, Lay n p) : Lay (n + 1) (.tuple ps) := by
  refine ⟨?_, ?_⟩
  · rw [PyData.canLay0]; exact canAll fun p hp => (h p hp).1
  · rw [PyData.depth]; have := depAll_le fun p hp => (h p hp).2; omega
theorem lay_lst {n : Nat} {ps : List PyData} (h : ∀ p ∈ ps, Lay n p) : Lay (n + 1) (.list ps) := by
  refine ⟨?_, ?_⟩
  · rw [PyData.canLay0]; exact canAll fun p hp => (h p hp).1
  · rw [PyData.depth]; have := depAll_le fun p hp => (h p hp).2; omega
theorem Lay.shaped {n : Nat} {p : PyData} (h : Lay n p) (hn : n ≤ 64) : SeqAt.shaped p = true := by
  unfold SeqAt.shaped
  rw [h.1]
  exact decide_eq_true (Nat.le_trans h.2 hn)
theorem lay_map {α : Type} {n : Nat} {f : α → PyData} {l : List α} (h : ∀ x ∈ l, Lay n (f x)) : ∀ p ∈ l.map f, Lay n p := fun p hp => by
  obtain ⟨x, hx, rfl⟩ := List.mem_map.mp hp
  exact h x hx
theorem lay_two {n : Nat} {p q : PyData} (h1 : Lay n p) (h2 : Lay n q) : ∀ r ∈ [p, q], Lay n r := fun r hr => by
  simp only [List.mem_cons, List.not_mem_nil, or_false] at hr
  rcases hr with rfl | rfl
  · exact h1
  · exact h2
theorem eq_data {x y : Rv} {S : Sto} {p q : PyData} {n : Nat} {b : Bool} (h1 : rfx x S = some p) (h2 : rfx y S = some q) (l1 : Lay n p) (l2 : Lay n q) (hn : n ≤ 64) (h : PyData.eqv p q = b) (hx : ∀ z, x ≠ .val (.str z)) (hy : ∀ z, x ≠ .val (.int z)) : eqOf x y S = some b := by
  unfold eqOf
  split
  · exact absurd rfl (hx _)
  · exact absurd rfl (hy _)
  · rw [h1, h2]
    show (if (SeqAt.shaped p && SeqAt.shaped q) = true then some (PyData.eqv p q) else none) = _
    rw [if_pos (by rw [l1.shaped hn, l2.shaped hn]; rfl), h]
theorem pPair_eqv (a b : Str × Int) : PyData.eqv (pPair a) (pPair b) = decide (a = b) := eqv_pair PyData.str PyData.int eqv_str eqv_int a b
theorem pPair_lay {a : Str × Int} (h : sOk a.1) : Lay 1 (pPair a) := lay_tup (lay_two (lay_str h) (lay_int _))
def LdOk (l : Ld) : Prop := ∀ p ∈ l, sOk p.1
def RwOk (r : Ln) : Prop := ∀ s ∈ r, sOk s.1 ∧ LdOk s.2
def pLoad (l : Ld) : PyData := .tuple (l.map pPair)
theorem pLoad_eqv (a b : Ld) : PyData.eqv (pLoad a) (pLoad b) = decide (a = b) := eqv_tup pPair pPair_eqv a b
theorem pLoad_lay {a : Ld} (h : LdOk a) : Lay 2 (pLoad a) := lay_tup (lay_map fun p hp => pPair_lay (h p hp))
def pRow (r : Str × Ld) : PyData := .tuple [.str r.1, pLoad r.2]
theorem pRow_eqv (a b : Str × Ld) : PyData.eqv (pRow a) (pRow b) = decide (a = b) := eqv_pair PyData.str pLoad eqv_str pLoad_eqv a b
theorem pRow_lay {a : Str × Ld} (h : sOk a.1 ∧ LdOk a.2) : Lay 3 (pRow a) := lay_tup (lay_two ((lay_str h.1).up (by decide)) (pLoad_lay h.2))
def pRows (r : Ln) : PyData := .list (r.map pRow)
theorem pRows_eqv (a b : Ln) : PyData.eqv (pRows a) (pRows b) = decide (a = b) := eqv_lst pRow pRow_eqv a b
theorem pRows_lay {a : Ln} (h : RwOk a) : Lay 4 (pRows a) := lay_lst (lay_map fun r hr => pRow_lay (h r hr))
theorem rfd_P (lk : Nat → Option PyData) (p : Str × Int) : rfd lk (encP p) = some (pPair p) := rfl
theorem rfd_T (lk : Nat → Option PyData) (p : Str × Int) : rfd lk (encT p) = some (pPair p) := rfl
theorem rfd_LP (lk : Nat → Option PyData) (l : Ld) : rfd lk (.tuf (l.map encP)) = some (pLoad l) := by
  show (rfds lk (l.map encP)).map PyData.tuple = _
  rw [rfds_mapG (rfd_P lk)]
  rfl
theorem rfd_LT (lk : Nat → Option PyData) (l : Ld) : rfd lk (.tuf (l.map encT)) = some (pLoad l) := by
  show (rfds lk (l.map encT)).map PyData.tuple = _
  rw [rfds_mapG (rfd_T lk)]
  rfl
theorem rfd_row (lk : Nat → Option PyData) (r : Str × Ld) : rfd lk (encRow r) = some (pRow r) := by
  show (rfds lk [.str r.1, .tuf (r.2.map encP)]).map PyData.tuple = _
  show (match (some (PyData.str r.1)), (match rfd lk (.tuf (r.2.map encP)), (some [] : Option (List PyData)) with
    | some d, some ds => some (d :: ds)
    | _, _ => none) with
    | some d, some ds => some (d :: ds)
    | _, _ => none).map PyData.tuple = _
  rw [rfd_LP]
  rfl
theorem rfds_rows (lk : Nat → Option PyData) (r : Ln) : rfds lk (r.map encRow) = some (r.map pRow) := rfds_mapG (rfd_row lk) r
/-- a list of rows -/
theorem rfx_rows {S : Sto} (r : Ln) : rfx (.val (.rol (r.map encRow))) S = some (pRows r) := by
  show (rfds (lkS S 12) (r.map encRow)).map PyData.list = _
  rw [rfds_rows]
  rfl
theorem rfx_rowsN {S : Sto} (r : Ln) : rfx (.new (r.map encRow)) S = some (pRows r) := by
  show (rfds (lkS S 12) (r.map encRow)).map PyData.list = _
  rw [rfds_rows]
  rfl
theorem eq_rows {x y : Rv} {S : Sto} {a b : Ln} (o1 : RwOk a) (o2 : RwOk b) (h1 : rfx x S = some (pRows a)) (h2 : rfx y S = some (pRows b)) (hx : ∀ z, x ≠ .val (.str z)) (hy : ∀ z, x ≠ .val (.int z)) : eqOf x y S = some (decide (a = b)) :=
  eq_data h1 h2 (pRows_lay o1) (pRows_lay o2) (by decide) (pRows_eqv a b) hx hy
theorem eq_load {x y : Rv} {S : Sto} {a b : Ld} (o1 : LdOk a) (o2 : LdOk b) (h1 : rfx x S = some (pLoad a)) (h2 : rfx y S = some (pLoad b)) (hx : ∀ z, x ≠ .val (.str z)) (hy : ∀ z, x ≠ .val (.int z)) : eqOf x y S = some (decide (a = b)) :=
  eq_data h1 h2 (pLoad_lay o1) (pLoad_lay o2) (by decide) (pLoad_eqv a b) hx hy
/-! ### grams, kind by kind -/
def gr (l : Ld) (k : Str) : Int := (getL l k).getD 0
def Nn (l : Ld) : Prop := ∀ p ∈ l, 0 ≤ p.2
theorem gr_nn {l : Ld} (h : Nn l) (k : Str) : 0 ≤ gr l k := by
  unfold gr
  cases e : getL l k with
  | none => exact Int.le_refl _
  | some g => exact h _ (getL_of e)
theorem mem_loadOf_gr {l : Ld} (h : Nd l) {k : Str} {g : Int} : (k, g) ∈ loadOf l ↔ gr l k = g ∧ 0 < g := by
  rw [mem_loadOf h]
  constructor
  · rintro ⟨h1, h2⟩
    refine ⟨?_, h2⟩
    unfold gr
    rw [getL_some h h1]
    rfl
  · rintro ⟨h1, h2⟩
    refine ⟨?_, h2⟩
    unfold gr at h1
    cases e : getL l k with
    | none => rw [e] at h1; simp at h1; have h2 : (0 : Int) < g := h2; omega
    | some y => rw [e] at h1; have h1 : y = g := h1; rw [← h1]; exact getL_of e
theorem loadOf_ext {l m : Ld} (h1 : Nd l) (h2 : Nd m) (h : ∀ k, gr l k = gr m k) : loadOf l = loadOf m := by
  refine ris_ext (loadOf_ris h1) (loadOf_ris h2) fun p => ?_
  obtain ⟨k, g⟩ := p
  rw [mem_loadOf_gr h1, mem_loadOf_gr h2, h]
theorem gr_loadOf {l : Ld} (h : Nd l) (hn : Nn l) (k : Str) : gr (loadOf l) k = gr l k := by
  have h0 := gr_nn hn k
  by_cases hg : 0 < gr l k
  · have := (mem_loadOf_gr h (k := k) (g := gr l k)).mpr ⟨rfl, hg⟩
    show (getL (loadOf l) k).getD 0 = _
    rw [getL_some (loadOf_ris h).nd this]
    rfl
  · have e0 : gr l k = 0 := by omega
    rw [e0]
    unfold gr
    cases e : getL (loadOf l) k with
    | none => rfl
    | some g =>
      have := (mem_loadOf_gr h).mp (getL_of e)
      omega
theorem loadOf_nn (l : Ld) : Nn (loadOf l) := fun p hp => by
  unfold loadOf at hp
  obtain ⟨k, hk, rfl⟩ := List.mem_map.mp hp
  have := of_decide_eq_true (List.mem_filter.mp hk).2
  show 0 ≤ (getL l k).getD 0
  omega
theorem loadOf_same {l : Ld} (h : Ris l) (hp : ∀ p ∈ l, 0 < p.2) : loadOf l = l := ris_ext (loadOf_ris h.nd) h fun p => by
  rw [mem_loadOf h.nd]
  exact ⟨fun q => q.1, fun q => ⟨q, hp p q⟩⟩
theorem gr_tkT {left sh : Ld} (hs : Nd sh) (k : Str) : gr (tkT left sh) k = gr left k * gr sh k / 1000 := by
  have hn := tkT_nd (left := left) hs
  unfold gr
  cases e : getL (tkT left sh) k with
  | some g =>
    have := getL_of e
    unfold tkT at this
    obtain ⟨q, hq, e4⟩ := List.mem_map.mp this
    obtain ⟨e5, e6⟩ := Prod.mk.inj e4
    rw [← e5, getL_some hs (List.mem_filter.mp hq).1, ← e6]
    rfl
  | none =>
    cases e2 : getL left k with
    | none => simp
    | some g =>
      cases e3 : getL sh k with
      | none => simp
      | some y =>
        have hm : (k, (getL left k).getD 0 * y / 1000) ∈ tkT left sh := by
          unfold tkT
          exact List.mem_map.mpr ⟨(k, y), List.mem_filter.mpr ⟨getL_of e3, by rw [e2]; rfl⟩, rfl⟩
        rw [getL_some hn hm] at e
        cases e
theorem gr_tkL {left sh : Ld} (hs : Nd sh) (k : Str) : gr (tkL left sh) k = gr left k - gr left k * gr sh k / 1000 := by
  have e := gr_tkT (left := left) hs k
  unfold tkL gr at *
  rw [getL_subs _ _ _ (tkT_nd hs) fun p hp => tkT_mem hp, e]
  cases e2 : getL left k with
  | none => simp
  | some g => simp
theorem tkL_nd {left sh : Ld} (h : Nd left) : Nd (tkL left sh) := by unfold Nd; rw [tkL_keys]; exact h
theorem gr_le {sh : Ld} (h : ∀ p ∈ sh, 0 ≤ p.2 ∧ p.2 ≤ 1000) (k : Str) : 0 ≤ gr sh k ∧ gr sh k ≤ 1000 := by
  unfold gr
  cases e : getL sh k with
  | none => exact ⟨Int.le_refl _, by decide⟩
  | some g => exact h _ (getL_of e)
theorem part_le {a m : Int} (h0 : 0 ≤ a) (hm : 0 ≤ m) (h1 : m ≤ 1000) : 0 ≤ a * m / 1000 ∧ a * m / 1000 ≤ a := by
  refine ⟨Int.ediv_nonneg (Int.mul_nonneg h0 hm) (by decide), ?_⟩
  have : a * m ≤ a * 1000 := Int.mul_le_mul_of_nonneg_left h1 h0
  omega
/-- shares as they are wanted -/
def ShP (sh : Ld) : Prop := Nd sh ∧ ∀ p ∈ sh, 0 ≤ p.2 ∧ p.2 ≤ 1000
/-- what is left of a kind behind a line -/
def lfK (g : Int) (line : Ln) (k : Str) : Int := line.foldl (fun g s => g - g * gr s.2 k / 1000) g
theorem gr_left {l : Ld} : ∀ (line : Ln) (r : Ln) (l : Ld), (∀ s ∈ line, ShP s.2) → ∀ k, gr (line.foldl stepG (r, l)).2 k = lfK (gr l k) line k
  | [], _, _, _, _ => rfl
  | s :: line, r, l, h, k => by
    have := gr_left (l := l) line (r ++ [(s.1, loadOf (tkT l s.2))]) (tkL l s.2) (fun s' h' => h s' (List.mem_cons_of_mem _ h')) k
    show gr (line.foldl stepG (stepG (r, l) s)).2 k = _
    rw [show stepG (r, l) s = (r ++ [(s.1, loadOf (tkT l s.2))], tkL l s.2) from rfl, this, gr_tkL (h s List.mem_cons_self).1]
    rfl
theorem goG_nd {l : Ld} (h : Nd l) (line r : Ln) : Nd (line.foldl stepG (r, l)).2 := by unfold Nd; rw [goG_keys]; exact h
/-- what stands ahead of it is kept -/
theorem goG_pre (l : Ld) : ∀ (line r : Ln), line.foldl stepG (r, l) = (r ++ (goG l line).1, (goG l line).2) := by
  intro line
  induction line generalizing l with
  | nil => intro r; simp [goG]
  | cons s line ih =>
    intro r
    have e1 := ih (tkL l s.2) (r ++ [(s.1, loadOf (tkT l s.2))])
    have e2 := ih (tkL l s.2) ([] ++ [(s.1, loadOf (tkT l s.2))])
    show (line.foldl stepG (r ++ [(s.1, loadOf (tkT l s.2))], tkL l s.2)) = (r ++ (line.foldl stepG ([] ++ [(s.1, loadOf (tkT l s.2))], tkL l s.2)).1, (line.foldl stepG ([] ++ [(s.1, loadOf (tkT l s.2))], tkL l s.2)).2)
    rw [e1, e2]
    simp
theorem goG_cons (l : Ld) (s : Str × Ld) (line : Ln) : goG l (s :: line) = ((s.1, loadOf (tkT l s.2)) :: (goG (tkL l s.2) line).1, (goG (tkL l s.2) line).2) := by
  show line.foldl stepG ([] ++ [(s.1, loadOf (tkT l s.2))], tkL l s.2) = _
  rw [goG_pre]
  rfl
theorem sortF_cons (l : Ld) (s : Str × Ld) (line : Ln) : sortF (s :: line) l = (s.1, loadOf (tkT l s.2)) :: sortF line (tkL l s.2) := by
  unfold sortF
  rw [goG_cons]
  rfl
theorem sortF_nil (l : Ld) : sortF [] l = [(("rest" : Str), loadOf l)] := rfl
/-- only the grams count -/
theorem sortF_ext : ∀ (line : Ln) {l m : Ld}, Nd l → Nd m → (∀ k, gr l k = gr m k) → (∀ s ∈ line, Nd s.2) → sortF line l = sortF line m
  | [], l, m, h1, h2, h, _ => by rw [sortF_nil, sortF_nil, loadOf_ext h1 h2 h]
  | s :: line, l, m, h1, h2, h, hs => by
    have hs0 := hs s List.mem_cons_self
    rw [sortF_cons, sortF_cons, sortF_ext line (l := tkL l s.2) (m := tkL m s.2) (tkL_nd h1) (tkL_nd h2) (fun k => by rw [gr_tkL hs0, gr_tkL hs0, h]) fun s' h' => hs s' (List.mem_cons_of_mem _ h')]
    rw [loadOf_ext (l := tkT l s.2) (m := tkT m s.2) (tkT_nd hs0) (tkT_nd hs0) fun k => by rw [gr_tkT hs0, gr_tkT hs0, h]]
theorem sortF_app : ∀ (a b : Ln) (l : Ld), sortF (a ++ b) l = (goG l a).1 ++ sortF b (goG l a).2
  | [], b, l => rfl
  | s :: a, b, l => by
    rw [List.cons_append, sortF_cons, sortF_app a b, goG_cons]
    rfl
theorem sortF_len (line : Ln) (l : Ld) : (sortF line l).length = line.length + 1 := by
  unfold sortF
  rw [List.length_append, goG_rows_len]
  rfl
theorem tk_nn {l sh : Ld} (hl : Nd l) (hn : Nn l) (hs : ShP sh) : Nn (tkL l sh) := fun p hp => by
  have e := getL_some (tkL_nd hl) hp
  have e2 : gr (tkL l sh) p.1 = p.2 := by unfold gr; rw [e]; rfl
  rw [← e2, gr_tkL hs.1]
  have := gr_le hs.2 p.1
  have := part_le (gr_nn hn p.1) this.1 this.2
  omega
theorem goG_Nn {l : Ld} (hl : Nd l) (hn : Nn l) : ∀ (line : Ln), (∀ s ∈ line, ShP s.2) → Nn (goG l line).2 := by
  intro line
  induction line generalizing l with
  | nil => intro _; exact hn
  | cons s line ih =>
    intro hs
    rw [goG_cons]
    exact ih (tkL_nd hl) (tk_nn hl hn (hs s List.mem_cons_self)) fun s' h' => hs s' (List.mem_cons_of_mem _ h')
theorem sortF_names (line : Ln) (l : Ld) : (sortF line l).map Prod.fst = line.map Prod.fst ++ [("rest" : Str)] := by
  induction line generalizing l with
  | nil => rfl
  | cons s line ih => rw [sortF_cons, List.map_cons, List.map_cons, ih, List.cons_append]
theorem ok_keys {l m : Ld} (h : LdOk l) (hk : ∀ p ∈ m, p.1 ∈ l.map Prod.fst) : LdOk m := fun p hp => by
  obtain ⟨q, hq, e⟩ := List.mem_map.mp (hk p hp)
  rw [← e]
  exact h q hq
theorem loadOf_in {l : Ld} {p : Str × Int} (h : p ∈ loadOf l) : p.1 ∈ l.map Prod.fst := by
  unfold loadOf at h
  obtain ⟨k, hk, rfl⟩ := List.mem_map.mp h
  exact (sortStrs_perm _).mem_iff.mp (List.mem_filter.mp hk).1
theorem ok_loadOf {l : Ld} (h : LdOk l) : LdOk (loadOf l) := ok_keys h fun p hp => loadOf_in hp
theorem ok_tkT {l sh : Ld} (h : LdOk l) : LdOk (tkT l sh) := ok_keys h fun p hp => tkT_mem hp
theorem ok_tkL {l sh : Ld} (h : LdOk l) : LdOk (tkL l sh) := ok_keys h fun p hp => by rw [← tkL_keys l sh]; exact List.mem_map_of_mem hp
theorem ok_sortF : ∀ (line : Ln) {l : Ld}, LdOk l → (∀ s ∈ line, sOk s.1) → RwOk (sortF line l)
  | [], l, h, _, s, hs => by
    rw [sortF_nil] at hs
    rw [List.mem_singleton.mp hs]
    exact ⟨(by decide +kernel : sOk "rest"), ok_loadOf h⟩
  | s :: line, l, h, hn, r, hr => by
    rw [sortF_cons] at hr
    rcases List.mem_cons.mp hr with rfl | hr
    · exact ⟨hn s List.mem_cons_self, ok_loadOf (ok_tkT h)⟩
    · exact ok_sortF line (ok_tkL h) (fun s' h' => hn s' (List.mem_cons_of_mem _ h')) r hr
end Bz

set_option Elab.async false
set_option linter.all false
set_option maxRecDepth 100000
set_option maxHeartbeats 4000000
/-! Bz: loads. -/
namespace Bz
open PySem PySem.Spec PyProof.Rows L2
local macro_rules | `(tactic| walk_at "w") => `(tactic| repeat (first
  | with_reducible refine w_sSeq ?_ | with_reducible refine w_sIf ?_ | with_reducible refine w_sAsg ?_ | with_reducible refine w_sRet ?_ | with_reducible refine w_sNil ?_ | with_reducible refine w_sExpr ?_
  | with_reducible refine w_sFor ?_ | with_reducible refine w_asB ?_ | with_reducible refine w_tru ?_ | with_reducible refine w_tsAnd ?_ | with_reducible refine w_tsOr ?_ | with_reducible refine w_tsNot ?_
  | with_reducible refine w_tsYes ?_ | with_reducible refine w_and ?_ | with_reducible refine w_or ?_ | with_reducible refine w_not ?_ | with_reducible refine w_eIf ?_ | with_reducible refine w_bin ?_
  | with_reducible refine w_un ?_ | with_reducible refine w_chain ?_ | with_reducible refine w_nm rfl ?_ | with_reducible refine w_c ?_ | with_reducible refine w_stlV ?_ | with_reducible refine w_stlN ?_
  | with_reducible refine w_stlK ?_ | with_reducible refine w_stlT ?_ | with_reducible refine w_aNil ?_ | with_reducible refine w_aCons ?_ | with_reducible refine w_fz ?_ | with_reducible refine fz_v ?_
  | with_reducible refine fz_n ?_ | with_reducible refine fz_k ?_ | with_reducible refine fz_t ?_ | with_reducible refine w_fzL ?_ | with_reducible refine fl_d rfl ?_ | with_reducible refine fl_n ?_
  | with_reducible refine fl_k ?_ | with_reducible refine fl_t ?_ | with_reducible refine w_eTup ?_ | with_reducible refine w_eTuf ?_ | with_reducible refine w_eLst ?_ | with_reducible refine w_dnK ?_
  | with_reducible refine w_dnT ?_ | with_reducible refine w_call ?_ | with_reducible refine w_eSl ?_ | with_reducible refine w_ptNo ?_ | with_reducible refine w_ptI ?_ | with_reducible refine w_m1 ?_
  | with_reducible refine w_m2 ?_ | with_reducible refine w_get1 ?_ | with_reducible refine w_get2 ?_ | with_reducible refine w_eLc ?_ | with_reducible refine w_eDc ?_ | with_reducible refine dl_q (Nat.le_of_ble_eq_true rfl) ?_
  | with_reducible refine int_q ?_ | with_reducible refine as_q ?_ | with_reducible refine ty_q (ty_loc (by assumption)) ?_ | with_reducible refine sq_nx ?_ | with_reducible refine sq_rt ?_ | with_reducible refine sq_bk ?_
  | with_reducible refine sq_ct ?_ | with_reducible refine fq_rt ?_ | with_reducible refine fq_nx ?_ | with_reducible refine tq_nx ?_ | with_reducible refine tq_ct ?_ | with_reducible refine tq_bk ?_
  | with_reducible refine tq_rt ?_ | with_reducible refine w_srBB ?_ | with_reducible refine bq_tup ?_ | with_reducible refine bq_tuf ?_ | with_reducible refine bq_rol ?_ | with_reducible refine bq_str ?_
  | with_reducible refine bq_rod ?_ | with_reducible refine bq_loc (by assumption) ?_ | with_reducible refine w_srR1 ?_ | with_reducible refine w_srR2 ?_ | with_reducible refine w_srZB ?_ | with_reducible refine w_srItems ?_
  | with_reducible refine w_srVals ?_ | with_reducible refine w_srEn ?_ | with_reducible refine w_addI ?_ | with_reducible refine w_subI ?_ | with_reducible refine w_mulI (by omega) ?_ | with_reducible refine w_divI (by omega) (by omega) ?_
  | with_reducible refine w_modI (by first | omega | decide +kernel) ?_ | with_reducible refine w_powI rfl ?_ | with_reducible refine w_neg ?_ | with_reducible refine w_iaddI ?_ | with_reducible refine w_max ?_ | with_reducible refine w_min ?_
  | with_reducible refine w_abs ?_ | with_reducible refine w_gtI ?_ | with_reducible refine w_ltI ?_ | with_reducible refine w_leI ?_ | with_reducible refine w_geI ?_ | with_reducible refine w_eqI ?_
  | with_reducible refine w_neI ?_ | with_reducible refine w_eqS ?_ | with_reducible refine w_neS ?_ | with_reducible refine w_ixT rfl ?_ | with_reducible refine w_ixR rfl ?_ | with_reducible refine w_ixF rfl ?_
  | with_reducible refine w_ixL (by assumption) rfl ?_ | with_reducible refine w_len (seq_loc (by assumption)) ?_ | with_reducible refine w_len rfl ?_ | with_reducible refine w_gNm (Nat.le_of_ble_eq_true rfl) ?_ | with_reducible refine w_gSb ?_ | with_reducible refine w_gTp rfl ?_
  | with_reducible refine w_gTf rfl ?_ | with_reducible refine w_gsCons ?_ | with_reducible refine w_gsNil ?_ | with_reducible refine w_sPar2 ?_ | with_reducible refine w_sPar3 ?_ | with_reducible refine w_sAug rfl ?_
  | with_reducible refine w_sAugD ?_ | with_reducible refine br_n ?_ | with_reducible refine br_t ?_ | with_reducible refine br_f ?_))
/-! ### fractions -/
def fracF (a b : Int) : Int × Int := (a / (Int.gcd a b : Int), b / (Int.gcd a b : Int))
def partF (a b : Int) : Int × Int := if 0 < b then fracF a b else (0, 1)
def encF (p : Int × Int) : D := .tuf [.int p.1, .int p.2]
theorem gcd_step (a b : Int) (h0 : 0 ≤ a) (h1 : 0 < b) : Int.gcd b (a % b) = Int.gcd a b := by
  rw [Int.gcd_comm a b]
  have : a % b = a - b * (a / b) := Int.emod_def a b
  rw [this, Int.mul_comm]
  exact Int.gcd_sub_mul_right_right _ _ _
def LowS (g : FnM) : Prop := ∀ (a b : Int) (S : Sto), 0 ≤ a → 0 < b → b < 1000000 → g [.int a, .int b] S = .ok (encF (fracF a b)) S
theorem low_gen {t : TsM} (ht : ∀ (a b c d : Int) (S : Sto), t [some (.int a), some (.int b), some (.int c), some (.int d)] S = .ok (d != 0) S) (F : Str → FnM) :
    LowS (runL 2 4 (sSeq (sPar2 2 3 (aCons (eFz (eUn absI (eNm 0))) (aCons (eFz (eNm 1)) aNil))) (sSeq (sWhile t (sSeq (sPar2 2 3 (aCons (eFz (eNm 3)) (aCons (eFz (eBin modV (eNm 2) (eNm 3))) aNil))) sNil)) (sSeq (sRet (eFzL (eTuf (aCons (eFzL (eBin divV (eNm 0) (eNm 2))) (aCons (eFzL (eBin divV (eNm 1) (eNm 2))) aNil))))) sNil)))) := by
  intro a b S h0 h1 hb
  refine of_W (w_runL rfl ?_)
  walk_at "w"
  rw [if_neg (by omega)]
  refine ⟨_, _, rfl, ⟨Nat.le_of_ble_eq_true rfl, Nat.le_of_ble_eq_true rfl⟩, ?_⟩
  walk_at "w"
  have hg0 : 0 < (Int.gcd a b : Int) := by
    have : 0 < Int.gcd a b := Int.gcd_pos_of_ne_zero_right _ (by omega)
    omega
  refine w_while (m := b.toNat) (fun m env S' => ∃ c d : Int, env = [some (.int a), some (.int b), some (.int c), some (.int d)] ∧ S' = S ∧ 0 ≤ c ∧ 0 ≤ d ∧ Int.gcd c d = Int.gcd a b ∧ m = d.toNat) (by unfold big; omega) ⟨a, b, rfl, rfl, h0, by omega, rfl, rfl⟩ ?_
  rintro m env S' ⟨c, d, rfl, rfl, hc, hd, hg, rfl⟩
  refine ⟨d != 0, S', ht _ _ _ _ _, ?_⟩
  refine br_b (fun hz => ?_) fun hz => ?_
  · have hz : d ≠ 0 := by simpa using hz
    walk_at "w"
    refine ⟨_, _, rfl, ⟨Nat.le_of_ble_eq_true rfl, Nat.le_of_ble_eq_true rfl⟩, ?_⟩
    walk_at "w"
    have hm := Int.emod_nonneg c hz
    have hl := Int.emod_lt_of_pos c (show 0 < d by omega)
    exact ⟨(c % d).toNat, by omega, d, c % d, rfl, rfl, hd, hm, by rw [gcd_step c d hc (by omega)]; exact hg, rfl⟩
  · have hz : d = 0 := by simpa using hz
    subst hz
    have hgc : c = (Int.gcd a b : Int) := by
      rw [Int.gcd_zero_right] at hg
      omega
    have hgb : (Int.gcd a b : Int) ≤ b := Int.le_of_dvd h1 (Int.gcd_dvd_right _ _)
    walk_at "w"
    rw [hgc]
    exact tr_same rfl ⟨rfl, rfl⟩
theorem lowest_S (F : Str → FnM) : LowS (runL 2 4 (b_lowest F)) := low_gen (t := tru (eNm 3)) (fun _ _ _ _ _ => rfl) F
theorem part_eq {F : Str → FnM} {x : Str} (L : LowS (F x)) {a b : Int} (h0 : 0 ≤ a) (hb : b < 1000000) (S : Sto) :
    runL 2 2 (sSeq (sRet (eFzL (eIf (asB (eBin gtV (eNm 1) (eC (.int 0)))) (eCall (F x) (aCons (eFz (eNm 0)) (aCons (eFz (eNm 1)) aNil))) (eTuf (aCons (eFzL (eC (.int 0))) (aCons (eFzL (eC (.int 1))) aNil)))))) sNil) [.int a, .int b] S = .ok (encF (partF a b)) S := by
  refine of_W (w_runL rfl ?_)
  walk_at "w"
  refine br_d (fun h => ?_) fun h => ?_
  · walk_at "w"
    refine w_pure (L a b S h0 h hb) ?_
    walk_at "w"
    refine tr_same rfl ⟨?_, rfl⟩
    unfold partF
    rw [if_pos h]
  · walk_at "w"
    refine tr_same rfl ⟨?_, rfl⟩
    unfold partF
    rw [if_neg h]
    rfl
def PartS (g : FnM) : Prop := ∀ (a b : Int) (S : Sto), 0 ≤ a → b < 1000000 → g [.int a, .int b] S = .ok (encF (partF a b)) S
theorem part_S {F : Str → FnM} (L : LowS (F "lowest")) : PartS (runL 2 2 (b_part_of F)) := fun _ _ S h0 hb => part_eq L h0 hb S
/-! ### a text among texts -/
theorem toVs_strs : ∀ ns : List Str, toVs (ns.map D.str) = some (ns.map V.str)
  | [] => rfl
  | n :: ns => by
    show (match toV (D.str n), toVs (ns.map D.str) with
      | some v, some vs => some (v :: vs)
      | _, _ => none) = _
    rw [toVs_strs ns]
    rfl
theorem in_strs (x : Str) (ns : List Str) (S : Sto) : inOf (.val (.str x)) (.val (.rol (ns.map D.str))) S = some (decide (x ∈ ns)) := by
  show (match toVx (.val (.str x)), toVs (ns.map D.str) with
      | some v, some vs => some (inV v vs)
      | _, _ => _) = _
  rw [toVs_strs]
  show some (inV (.str x) (ns.map V.str)) = _
  congr 1
  unfold inV
  induction ns with
  | nil => rfl
  | cons n ns ih =>
    simp only [List.map_cons, List.any_cons, List.mem_cons] at ih ⊢
    rw [ih]
    have e : eqV (.str n) (.str x) = decide (x = n) := by
      show (n == x) = _
      rw [Bool.beq_eq_decide_eq]
      exact decide_eq_decide.mpr eq_comm
    rw [e]
    by_cases h : x = n
    · simp [h]
    · simp [h]
/-! ### share, purity -/
def outF (line : Ln) (l : Ld) (names : List Str) : Int := (((sortF line l).filter fun r => decide (r.1 ∈ names)).map fun r => weightF r.2).sum
def WeightS (g : FnM) : Prop := ∀ (ds : List D) (l : Ld) (S : Sto), LR ds l → ds.length < big → g [.tuf ds] S = .ok (.int (weightF l)) S
theorem weight_S (F : Str → FnM) : WeightS (runL 1 3 (b_weight F)) := fun _ _ S h hz => weight_eq F h hz S
theorem grams_S (F : Str → FnM) : WeightS (runL 1 3 (b_law_grams F)) := fun _ _ S h hz => grams_eq F h hz S
def SortS (g : FnM) : Prop := ∀ (ds es : List D) (o : D) (l : Ld) (line : Ln) (S : Sto), LR ds l → LineR es line → (o = .tuf es ∨ o = .tup es) → Nd l → l.length < 64 → line.length < 1000 → (∀ s ∈ line, ShOk s.2) → g [o, .tuf ds] S = .ok (.rol ((sortF line l).map encRow)) S
theorem sort_S {F : Str → FnM} (LO : LoadOfS (F "load_of")) : SortS (runL 2 10 (b_sorted_by F)) := fun _ _ _ _ _ S h1 h2 h3 h4 h5 h6 h7 => sorted_by_eq LO h1 h2 h3 h4 h5 h6 h7 S
theorem loadOf_len (l : Ld) : (loadOf l).length ≤ l.length := by
  unfold loadOf
  rw [List.length_map]
  refine Nat.le_trans (List.length_filter_le _ _) ?_
  rw [(sortStrs_perm _).length_eq, List.length_map]
  exact Nat.le_refl _
theorem subsL_len {m l : Ld} (h : ∀ p ∈ m, p.1 ∈ l.map Prod.fst) : (subsL l m).length = l.length := by
  have := congrArg List.length (subsL_keys m l h)
  rwa [List.length_map, List.length_map] at this
theorem sortF_row_len : ∀ (line : Ln) (l : Ld), ∀ r ∈ sortF line l, r.2.length ≤ l.length + 64 ∨ ∃ s ∈ line, r.2.length ≤ s.2.length
  | [], l, r, h => by
    rw [sortF_nil] at h
    rw [List.mem_singleton.mp h]
    have := loadOf_len l
    exact .inl (by show (loadOf l).length ≤ _; omega)
  | s :: line, l, r, h => by
    rw [sortF_cons] at h
    rcases List.mem_cons.mp h with rfl | h
    · exact .inr ⟨s, List.mem_cons_self, Nat.le_trans (loadOf_len _) (tkT_len _ _)⟩
    · have e : (tkL l s.2).length = l.length := subsL_len fun p hp => tkT_mem hp
      rcases sortF_row_len line (tkL l s.2) r h with h | ⟨s', hs, h⟩
      · exact .inl (by omega)
      · exact .inr ⟨s', List.mem_cons_of_mem _ hs, h⟩
theorem row_small {line : Ln} {l : Ld} (hz : l.length < 64) (hs : ∀ s ∈ line, ShOk s.2) : ∀ r ∈ sortF line l, r.2.length < 1000 := fun r hr => by
  rcases sortF_row_len line l r hr with h | ⟨s, h1, h2⟩
  · omega
  · have := (hs s h1).2.1; omega
theorem share_eq {F : Str → FnM} (SO : SortS (F "sorted_by")) (WE : WeightS (F "weight")) (PA : PartS (F "part_of")) {ds es : List D} {o : D} {l : Ld} {line : Ln} {names : List Str} (h1 : LR ds l) (h2 : LineR es line) (ho : o = .tuf es ∨ o = .tup es) (hn : Nd l) (hz : l.length < 64) (hl : line.length < 1000) (hs : ∀ s ∈ line, ShOk s.2)
    (h0 : 0 ≤ outF line l names) (hw : weightF l < 1000000) (S : Sto) : runL 3 6 (b_share F) [o, .tuf ds, .rol (names.map D.str)] S = .ok (encF (partF (outF line l names) (weightF l))) S := by
  have hdl : ds.length < big := by have := paired_len h1; unfold big; omega
  refine of_W (w_runL rfl ?_)
  unfold b_share
  walk_at "w"
  refine w_pure (SO ds es o l line S h1 h2 ho hn hz hl hs) ?_
  walk_at "w"
  refine ⟨by rw [List.length_map, sortF_len]; unfold big; omega, w_lcMap (fun r : Str × Ld => decide (r.1 ∈ names)) (fun r => .int (weightF r.2)) rfl (fun r hr => ?_) ?_⟩
  · unfold encRow
    walk_at "w"
    refine w_in (in_strs _ _ _) ?_
    walk_at "w"
    refine br_d (fun h => ⟨decide_eq_true h, ?_⟩) fun h => ⟨decide_eq_false h, rfl⟩
    walk_at "w"
    refine w_pure (WE _ r.2 _ (lr_P _) (by rw [List.length_map]; have := row_small hz hs r hr; unfold big; omega)) ?_
    walk_at "w"
    exact ⟨rfl, rfl⟩
  · refine w_sum (intsOf_map (fun r : Str × Ld => weightF r.2) _) ?_
    walk_at "w"
    refine w_pure (WE ds l _ h1 hdl) ?_
    walk_at "w"
    refine w_pure (PA _ _ _ h0 hw) ?_
    walk_at "w"
    exact tr_same rfl ⟨rfl, rfl⟩
def PurS (g : FnM) : Prop := ∀ (ds : List D) (l : Ld) (k : Str) (S : Sto), LR ds l → Nd l → Nn l → ds.length < big → weightF l < 1000000 → g [.tuf ds, .str k] S = .ok (encF (partF (gr l k) (weightF l))) S
theorem pur_S {F : Str → FnM} (WE : WeightS (F "weight")) (PA : PartS (F "part_of")) : PurS (runL 2 2 (b_purity F)) := by
  intro ds l k S h1 hn hnn hz hw
  refine of_W (w_runL rfl ?_)
  unfold b_purity
  walk_at "w"
  refine w_dictT (pairsOf_lr h1) ?_
  rw [show (l.map fun p => ((Sum.inr p.1 : Key), D.int p.2)) = kvL l from rfl, mergeA_kvL hn]
  refine dv_q (kvs := kvL l) rfl ?_
  walk_at "w"
  refine gt2_k (kvs := kvL l) rfl (k := Sum.inr k) rfl ?_
  have eg : ((getA (kvL l) (Sum.inr k)).getD (.int 0)) = .int (gr l k) := by
    rw [getA_kvL]
    unfold gr
    cases getL l k <;> rfl
  rw [eg]
  walk_at "w"
  refine w_pure (WE ds l _ h1 hz) ?_
  walk_at "w"
  refine w_pure (PA _ _ _ (gr_nn hnn k) hw) ?_
  walk_at "w"
  exact tr_same rfl ⟨rfl, rfl⟩
end Bz

set_option Elab.async false
set_option linter.all false
set_option maxRecDepth 100000
set_option maxHeartbeats 4000000
/-! Bz: loads. -/
namespace Bz
open PySem PySem.Spec PyProof.Rows L2
local macro_rules | `(tactic| walk_at "w") => `(tactic| repeat (first
  | with_reducible refine w_sSeq ?_ | with_reducible refine w_sIf ?_ | with_reducible refine w_sAsg ?_ | with_reducible refine w_sRet ?_ | with_reducible refine w_sNil ?_ | with_reducible refine w_sExpr ?_
  | with_reducible refine w_sFor ?_ | with_reducible refine w_asB ?_ | with_reducible refine w_tru ?_ | with_reducible refine w_tsAnd ?_ | with_reducible refine w_tsOr ?_ | with_reducible refine w_tsNot ?_
  | with_reducible refine w_tsYes ?_ | with_reducible refine w_and ?_ | with_reducible refine w_or ?_ | with_reducible refine w_not ?_ | with_reducible refine w_eIf ?_ | with_reducible refine w_bin ?_
  | with_reducible refine w_un ?_ | with_reducible refine w_chain ?_ | with_reducible refine w_nm rfl ?_ | with_reducible refine w_c ?_ | with_reducible refine w_stlV ?_ | with_reducible refine w_stlN ?_
  | with_reducible refine w_stlK ?_ | with_reducible refine w_stlT ?_ | with_reducible refine w_aNil ?_ | with_reducible refine w_aCons ?_ | with_reducible refine w_fz ?_ | with_reducible refine fz_v ?_
  | with_reducible refine fz_n ?_ | with_reducible refine fz_k ?_ | with_reducible refine fz_t ?_ | with_reducible refine w_fzL ?_ | with_reducible refine fl_d rfl ?_ | with_reducible refine fl_n ?_
  | with_reducible refine fl_k ?_ | with_reducible refine fl_t ?_ | with_reducible refine w_eTup ?_ | with_reducible refine w_eTuf ?_ | with_reducible refine w_eLst ?_ | with_reducible refine w_dnK ?_
  | with_reducible refine w_dnT ?_ | with_reducible refine w_call ?_ | with_reducible refine w_eSl ?_ | with_reducible refine w_ptNo ?_ | with_reducible refine w_ptI ?_ | with_reducible refine w_m1 ?_
  | with_reducible refine w_m2 ?_ | with_reducible refine w_get1 ?_ | with_reducible refine w_get2 ?_ | with_reducible refine w_eLc ?_ | with_reducible refine w_eDc ?_ | with_reducible refine dl_q (Nat.le_of_ble_eq_true rfl) ?_
  | with_reducible refine int_q ?_ | with_reducible refine as_q ?_ | with_reducible refine ty_q (ty_loc (by assumption)) ?_ | with_reducible refine sq_nx ?_ | with_reducible refine sq_rt ?_ | with_reducible refine sq_bk ?_
  | with_reducible refine sq_ct ?_ | with_reducible refine fq_rt ?_ | with_reducible refine fq_nx ?_ | with_reducible refine tq_nx ?_ | with_reducible refine tq_ct ?_ | with_reducible refine tq_bk ?_
  | with_reducible refine tq_rt ?_ | with_reducible refine w_srBB ?_ | with_reducible refine bq_tup ?_ | with_reducible refine bq_tuf ?_ | with_reducible refine bq_rol ?_ | with_reducible refine bq_str ?_
  | with_reducible refine bq_rod ?_ | with_reducible refine bq_loc (by assumption) ?_ | with_reducible refine w_srR1 ?_ | with_reducible refine w_srR2 ?_ | with_reducible refine w_srZB ?_ | with_reducible refine w_srItems ?_
  | with_reducible refine w_srVals ?_ | with_reducible refine w_srEn ?_ | with_reducible refine w_addI ?_ | with_reducible refine w_subI ?_ | with_reducible refine w_mulI (by omega) ?_ | with_reducible refine w_divI (by omega) (by omega) ?_
  | with_reducible refine w_modI (by first | omega | decide +kernel) ?_ | with_reducible refine w_powI rfl ?_ | with_reducible refine w_neg ?_ | with_reducible refine w_iaddI ?_ | with_reducible refine w_max ?_ | with_reducible refine w_min ?_
  | with_reducible refine w_abs ?_ | with_reducible refine w_gtI ?_ | with_reducible refine w_ltI ?_ | with_reducible refine w_leI ?_ | with_reducible refine w_geI ?_ | with_reducible refine w_eqI ?_
  | with_reducible refine w_neI ?_ | with_reducible refine w_eqS ?_ | with_reducible refine w_neS ?_ | with_reducible refine w_ixT rfl ?_ | with_reducible refine w_ixR rfl ?_ | with_reducible refine w_ixF rfl ?_
  | with_reducible refine w_ixL (by assumption) rfl ?_ | with_reducible refine w_len (seq_loc (by assumption)) ?_ | with_reducible refine w_len rfl ?_ | with_reducible refine w_gNm (Nat.le_of_ble_eq_true rfl) ?_ | with_reducible refine w_gSb ?_ | with_reducible refine w_gTp rfl ?_
  | with_reducible refine w_gTf rfl ?_ | with_reducible refine w_gsCons ?_ | with_reducible refine w_gsNil ?_ | with_reducible refine w_sPar2 ?_ | with_reducible refine w_sPar3 ?_ | with_reducible refine w_sAug rfl ?_
  | with_reducible refine w_sAugD ?_ | with_reducible refine br_n ?_ | with_reducible refine br_t ?_ | with_reducible refine br_f ?_))
/-! ### sums over kinds, over rows -/
theorem sum_add {α : Type} (f g : α → Int) : ∀ K : List α, (K.map fun k => f k + g k).sum = (K.map f).sum + (K.map g).sum
  | [] => rfl
  | k :: K => by
    rw [List.map_cons, List.map_cons, List.map_cons, List.sum_cons, List.sum_cons, List.sum_cons, sum_add f g K]
    omega
theorem sum_zero {α : Type} (f : α → Int) : ∀ (K : List α), (∀ k ∈ K, f k = 0) → (K.map f).sum = 0
  | [], _ => rfl
  | k :: K, h => by
    rw [List.map_cons, List.sum_cons, h k List.mem_cons_self, sum_zero f K fun x hx => h x (List.mem_cons_of_mem _ hx)]
    rfl
theorem sum_congr {α : Type} {f g : α → Int} : ∀ {K : List α}, (∀ k ∈ K, f k = g k) → (K.map f).sum = (K.map g).sum
  | [], _ => rfl
  | k :: K, h => by
    rw [List.map_cons, List.map_cons, List.sum_cons, List.sum_cons, h k List.mem_cons_self, sum_congr fun x hx => h x (List.mem_cons_of_mem _ hx)]
/-- one of a list without twins -/
theorem sum_one {α : Type} [DecidableEq α] (a : α) (v : Int) : ∀ {K : List α}, K.Nodup → (K.map fun k => if k = a then v else 0).sum = if a ∈ K then v else 0
  | [], _ => by simp
  | k :: K, h => by
    obtain ⟨h1, h2⟩ := List.nodup_cons.mp h
    rw [List.map_cons, List.sum_cons, sum_one a v h2]
    by_cases e : k = a
    · subst e
      rw [if_pos rfl, if_neg h1, if_pos List.mem_cons_self]
      omega
    · rw [if_neg e]
      by_cases e2 : a ∈ K
      · rw [if_pos e2, if_pos (List.mem_cons_of_mem _ e2)]
        omega
      · rw [if_neg e2, if_neg fun z => (List.mem_cons.mp z).elim (fun q => e q.symm) e2]
        rfl
theorem gr_cons {p : Str × Int} {m : Ld} (h : Nd (p :: m)) (k : Str) : gr (p :: m) k = (if k = p.1 then p.2 else 0) + gr m k := by
  have h' : (p.1 :: m.map Prod.fst).Nodup := h
  obtain ⟨h1, h2⟩ := List.nodup_cons.mp h'
  unfold gr
  by_cases e : k = p.1
  · subst e
    rw [if_pos rfl, getL_none h1, getL_some h List.mem_cons_self]
    simp
  · rw [if_neg e]
    have : getL (p :: m) k = getL m k := by
      unfold getL
      rw [List.find?_cons]
      simp only [Ne.symm e, decide_false]
    rw [this]
    omega
theorem weight_gr : ∀ {m : Ld} {K : List Str}, Nd m → K.Nodup → (∀ p ∈ m, p.1 ∈ K) → weightF m = (K.map (gr m)).sum
  | [], K, _, _, _ => by
    rw [sum_zero]
    · rfl
    · intro k _; rfl
  | p :: m, K, h, hK, hk => by
    have h' : (p.1 :: m.map Prod.fst).Nodup := h
    obtain ⟨h1, h2⟩ := List.nodup_cons.mp h'
    have ih := weight_gr (m := m) h2 hK fun q hq => hk q (List.mem_cons_of_mem _ hq)
    rw [sum_congr (g := fun k => (if k = p.1 then p.2 else 0) + gr m k) fun k _ => gr_cons h k, sum_add, sum_one p.1 p.2 hK, if_pos (hk p List.mem_cons_self), ← ih]
    rfl
theorem weight_nn {m : Ld} (h : Nn m) : 0 ≤ weightF m := by
  unfold weightF
  induction m with
  | nil => exact Int.le_refl _
  | cons p m ih =>
    rw [List.map_cons, List.sum_cons]
    have := h p List.mem_cons_self
    have := ih fun q hq => h q (List.mem_cons_of_mem _ hq)
    omega
theorem tkT_nn {l sh : Ld} (hn : Nn l) (hs : ShP sh) : Nn (tkT l sh) := fun p hp => by
  have e := getL_some (tkT_nd hs.1) hp
  have e2 : gr (tkT l sh) p.1 = p.2 := by unfold gr; rw [e]; rfl
  rw [← e2, gr_tkT hs.1]
  have := gr_le hs.2 p.1
  exact (part_le (gr_nn hn p.1) this.1 this.2).1
theorem weight_loadOf {m : Ld} (h : Nd m) (hn : Nn m) : weightF (loadOf m) = weightF m := by
  rw [weight_gr (K := m.map Prod.fst) (loadOf_ris h).nd h fun p hp => loadOf_in hp, weight_gr (K := m.map Prod.fst) h h fun p hp => List.mem_map_of_mem hp]
  exact sum_congr fun k _ => gr_loadOf h hn k
theorem weight_step {l sh : Ld} (h : Nd l) (hs : ShP sh) : weightF (tkT l sh) + weightF (tkL l sh) = weightF l := by
  rw [weight_gr (K := l.map Prod.fst) (tkT_nd hs.1) h fun p hp => tkT_mem hp, weight_gr (K := l.map Prod.fst) (m := tkL l sh) (tkL_nd h) h fun p hp => by rw [← tkL_keys l sh]; exact List.mem_map_of_mem hp,
    weight_gr (K := l.map Prod.fst) h h fun p hp => List.mem_map_of_mem hp, ← sum_add]
  refine sum_congr fun k _ => ?_
  rw [gr_tkT hs.1, gr_tkL hs.1]
  omega
/-- all that comes out is what went in -/
theorem rows_weight : ∀ (line : Ln) {l : Ld}, Nd l → Nn l → (∀ s ∈ line, ShP s.2) → ((sortF line l).map fun r => weightF r.2).sum = weightF l
  | [], l, h, hn, _ => by
    rw [sortF_nil]
    show weightF (loadOf l) + 0 = _
    rw [weight_loadOf h hn]
    omega
  | s :: line, l, h, hn, hs => by
    have hs0 := hs s List.mem_cons_self
    rw [sortF_cons, List.map_cons, List.sum_cons, rows_weight line (l := tkL l s.2) (tkL_nd h) (tk_nn h hn hs0) fun s' h' => hs s' (List.mem_cons_of_mem _ h')]
    show weightF (loadOf (tkT l s.2)) + _ = _
    rw [weight_loadOf (tkT_nd hs0.1) (tkT_nn hn hs0), weight_step h hs0]
theorem rows_gr : ∀ (line : Ln) {l : Ld} (k : Str), Nd l → Nn l → (∀ s ∈ line, ShP s.2) → ((sortF line l).map fun r => gr r.2 k).sum = gr l k
  | [], l, k, h, hn, _ => by
    rw [sortF_nil]
    show gr (loadOf l) k + 0 = _
    rw [gr_loadOf h hn]
    omega
  | s :: line, l, k, h, hn, hs => by
    have hs0 := hs s List.mem_cons_self
    rw [sortF_cons, List.map_cons, List.sum_cons, rows_gr line (l := tkL l s.2) k (tkL_nd h) (tk_nn h hn hs0) fun s' h' => hs s' (List.mem_cons_of_mem _ h')]
    show gr (loadOf (tkT l s.2)) k + _ = _
    rw [gr_loadOf (tkT_nd hs0.1) (tkT_nn hn hs0), gr_tkT hs0.1, gr_tkL hs0.1]
    omega
theorem sortF_nn : ∀ (line : Ln) (l : Ld), ∀ r ∈ sortF line l, Nn r.2
  | [], l, r, h => by
    rw [sortF_nil] at h
    rw [List.mem_singleton.mp h]
    exact loadOf_nn l
  | s :: line, l, r, h => by
    rw [sortF_cons] at h
    rcases List.mem_cons.mp h with rfl | h
    · exact loadOf_nn _
    · exact sortF_nn line _ r h
theorem sortF_ris : ∀ (line : Ln) {l : Ld}, Nd l → (∀ s ∈ line, Nd s.2) → ∀ r ∈ sortF line l, Ris r.2
  | [], l, hl, _, r, h => by
    rw [sortF_nil] at h
    rw [List.mem_singleton.mp h]
    exact loadOf_ris hl
  | s :: line, l, hl, hs, r, h => by
    rw [sortF_cons] at h
    rcases List.mem_cons.mp h with rfl | h
    · exact loadOf_ris (tkT_nd (hs s List.mem_cons_self))
    · exact sortF_ris line (tkL_nd hl) (fun s' h' => hs s' (List.mem_cons_of_mem _ h')) r h
theorem sum_nn : ∀ {xs : List Int}, (∀ x ∈ xs, 0 ≤ x) → 0 ≤ xs.sum
  | [], _ => Int.le_refl _
  | x :: xs, h => by
    rw [List.sum_cons]
    have := h x List.mem_cons_self
    have := sum_nn fun y hy => h y (List.mem_cons_of_mem _ hy)
    omega
theorem outF_nn (line : Ln) (l : Ld) (names : List Str) : 0 ≤ outF line l names := sum_nn fun x hx => by
  obtain ⟨r, hr, rfl⟩ := List.mem_map.mp hx
  exact weight_nn (sortF_nn line l r (List.mem_filter.mp hr).1)
/-- rows by a condition, as a sum over all -/
theorem sum_filter {α : Type} (f : α → Int) (p : α → Bool) : ∀ xs : List α, ((xs.filter p).map f).sum = (xs.map fun x => if p x = true then f x else 0).sum
  | [] => rfl
  | x :: xs => by
    rw [List.filter_cons, List.map_cons, List.sum_cons, ← sum_filter f p xs]
    split
    · rw [List.map_cons, List.sum_cons]
    · omega
theorem wline_sh {line : Ln} (h : WLine line) : (∀ s ∈ line, ShOk s.2) ∧ (∀ s ∈ line, ShP s.2) ∧ (∀ s ∈ line, Ris s.2) ∧ (∀ s ∈ line, ∀ p ∈ s.2, 0 ≤ p.2 ∧ p.2 ≤ 1000) ∧ (∀ s ∈ line, Nd s.2) :=
  ⟨fun s hs => ⟨(h.sh s hs).ris.nd, by have := (h.sh s hs).len; omega, fun p hp => by have := ((h.sh s hs).ok p hp).2; omega⟩, fun s hs => ⟨(h.sh s hs).ris.nd, fun p hp => by have := ((h.sh s hs).ok p hp).2; omega⟩,
    fun s hs => (h.sh s hs).ris, fun s hs p hp => by have := ((h.sh s hs).ok p hp).2; omega, fun s hs => (h.sh s hs).ris.nd⟩
theorem lineR_W (line : Ln) : LineR (line.map encStep) line := by
  unfold LineR
  induction line with
  | nil => exact .nil
  | cons s line ih => exact .cons ⟨_, lr_T s.2, .inr rfl⟩ ih
theorem wload_nn {ks : List Str} {n : Nat} {l : Ld} (h : WLoad ks n l) : Nn l := fun p hp => by have := (h.ok p hp).2; omega
theorem weight_le {l : Ld} {B : Int} (h : ∀ p ∈ l, p.2 ≤ B) : weightF l ≤ l.length * B := by
  unfold weightF
  induction l with
  | nil => simp
  | cons p l ih =>
    rw [List.map_cons, List.sum_cons, List.length_cons]
    have := h p List.mem_cons_self
    have := ih fun q hq => h q (List.mem_cons_of_mem _ hq)
    rw [show ((l.length + 1 : Nat) : Int) = (l.length : Int) + 1 by omega, Int.add_mul]
    omega
theorem wload_weight {ks : List Str} {n : Nat} {l : Ld} (h : WLoad ks n l) (hn : n ≤ 20) : weightF l ≤ 20000 := by
  have h1 := weight_le (B := 1000) fun p hp => ((h.ok p hp).2).2
  have := h.len
  omega
theorem kinds_ok {k : Str} (h : k ∈ kindsW) : sOk k := by
  have : ∀ k ∈ kindsW, sOk k := by decide +kernel
  exact this k h
theorem wload_ok {n : Nat} {l : Ld} (h : WLoad kindsW n l) : LdOk l := fun p hp => kinds_ok (h.ok p hp).1
theorem wline_ok {line : Ln} (h : WLine line) : ∀ s ∈ line, sOk s.1 := fun s hs => by
  have : ∀ k ∈ namesW, sOk k := by decide +kernel
  exact this _ (h.names s hs)
theorem wline_names {line : Ln} (h : WLine line) (l : Ld) : ((sortF line l).map Prod.fst).Nodup := by
  rw [sortF_names]
  refine List.nodup_append.mpr ⟨h.nd, by simp, fun a ha b hb e => ?_⟩
  obtain ⟨s, hs, rfl⟩ := List.mem_map.mp ha
  have h1 := h.names s hs
  rw [e, List.mem_singleton.mp hb] at h1
  have : ("rest" : Str) ∉ namesW := by decide +kernel
  exact this h1
end Bz

set_option Elab.async false
set_option linter.all false
set_option maxRecDepth 100000
set_option maxHeartbeats 4000000
set_option pp.maxSteps 1500
/-! Bz: things of any kind. -/
namespace Bz
open PySem PySem.Spec PyProof.Rows L2
local macro_rules | `(tactic| walk_at "w") => `(tactic| repeat (first
  | with_reducible refine w_sSeq ?_ | with_reducible refine w_sIf ?_ | with_reducible refine w_sAsg ?_ | with_reducible refine w_sRet ?_ | with_reducible refine w_sNil ?_ | with_reducible refine w_sExpr ?_
  | with_reducible refine w_sFor ?_ | with_reducible refine w_asB ?_ | with_reducible refine w_tru ?_ | with_reducible refine w_tsAnd ?_ | with_reducible refine w_tsOr ?_ | with_reducible refine w_tsNot ?_
  | with_reducible refine w_tsYes ?_ | with_reducible refine w_and ?_ | with_reducible refine w_or ?_ | with_reducible refine w_not ?_ | with_reducible refine w_eIf ?_ | with_reducible refine w_bin ?_
  | with_reducible refine w_un ?_ | with_reducible refine w_chain ?_ | with_reducible refine w_nm rfl ?_ | with_reducible refine w_c ?_ | with_reducible refine w_stlV ?_ | with_reducible refine w_stlN ?_
  | with_reducible refine w_stlK ?_ | with_reducible refine w_stlT ?_ | with_reducible refine w_aNil ?_ | with_reducible refine w_aCons ?_ | with_reducible refine w_fz ?_ | with_reducible refine fz_v ?_
  | with_reducible refine fz_n ?_ | with_reducible refine fz_k ?_ | with_reducible refine fz_t ?_ | with_reducible refine w_fzL ?_ | with_reducible refine fl_d rfl ?_ | with_reducible refine fl_n ?_
  | with_reducible refine fl_k ?_ | with_reducible refine fl_t ?_ | with_reducible refine w_eTup ?_ | with_reducible refine w_eTuf ?_ | with_reducible refine w_eLst ?_ | with_reducible refine w_dnK ?_
  | with_reducible refine w_dnT ?_ | with_reducible refine w_call ?_ | with_reducible refine w_eSl ?_ | with_reducible refine w_ptNo ?_ | with_reducible refine w_ptI ?_ | with_reducible refine w_m1 ?_
  | with_reducible refine w_m2 ?_ | with_reducible refine w_get1 ?_ | with_reducible refine w_get2 ?_ | with_reducible refine w_eLc ?_ | with_reducible refine w_eDc ?_ | with_reducible refine dl_q (Nat.le_of_ble_eq_true rfl) ?_
  | with_reducible refine int_q ?_ | with_reducible refine as_q ?_ | with_reducible refine ty_q (ty_loc (by assumption)) ?_ | with_reducible refine sq_nx ?_ | with_reducible refine sq_rt ?_ | with_reducible refine sq_bk ?_
  | with_reducible refine sq_ct ?_ | with_reducible refine fq_rt ?_ | with_reducible refine fq_nx ?_ | with_reducible refine tq_nx ?_ | with_reducible refine tq_ct ?_ | with_reducible refine tq_bk ?_
  | with_reducible refine tq_rt ?_ | with_reducible refine w_srBB ?_ | with_reducible refine bq_tup ?_ | with_reducible refine bq_tuf ?_ | with_reducible refine bq_rol ?_ | with_reducible refine bq_str ?_
  | with_reducible refine bq_rod ?_ | with_reducible refine bq_loc (by assumption) ?_ | with_reducible refine w_srR1 ?_ | with_reducible refine w_srR2 ?_ | with_reducible refine w_srZB ?_ | with_reducible refine w_srItems ?_
  | with_reducible refine w_srVals ?_ | with_reducible refine w_srEn ?_ | with_reducible refine w_addI ?_ | with_reducible refine w_subI ?_ | with_reducible refine w_mulI (by omega) ?_ | with_reducible refine w_divI (by omega) (by omega) ?_
  | with_reducible refine w_modI (by first | omega | decide +kernel) ?_ | with_reducible refine w_powI rfl ?_ | with_reducible refine w_neg ?_ | with_reducible refine w_iaddI ?_ | with_reducible refine w_max ?_ | with_reducible refine w_min ?_
  | with_reducible refine w_abs ?_ | with_reducible refine w_gtI ?_ | with_reducible refine w_ltI ?_ | with_reducible refine w_leI ?_ | with_reducible refine w_geI ?_ | with_reducible refine w_eqI ?_
  | with_reducible refine w_neI ?_ | with_reducible refine w_eqS ?_ | with_reducible refine w_neS ?_ | with_reducible refine w_ixT rfl ?_ | with_reducible refine w_ixR rfl ?_ | with_reducible refine w_ixF rfl ?_
  | with_reducible refine w_ixL (by assumption) rfl ?_ | with_reducible refine w_len (seq_loc (by assumption)) ?_ | with_reducible refine w_len rfl ?_ | with_reducible refine w_gNm (Nat.le_of_ble_eq_true rfl) ?_ | with_reducible refine w_gSb ?_ | with_reducible refine w_gTp rfl ?_
  | with_reducible refine w_gTf rfl ?_ | with_reducible refine w_gsCons ?_ | with_reducible refine w_gsNil ?_ | with_reducible refine w_sPar2 ?_ | with_reducible refine w_sPar3 ?_ | with_reducible refine w_sAug rfl ?_
  | with_reducible refine w_sAugD ?_ | with_reducible refine br_n ?_ | with_reducible refine br_t ?_ | with_reducible refine br_f ?_))
def b_is_from (F : Str → FnM) : StM :=
 (sSeq (sRet (eFzL (eAnd (eUn (isiV .int) (eNm 0)) (eAnd (eNot (eUn (isiV .bool) (eNm 0))) (eChain leV leV (eNm 1) (eNm 0) (eNm 2))))))
 sNil)
def b_is_name (F : Str → FnM) : StM :=
 (sSeq (sIf (tsOr (tsNot (tru (eUn (isiV .str) (eNm 0)))) (tsNot (asB (eChain leV leV (eC (.int 1)) (eUn lenV (eNm 0)) (eC (.int 8))))))
 (sSeq (sRet (eFzL (eC (.bl false))))
 sNil)
 sNil)
 (sSeq (sRet (eFzL (eUn allV (eLc [1] (srB (eFz (eNm 0))) (gNm 1) tsYes (eFz (eBin inV' (eNm 1) (eC (.str "abcdefghijklmnopqrstuvwxyz"))))))))
 sNil))
def b_rises (F : Str → FnM) : StM :=
 (sSeq (sRet (eFzL (eUn allV (eLc [1, 2] (srZB (eFz (eNm 0)) (eFz (eSl (eNm 0) (ptI (eC (.int 1))) ptNo))) (gTp 2 (gsCons (gNm 1) (gsCons (gNm 2) gsNil))) tsYes (eFz (eBin ltV (eNm 1) (eNm 2)))))))
 sNil)
def b_are_rows (F : Str → FnM) : StM :=
 (sSeq (sIf (tsOr (tsNot (tru (eUn (isiV .tuple) (eNm 0)))) (asB (eBin gtV (eUn lenV (eNm 0)) (eNm 1))))
 (sSeq (sRet (eFzL (eC (.bl false))))
 sNil)
 sNil)
 (sSeq (sRet (eFzL (eUn allV (eLc [3] (srB (eFz (eNm 0))) (gNm 3) tsYes (eFz (eAnd (eUn (isiV .tuple) (eNm 3)) (eBin eqV' (eUn lenV (eNm 3)) (eNm 2))))))))
 sNil))
def b_are_pairs (F : Str → FnM) : StM :=
 (sSeq (sIf (tsOr (tsNot (tru (eCall (F "are_rows") (aCons (eFz (eNm 0)) (aCons (eFz (eNm 1)) (aCons (eFz (eC (.int 2))) aNil)))))) (tsNot (tru (eUn allV (eLc [4, 5] (srB (eFz (eNm 0))) (gTp 2 (gsCons (gNm 4) (gsCons (gNm 5) gsNil))) tsYes (eFz (eAnd (eCall (F "is_name") (aCons (eFz (eNm 4)) aNil)) (eCall (F "is_from") (aCons (eFz (eNm 5)) (aCons (eFz (eNm 2)) (aCons (eFz (eNm 3)) aNil)))))))))))
 (sSeq (sRet (eFzL (eC (.bl false))))
 sNil)
 sNil)
 (sSeq (sRet (eFzL (eCall (F "rises") (aCons (eFz (eLc [6] (srB (eFz (eNm 0))) (gNm 6) tsYes (eFz (eBin ixV (eNm 6) (eC (.int 0)))))) aNil))))
 sNil))
def b_law_from (F : Str → FnM) : StM :=
 (sSeq (sRet (eFzL (eAnd (eUn (isiV .int) (eNm 0)) (eAnd (eNot (eUn (isiV .bool) (eNm 0))) (eChain leV leV (eNm 1) (eNm 0) (eNm 2))))))
 sNil)
def b_law_is_name (F : Str → FnM) : StM :=
 (sSeq (sIf (tsOr (tsNot (tru (eUn (isiV .str) (eNm 0)))) (tsNot (asB (eChain leV leV (eC (.int 1)) (eUn lenV (eNm 0)) (eC (.int 8))))))
 (sSeq (sRet (eFzL (eC (.bl false))))
 sNil)
 sNil)
 (sSeq (sRet (eFzL (eBin eqV' (eLc [1] (srB (eFz (eNm 0))) (gNm 1) (asB (eBin notInV' (eNm 1) (eC (.str "abcdefghijklmnopqrstuvwxyz")))) (eFz (eNm 1))) (eLst aNil))))
 sNil))
def b_law_are_pairs (F : Str → FnM) : StM :=
 (sSeq (sIf (tsOr (tsNot (tru (eUn (isiV .tuple) (eNm 0)))) (asB (eBin gtV (eUn lenV (eNm 0)) (eNm 1))))
 (sSeq (sRet (eFzL (eC (.bl false))))
 sNil)
 sNil)
 (sSeq (sFor (srB (eFz (eNm 0))) (gNm 3)
 (sSeq (sIf (tsOr (tsNot (tru (eUn (isiV .tuple) (eNm 3)))) (asB (eBin neV' (eUn lenV (eNm 3)) (eC (.int 2)))))
 (sSeq (sRet (eFzL (eC (.bl false))))
 sNil)
 sNil)
 (sSeq (sIf (tsOr (tsNot (tru (eCall (F "_law_is_name") (aCons (eFz (eBin ixV (eNm 3) (eC (.int 0)))) aNil)))) (tsNot (tru (eCall (F "_law_from") (aCons (eFz (eBin ixV (eNm 3) (eC (.int 1)))) (aCons (eFz (eC (.int 1))) (aCons (eFz (eNm 2)) aNil)))))))
 (sSeq (sRet (eFzL (eC (.bl false))))
 sNil)
 sNil)
 sNil)))
 (sSeq (sAsg (eFz (eLc [3] (srB (eFz (eNm 0))) (gNm 3) tsYes (eFz (eBin ixV (eNm 3) (eC (.int 0)))))) (gNm 4))
 (sSeq (sRet (eFzL (eBin eqV' (eNm 4) (eSS (eNm 4)))))
 sNil))))
/-! ### further rules -/
section
variable {S S1 : Sto} {env : Env} {Q : Rv → Sto → Prop} {fa : ExM}
theorem br_tr {A B : Sto → Prop} {k : Bool} (e : k = true) (h : A S) : BrQ A B k S := e ▸ br_t h
theorem br_fl {A B : Sto → Prop} {k : Bool} (e : k = false) (h : B S) : BrQ A B k S := e ▸ br_f h
theorem w_popAt {n : Nat} {xs : List D} {i : Int} {j : Nat} {y : D} (h0 : S[n]? = some (.lst xs)) (hi : -(2 ^ 60) ≤ i ∧ i < 2 ^ 60) (hj : ixN xs.length i = some j) (hy : xs[j]? = some y) (q : Q (.val y) (S.set n (.lst (xs.eraseIdx j)))) : W (mPop1 (.val (.loc n)) (.int i) S) Q := by
  unfold mPop1 mPopAt chg
  simp only [h0, if_pos hi, hj, hy]
  exact .ok q
theorem w_val {r : Res Rv} {v : Rv} (h : r = .ok v S) (q : Q v S) : W r Q := ⟨v, S, h, q⟩
theorem w_revL {x : Rv} {xs : List D} (h : lrdOf x S = some xs) (q : Q (.new xs.reverse) S) : W (revV x S) Q := by
  have : revV x S = .ok (.new xs.reverse) S := by
    unfold revV
    cases x with
    | new ys => simp only [h]
    | val d => cases d <;> first | (simp only [h]; done) | (simp [lrdOf] at h)
    | newk _ => simp [lrdOf] at h
    | newt _ => simp [lrdOf] at h
  rw [this]
  exact .ok q
theorem w_revT {xs : List D} (q : Q (.val (.tup xs.reverse)) S) : W (revV (.val (.tup xs)) S) Q := .ok q
theorem w_revF {xs : List D} (q : Q (.val (.tup xs.reverse)) S) : W (revV (.val (.tuf xs)) S) Q := .ok q
theorem w_isi2 {T U t : Ty} {x : Rv} (h : tyOf x S = some t) (q : Q (.val (.bl (isi t T || isi t U))) S) : W (isiV2 T U x S) Q := by
  unfold isiV2
  rw [h]
  exact .ok q
theorem w_addB {b : Bool} {j : Int} (q : Q (.val (.int (b2i b + j))) S) : W (addV (.val (.bl b)) (.val (.int j)) S) Q := .ok q
theorem w_ltS {i j : Str} (q : Q (.val (.bl (decide (ltT i j)))) S) : W (ltV (.val (.str i)) (.val (.str j)) S) Q := .ok q
theorem w_catS {i j : Str} (h : i.length + j.length ≤ big) (q : Q (.val (.str (i ++ j))) S) : W (addV (.val (.str i)) (.val (.str j)) S) Q := by
  refine w_val (v := .val (.str (i ++ j))) ?_ q
  show (if _ then _ else _) = _
  rw [if_pos h]
theorem w_eSS (h : W (fa env S) fun x S1 => ∃ ss, (lrdOf x S1).bind strsOf = some ss ∧ ss.length < 64 ∧ Q (.new ((sortStrs (addsS [] ss)).map D.str)) S1) : W (eSS fa env S) Q :=
  .bnd (h.imp fun x S1 ⟨ss, e, hz, q⟩ => by
    simp only [e]
    rw [if_pos hz]
    exact .ok q)
theorem w_cnt {x : Rv} {xs : List D} {ss : List Str} {k : Str} (h : lrdOf x S = some xs) (hs : strsOf xs = some ss) (q : Q (.val (.int ((ss.countP fun n => decide (n = k)) : Nat))) S) : W (mCnt1 x (.str k) S) Q := by
  unfold mCnt1 mCount
  simp only [h, hs]
  exact .ok q
theorem w_lcMapI {gs : Gs} {tg : TgM} {env0 : Env} {Q : List D → Sto → Prop} {xs : List D} {fe : ExM} (f : D → D) (hg : gok gs S = true)
    (hs : ∀ x ∈ xs, W (tg x env0 S) fun env1 S1 => W (fe env1 S1) fun y S3 => y = .val (f x) ∧ S3 = S)
    (q : Q (xs.map f) S) : W (lcGo gs tg tsYes fe env0 xs S) Q := by
  have := w_lcMap1 (enc := id) (xs := xs) (Q := Q) f hg hs q
  rwa [List.map_id] at this
theorem blsOf_map {α : Type} (f : α → Bool) : ∀ xs : List α, blsOf (xs.map fun x => D.bl (f x)) = some (xs.map f)
  | [] => rfl
  | x :: xs => by
    show (blsOf (xs.map fun x => D.bl (f x))).map (f x :: ·) = _
    rw [blsOf_map f xs]
    rfl
theorem all_map {α : Type} (f : α → Bool) (xs : List α) : (xs.map f).all id = xs.all f := by rw [List.all_map]; rfl
end
theorem cutD_to {α : Type} (f : α → D) (xs : List α) (k : Nat) : cutD (xs.map f) none (some (k : Int)) = (xs.take k).map f := by
  unfold cutD
  rw [HT.sIx_none, HT.sIx_nat, List.drop_zero, Nat.sub_zero, ← List.map_take, List.length_map]
  congr 1
  rw [Nat.min_def]
  split
  · rfl
  · rw [List.take_of_length_le (by omega), List.take_of_length_le (by omega)]
theorem cutD_from {α : Type} (f : α → D) (xs : List α) (k : Nat) : cutD (xs.map f) (some (k : Int)) none = (xs.drop k).map f := by
  unfold cutD
  rw [HT.sIx_none, HT.sIx_nat, ← List.map_drop, List.length_map]
  rw [← List.map_take]
  congr 1
  rw [List.take_of_length_le (by simp)]
  rw [Nat.min_def]
  split
  · rfl
  · rw [List.drop_of_length_le (by omega), List.drop_of_length_le (by omega)]
theorem zipD_map {α β : Type} (f : α → D) (g : β → D) (xs : List α) (ys : List β) : zipD (xs.map f) (ys.map g) = (xs.zip ys).map fun p => D.tup [f p.1, g p.2] := by
  unfold zipD
  rw [List.zip_map, List.map_map]
  rfl
/-! ### things of any kind -/
def Pt (c : Nat) : Nat → D → Prop
  | 0, d => match d with
    | .non => True
    | .bl _ => True
    | .int _ => True
    | .str z => z.length ≤ 1000 ∧ sOk z
    | _ => False
  | n + 1, d => match d with
    | .non => True
    | .bl _ => True
    | .int _ => True
    | .str z => z.length ≤ 1000 ∧ sOk z
    | .tup xs => xs.length ≤ c ∧ ∀ x ∈ xs, Pt c n x
    | .tuf xs => xs.length ≤ c ∧ ∀ x ∈ xs, Pt c n x
    | .rol xs => xs.length ≤ c ∧ ∀ x ∈ xs, Pt c n x
    | _ => False
theorem Pt.up {c c' : Nat} : ∀ {n n' : Nat} {d : D}, Pt c n d → c ≤ c' → n ≤ n' → Pt c' n' d
  | 0, 0, d, h, _, _ => by cases d <;> first | exact h | exact h.elim
  | 0, n' + 1, d, h, _, _ => by cases d <;> first | exact h | exact h.elim
  | n + 1, 0, d, h, _, hn => absurd hn (by omega)
  | n + 1, n' + 1, d, h, hc, hn => by
    cases d with
    | tup xs => exact ⟨Nat.le_trans h.1 hc, fun x hx => (h.2 x hx).up hc (by omega)⟩
    | tuf xs => exact ⟨Nat.le_trans h.1 hc, fun x hx => (h.2 x hx).up hc (by omega)⟩
    | rol xs => exact ⟨Nat.le_trans h.1 hc, fun x hx => (h.2 x hx).up hc (by omega)⟩
    | _ => first | exact h | exact h.elim
def tyD : D → Ty
  | .non => .none
  | .bl _ => .bool
  | .int _ => .int
  | .str _ => .str
  | .tup _ => .tuple
  | .tuf _ => .tuple
  | .rol _ => .list
  | _ => .none
theorem pt_ty {c n : Nat} {d : D} (h : Pt c n d) (S : Sto) : tyOf (.val d) S = some (tyD d) := by
  cases n <;> cases d <;> first | rfl | exact h.elim
theorem pt_nol {c n : Nat} {d : D} (h : Pt c n d) : nol d = true := by
  cases n <;> cases d <;> first | rfl | exact h.elim
theorem pt_str {c n : Nat} {z : Str} (h : Pt c n (.str z)) : z.length ≤ 1000 := by cases n <;> exact h.1
theorem pt_sok {c n : Nat} {z : Str} (h : Pt c n (.str z)) : sOk z := by cases n <;> exact h.2
theorem pt_lts {c : Nat} (k : Nat) : ∀ {n : Nat} {d : D}, Pt c n d → locsLt k d = true
  | 0, d, h => by cases d <;> first | rfl | exact h.elim
  | n + 1, d, h => by
    cases d with
    | tup xs => exact locsLts_of fun x hx => pt_lts k (h.2 x hx)
    | tuf xs => exact locsLts_of fun x hx => pt_lts k (h.2 x hx)
    | rol xs => exact locsLts_of fun x hx => pt_lts k (h.2 x hx)
    | _ => first | rfl | exact h.elim
/-- a tuple's parts -/
def tupD : D → Option (List D)
  | .tup xs => some xs
  | .tuf xs => some xs
  | _ => none
theorem tupD_eq {d : D} {xs : List D} (h : tupD d = some xs) : d = .tup xs ∨ d = .tuf xs := by
  cases d <;> first | (cases h; first | exact .inl rfl | exact .inr rfl) | cases h
theorem pt_tup {c n : Nat} {d : D} {xs : List D} (h : Pt c n d) (e : tupD d = some xs) : xs.length ≤ c ∧ ∀ x ∈ xs, Pt c (n - 1) x := by
  cases n with
  | zero => rcases tupD_eq e with rfl | rfl <;> exact h.elim
  | succ n => rcases tupD_eq e with rfl | rfl <;> exact h
theorem tupD_ty {d : D} (h : tupD d = none) : isi (tyD d) .tuple = false := by
  cases d <;> first | rfl | cases h
theorem tupD_ty2 {d : D} {xs : List D} (h : tupD d = some xs) : isi (tyD d) .tuple = true := by
  rcases tupD_eq h with rfl | rfl <;> rfl
/-! ### is_from, is_name -/
def isFrom (lo hi : Int) : D → Bool
  | .int i => decide (lo ≤ i ∧ i ≤ hi)
  | _ => false
def FromS (g : FnM) : Prop := ∀ (d : D) (lo hi : Int) (c n : Nat) (S : Sto), Pt c n d → g [d, .int lo, .int hi] S = .ok (.bl (isFrom lo hi d)) S
theorem from_gen (F : Str → FnM) : FromS (runL 3 3 (b_is_from F)) := by
  intro d lo hi c n S hp
  have ht := pt_ty hp S
  refine of_W (w_runL rfl ?_)
  unfold b_is_from
  walk_at "w"
  refine w_isi ht ?_
  refine tx_q rfl ?_
  cases d with
  | int i =>
    refine br_tr rfl ?_
    walk_at "w"
    refine w_isi ht ?_
    refine tr_q rfl ?_
    refine tx_q rfl ?_
    refine br_tr rfl ?_
    walk_at "w"
    refine br_d (fun h1 => ?_) fun h1 => ?_
    · walk_at "w"
      have : (decide (lo ≤ i ∧ i ≤ hi)) = decide (i ≤ hi) := decide_eq_decide.mpr ⟨fun z => z.2, fun z => ⟨h1, z⟩⟩
      refine tr_same rfl ⟨?_, rfl⟩
      show _ = D.bl (decide (lo ≤ i ∧ i ≤ hi))
      rw [this]
    · walk_at "w"
      have : decide (lo ≤ i ∧ i ≤ hi) = false := decide_eq_false fun z => h1 z.1
      refine tr_same rfl ⟨?_, rfl⟩
      show _ = D.bl (decide (lo ≤ i ∧ i ≤ hi))
      rw [this]
  | bl b =>
    refine br_tr rfl ?_
    walk_at "w"
    refine w_isi ht ?_
    refine tr_q rfl ?_
    refine tx_q rfl ?_
    refine br_fl rfl ?_
    walk_at "w"
    exact tr_same rfl ⟨rfl, rfl⟩
  | _ =>
    refine br_fl rfl ?_
    walk_at "w"
    exact tr_same rfl ⟨rfl, rfl⟩
def letters : Str := "abcdefghijklmnopqrstuvwxyz"
def isNm (z : Str) : Bool := decide (1 ≤ (z.length : Int) ∧ (z.length : Int) ≤ 8) && z.cps.toList.all fun c => decide (c ∈ letters.cps.toList)
def isName : D → Bool
  | .str z => isNm z
  | _ => false
def NameS (g : FnM) : Prop := ∀ (d : D) (c n : Nat) (S : Sto), Pt c n d → g [d] S = .ok (.bl (isName d)) S
theorem nm_ok {z : Str} (h : isNm z = true) : sOk z := by
  unfold isNm at h
  rw [Bool.and_eq_true] at h
  have h2 := List.all_eq_true.mp h.2
  have hl : ∀ c ∈ letters.cps.toList, c < 0x110000 := by decide +kernel
  show z.cps.all (· < 0x110000) = true
  rw [← Array.all_toList]
  exact List.all_eq_true.mpr fun c hc => decide_eq_true (hl c (of_decide_eq_true (h2 c hc)))
theorem sg_in (S : Sto) (c : Nat) : inOf (.val (.str ⟨#[c]⟩)) (.val (.str letters)) S = some (decide (c ∈ letters.cps.toList)) := rfl
theorem w_chain1 {S : Sto} {Q : Rv → Sto → Prop} : True := trivial
theorem name_S (F : Str → FnM) : NameS (runL 1 2 (b_is_name F)) := by
  intro d c n S hp
  have ht := pt_ty hp S
  refine of_W (w_runL rfl ?_)
  unfold b_is_name
  walk_at "w"
  refine w_isi ht ?_
  refine tr_q rfl ?_
  cases d with
  | str z =>
    refine br_fl rfl ?_
    have hz := pt_str hp
    have hsl : (z.cps.toList.map fun c => D.str ⟨#[c]⟩).length = z.length := by rw [List.length_map]; rfl
    walk_at "w"
    refine w_val (v := .val (.int z.length)) (by show (if _ then _ else _) = _; rw [if_pos (by unfold big; omega)]) ?_
    walk_at "w"
    refine br_d (fun h1 => ?_) fun h1 => ?_
    · walk_at "w"
      refine br_d (fun h2 => ?_) fun h2 => ?_
      · walk_at "w"
        unfold signs
        refine ⟨by rw [hsl]; unfold big; omega, w_lcMap1 (fun c : Nat => .bl (decide (c ∈ letters.cps.toList))) rfl (fun c hc => ?_) ?_⟩
        · walk_at "w"
          refine w_in (sg_in _ c) ?_
          walk_at "w"
          exact ⟨rfl, rfl⟩
        refine w_all (blsOf_map (fun c : Nat => decide (c ∈ letters.cps.toList)) _) ?_
        walk_at "w"
        refine tr_same rfl ⟨?_, rfl⟩
        rw [all_map]
        show _ = D.bl (isNm z)
        unfold isNm
        rw [decide_eq_true ⟨h1, h2⟩, Bool.true_and]
      · walk_at "w"
        refine tr_same rfl ⟨?_, rfl⟩
        show _ = D.bl (isNm z)
        unfold isNm
        rw [decide_eq_false fun h => h2 h.2, Bool.false_and]
    · walk_at "w"
      refine tr_same rfl ⟨?_, rfl⟩
      show _ = D.bl (isNm z)
      unfold isNm
      rw [decide_eq_false fun h => h1 h.1, Bool.false_and]
  | _ =>
    refine br_tr rfl ?_
    walk_at "w"
    exact tr_same rfl ⟨rfl, rfl⟩
theorem eq_strs {S : Sto} {x y : Rv} {a b : List Str} (hx : x = .new (a.map D.str) ∨ x = .val (.rol (a.map D.str))) (hy : y = .new (b.map D.str) ∨ y = .val (.rol (b.map D.str))) (ha : ∀ x ∈ a, sOk x) (hb : ∀ x ∈ b, sOk x) : eqOf x y S = some (decide (a = b)) := by
  have r : ∀ {x : Rv} {a : List Str}, (x = .new (a.map D.str) ∨ x = .val (.rol (a.map D.str))) → rfx x S = some (.list (a.map PyData.str)) ∧ (∀ z, x ≠ .val (.str z)) ∧ (∀ z, x ≠ .val (.int z)) := by
    rintro x a (rfl | rfl)
    · have := rfds_mapG (lk := lkS S 12) (f := D.str) (g := PyData.str) (fun _ => rfl) a
      refine ⟨?_, (by intro z e; cases e), (by intro z e; cases e)⟩
      show (rfds _ (a.map D.str)).map PyData.list = _
      rw [this]
      rfl
    · have := rfds_mapG (lk := lkS S 12) (f := D.str) (g := PyData.str) (fun _ => rfl) a
      refine ⟨?_, (by intro z e; cases e), (by intro z e; cases e)⟩
      show (rfds _ (a.map D.str)).map PyData.list = _
      rw [this]
      rfl
  obtain ⟨r1, r2, r3⟩ := r hx
  obtain ⟨q1, q2, q3⟩ := r hy
  exact eq_data (n := 1) r1 q1 (lay_lst (lay_map fun x hx => lay_str (ha x hx))) (lay_lst (lay_map fun x hx => lay_str (hb x hx))) (by decide) (eqv_lst PyData.str eqv_str a b) r2 r3
theorem lawName_S (F : Str → FnM) : NameS (runL 1 2 (b_law_is_name F)) := by
  intro d c n S hp
  have ht := pt_ty hp S
  refine of_W (w_runL rfl ?_)
  unfold b_law_is_name
  walk_at "w"
  refine w_isi ht ?_
  refine tr_q rfl ?_
  cases d with
  | str z =>
    refine br_fl rfl ?_
    have hz := pt_str hp
    have hsl : (z.cps.toList.map fun c => D.str ⟨#[c]⟩).length = z.length := by rw [List.length_map]; rfl
    walk_at "w"
    refine w_val (v := .val (.int z.length)) (by show (if _ then _ else _) = _; rw [if_pos (by unfold big; omega)]) ?_
    walk_at "w"
    refine br_d (fun h1 => ?_) fun h1 => ?_
    · walk_at "w"
      refine br_d (fun h2 => ?_) fun h2 => ?_
      · walk_at "w"
        unfold signs
        refine ⟨by rw [hsl]; unfold big; omega, w_lcMap (fun c : Nat => !decide (c ∈ letters.cps.toList)) (fun c => .str ⟨#[c]⟩) rfl (fun c hc => ?_) ?_⟩
        · walk_at "w"
          refine w_notin (sg_in _ c) ?_
          walk_at "w"
          refine br_d (fun h => ⟨by rw [decide_eq_true h]; exact rfl, rfl⟩) fun h => ⟨by rw [decide_eq_false h]; exact rfl, ?_⟩
          walk_at "w"
          exact ⟨rfl, rfl⟩
        walk_at "w"
        have hz2 : (z.cps.toList.filter fun c => !decide (c ∈ letters.cps.toList)).map (fun c => D.str ⟨#[c]⟩) = ((z.cps.toList.filter fun c => !decide (c ∈ letters.cps.toList)).map fun c => (⟨#[c]⟩ : Str)).map D.str := by rw [List.map_map]; rfl
        rw [hz2]
        by_cases hall : (z.cps.toList.all fun c => decide (c ∈ letters.cps.toList)) = true
        · have hf : (z.cps.toList.filter fun c => !decide (c ∈ letters.cps.toList)) = [] := List.filter_eq_nil_iff.mpr fun c hc => by
            have := List.all_eq_true.mp hall c hc
            rw [this]
            exact Bool.false_ne_true
          rw [hf]
          refine w_eq (eq_strs (a := []) (b := []) (.inl rfl) (.inl rfl) (fun x h => absurd h List.not_mem_nil) (fun x h => absurd h List.not_mem_nil)) ?_
          rw [decide_eq_true rfl]
          walk_at "w"
          refine tr_same rfl ⟨?_, rfl⟩
          show _ = D.bl (isNm z)
          unfold isNm
          rw [decide_eq_true ⟨h1, h2⟩, hall]
          rfl
        · obtain ⟨c0, hc0, hn0⟩ : ∃ c ∈ z.cps.toList, ¬ c ∈ letters.cps.toList := by
            rw [Bool.not_eq_true, List.all_eq_false] at hall
            obtain ⟨c, h1, h2⟩ := hall
            exact ⟨c, h1, fun h => h2 (decide_eq_true h)⟩
          have hok : ∀ x ∈ (z.cps.toList.filter fun c => !decide (c ∈ letters.cps.toList)).map (fun c => (⟨#[c]⟩ : Str)), sOk x := fun x hx => by
            obtain ⟨c, hc, rfl⟩ := List.mem_map.mp hx
            have h3 : z.cps.all (· < 0x110000) = true := pt_sok hp
            rw [← Array.all_toList] at h3
            have h4 := List.all_eq_true.mp h3 c (List.mem_filter.mp hc).1
            show (#[c] : Array Nat).all (· < 0x110000) = true
            simpa using h4
          refine w_eq (eq_strs (b := []) (.inl rfl) (.inl rfl) hok (fun x h => absurd h List.not_mem_nil)) ?_
          rw [decide_eq_false fun h => by
            have hm : c0 ∈ z.cps.toList.filter fun c => !decide (c ∈ letters.cps.toList) := List.mem_filter.mpr ⟨hc0, by rw [decide_eq_false hn0]; rfl⟩
            rw [List.map_eq_nil_iff.mp h] at hm
            exact absurd hm List.not_mem_nil]
          walk_at "w"
          refine tr_same rfl ⟨?_, rfl⟩
          show _ = D.bl (isNm z)
          unfold isNm
          rw [Bool.not_eq_true] at hall
          rw [hall, Bool.and_false]
      · walk_at "w"
        refine tr_same rfl ⟨?_, rfl⟩
        show _ = D.bl (isNm z)
        unfold isNm
        rw [decide_eq_false fun h => h2 h.2, Bool.false_and]
    · walk_at "w"
      refine tr_same rfl ⟨?_, rfl⟩
      show _ = D.bl (isNm z)
      unfold isNm
      rw [decide_eq_false fun h => h1 h.1, Bool.false_and]
  | _ =>
    refine br_tr rfl ?_
    walk_at "w"
    exact tr_same rfl ⟨rfl, rfl⟩
/-! ### rises -/
def risesF (ns : List Str) : Bool := (ns.zip (ns.drop 1)).all fun p => decide (ltT p.1 p.2)
def RisesS (g : FnM) : Prop := ∀ (ns : List Str) (S : Sto), ns.length < 100000 → g [.rol (ns.map D.str)] S = .ok (.bl (risesF ns)) S
theorem rises_S (F : Str → FnM) : RisesS (runL 1 3 (b_rises F)) := by
  intro ns S hz
  refine of_W (w_runL rfl ?_)
  unfold b_rises
  walk_at "w"
  refine w_slL rfl ?_
  rw [show (some 1 : Option Int) = some ((1 : Nat) : Int) from rfl, cutD_from]
  walk_at "w"
  refine ⟨_, _, rfl, rfl, ?_⟩
  rw [zipD_map]
  refine ⟨by rw [List.length_map, List.length_zip]; unfold big; omega, w_lcMap1 (fun p : Str × Str => .bl (decide (ltT p.1 p.2))) rfl (fun p hp => ?_) ?_⟩
  · walk_at "w"
    refine w_ltS ?_
    walk_at "w"
    exact ⟨rfl, rfl⟩
  refine w_all (blsOf_map (fun p : Str × Str => decide (ltT p.1 p.2)) _) ?_
  walk_at "w"
  refine tr_same rfl ⟨?_, rfl⟩
  rw [all_map]
  rfl
theorem rises_iff : ∀ ns : List Str, risesF ns = true ↔ ns.Pairwise ltT
  | [] => by simp [risesF]
  | [a] => by simp [risesF]
  | a :: b :: ns => by
    have e : risesF (a :: b :: ns) = (decide (ltT a b) && risesF (b :: ns)) := rfl
    rw [e, Bool.and_eq_true, rises_iff (b :: ns), decide_eq_true_eq]
    constructor
    · rintro ⟨h1, h2⟩
      refine List.pairwise_cons.mpr ⟨fun x hx => ?_, h2⟩
      rcases List.mem_cons.mp hx with rfl | hx
      · exact h1
      · exact ltT_trans h1 ((List.pairwise_cons.mp h2).1 x hx)
    · intro h
      obtain ⟨h1, h2⟩ := List.pairwise_cons.mp h
      exact ⟨h1 b List.mem_cons_self, h2⟩
/-- names == sorted(set(names)) -/
theorem sorted_set_iff (ns : List Str) : ns = sortStrs (addsS [] ns) ↔ ns.Pairwise ltT := by
  have hnd : (addsS [] ns).Nodup := addsS_nd ns List.nodup_nil
  have hs : (sortStrs (addsS [] ns)).Pairwise ltT := sortStrs_lt hnd
  constructor
  · intro h
    rw [h]
    exact hs
  · intro h
    have hn : ns.Nodup := h.imp fun h => ltT_ne h
    have hp : (addsS [] ns).Perm ns := (List.perm_ext_iff_of_nodup hnd hn).mpr fun k => by rw [addsS_mem]; simp
    exact List.Perm.eq_of_pairwise (fun a b _ _ x y => absurd y (ltT_asymm x)) h hs (hp.symm.trans (sortStrs_perm _).symm)
/-! ### rows, pairs -/
theorem seq_tup {d : D} {xs : List D} (h : tupD d = some xs) (S : Sto) : seqOf (.val d) S = some xs := by
  rcases tupD_eq h with rfl | rfl <;> rfl
def rowN (k : Int) (x : D) : Bool := match tupD x with
  | some ys => decide ((ys.length : Int) = k)
  | none => false
def rowsF (most k : Int) (d : D) : Bool := match tupD d with
  | some xs => decide ((xs.length : Int) ≤ most) && xs.all (rowN k)
  | none => false
def RowsS (g : FnM) : Prop := ∀ (d : D) (most k : Int) (c n : Nat) (S : Sto), Pt c n d → c < 100000 → g [d, .int most, .int k] S = .ok (.bl (rowsF most k d)) S
theorem rows_S (F : Str → FnM) : RowsS (runL 3 4 (b_are_rows F)) := by
  intro d most k c n S hp hc
  have ht := pt_ty hp S
  refine of_W (w_runL rfl ?_)
  unfold b_are_rows
  walk_at "w"
  refine w_isi ht ?_
  refine tr_q rfl ?_
  cases e : tupD d with
  | none =>
    have e2 : rowsF most k d = false := by unfold rowsF; rw [e]
    rw [tupD_ty e, e2]
    refine br_t ?_
    walk_at "w"
    exact tr_same rfl ⟨rfl, rfl⟩
  | some xs =>
    rw [tupD_ty2 e]
    have e2 : rowsF most k d = (decide ((xs.length : Int) ≤ most) && xs.all (rowN k)) := by unfold rowsF; rw [e]
    obtain ⟨hl, hx⟩ := pt_tup hp e
    rw [e2]
    refine br_f ?_
    walk_at "w"
    refine w_len (seq_tup e _) ?_
    walk_at "w"
    refine br_d (fun h => ?_) fun h => ?_
    · walk_at "w"
      refine tr_same rfl ⟨?_, rfl⟩
      rw [decide_eq_false (by omega), Bool.false_and]
    · rw [decide_eq_true (by omega : (xs.length : Int) ≤ most), Bool.true_and]
      have body : W (lcGo [] (gNm 3) tsYes (eFz (eAnd (eUn (isiV .tuple) (eNm 3)) (eBin eqV' (eUn lenV (eNm 3)) (eNm 2)))) (wipeE [some d, some (.int most), some (.int k), none] [3]) xs S) fun ds S2 => ds = xs.map (fun x => D.bl (rowN k x)) ∧ S2 = S := by
        refine w_lcMapI (fun x => .bl (rowN k x)) rfl (fun x hxm => ?_) ⟨rfl, rfl⟩
        have hpx := hx x hxm
        have htx := pt_ty hpx S
        walk_at "w"
        refine w_isi htx ?_
        refine tx_q rfl ?_
        cases e3 : tupD x with
        | none =>
          have e4 : rowN k x = false := by unfold rowN; rw [e3]
          rw [tupD_ty e3, e4]
          refine br_f ?_
          walk_at "w"
          exact ⟨rfl, rfl⟩
        | some ys =>
          have e4 : rowN k x = decide ((ys.length : Int) = k) := by unfold rowN; rw [e3]
          rw [tupD_ty2 e3, e4]
          refine br_t ?_
          walk_at "w"
          refine w_len (seq_tup e3 _) ?_
          walk_at "w"
          exact ⟨rfl, rfl⟩
      have hlb : xs.length < big := by unfold big; omega
      rcases tupD_eq e with rfl | rfl
      all_goals
        walk_at "w"
        refine ⟨hlb, ?_⟩
        refine body.imp ?_
        rintro ds S2 ⟨rfl, rfl⟩
        refine w_all (blsOf_map (rowN k) _) ?_
        walk_at "w"
        refine tr_same rfl ⟨?_, rfl⟩
        rw [all_map]
def pairOk (lo hi : Int) (x : D) : Bool := match tupD x with
  | some [a, b] => isName a && isFrom lo hi b
  | _ => false
def nmOf (x : D) : Str := match tupD x with
  | some (.str z :: _) => z
  | _ => Str.empty
def pairsF (most lo hi : Int) (d : D) : Bool := match tupD d with
  | some xs => decide ((xs.length : Int) ≤ most) && xs.all (pairOk lo hi) && risesF (xs.map nmOf)
  | none => false
theorem rowN_two {x : D} (h : rowN 2 x = true) : ∃ a b, tupD x = some [a, b] := by
  unfold rowN at h
  split at h
  · rename_i ys e
    have h := of_decide_eq_true h
    match ys, h with
    | [a, b], _ => exact ⟨a, b, e⟩
    | [], h => exact absurd h (by simp)
    | [_], h => exact absurd h (by simp)
    | _ :: _ :: _ :: _, h => exact absurd h (by simp; omega)
  · cases h
theorem pairOk_row {lo hi : Int} {x : D} (h : pairOk lo hi x = true) : rowN 2 x = true := by
  unfold pairOk at h
  split at h
  · rename_i a b e
    unfold rowN
    rw [e]
    rfl
  · cases h
theorem pairOk_nm {lo hi : Int} {x : D} (h : pairOk lo hi x = true) : ∃ z b, tupD x = some [.str z, b] ∧ nmOf x = z ∧ isNm z = true := by
  unfold pairOk at h
  split at h
  · rename_i a b e
    rw [Bool.and_eq_true] at h
    cases a with
    | str z => exact ⟨z, b, e, by unfold nmOf; rw [e], h.1⟩
    | _ => exact absurd h.1 (by simp [isName])
  · cases h
theorem tup_at {x a b : D} (h : tupD x = some [a, b]) {S : Sto} {Q : Rv → Sto → Prop} (q : Q (.val a) S) : W (ixV (.val x) (.val (.int 0)) S) Q := by
  rcases tupD_eq h with rfl | rfl
  · exact w_ixT rfl q
  · exact w_ixF rfl q
theorem tup_at1 {x a b : D} (h : tupD x = some [a, b]) {S : Sto} {Q : Rv → Sto → Prop} (q : Q (.val b) S) : W (ixV (.val x) (.val (.int 1)) S) Q := by
  rcases tupD_eq h with rfl | rfl
  · exact w_ixT rfl q
  · exact w_ixF rfl q
theorem pt_pair {c n : Nat} {x a b : D} (h : Pt c n x) (e : tupD x = some [a, b]) : Pt c (n - 1) a ∧ Pt c (n - 1) b := by
  have := (pt_tup h e).2
  exact ⟨this a (by simp), this b (by simp)⟩
def PairsS (g : FnM) : Prop := ∀ (d : D) (most lo hi : Int) (c n : Nat) (S : Sto), Pt c n d → c < 100000 → g [d, .int most, .int lo, .int hi] S = .ok (.bl (pairsF most lo hi d)) S
theorem pairs_S {F : Str → FnM} (RW : RowsS (F "are_rows")) (NM : NameS (F "is_name")) (FR : FromS (F "is_from")) (RI : RisesS (F "rises")) : PairsS (runL 4 7 (b_are_pairs F)) := by
  intro d most lo hi c n S hp hc
  refine of_W (w_runL rfl ?_)
  unfold b_are_pairs
  walk_at "w"
  refine w_pure (RW d most 2 c n S hp hc) ?_
  refine tr_q rfl ?_
  by_cases hr : rowsF most 2 d = true
  · rw [hr]
    refine br_f ?_
    have hr0 := hr
    unfold rowsF at hr
    cases e : tupD d with
    | none => rw [e] at hr; cases hr
    | some xs =>
      rw [e] at hr
      have hr : (decide ((xs.length : Int) ≤ most) && xs.all (rowN 2)) = true := hr
      rw [Bool.and_eq_true] at hr
      obtain ⟨hm, hall⟩ := hr
      obtain ⟨hl, hx⟩ := pt_tup hp e
      have hF : pairsF most lo hi d = (xs.all (pairOk lo hi) && risesF (xs.map nmOf)) := by unfold pairsF; rw [e]; show (_ && _ && _) = _; rw [hm, Bool.true_and]
      rw [hF]
      have hlb : xs.length < big := by unfold big; omega
      have body : W (lcGo [] (gTp 2 (gsCons (gNm 4) (gsCons (gNm 5) gsNil))) tsYes (eFz (eAnd (eCall (F "is_name") (aCons (eFz (eNm 4)) aNil)) (eCall (F "is_from") (aCons (eFz (eNm 5)) (aCons (eFz (eNm 2)) (aCons (eFz (eNm 3)) aNil)))))) (wipeE [some d, some (.int most), some (.int lo), some (.int hi), none, none, none] [4, 5]) xs S) fun ds S2 => ds = xs.map (fun x => D.bl (pairOk lo hi x)) ∧ S2 = S := by
        refine w_lcMapI (fun x => .bl (pairOk lo hi x)) rfl (fun x hxm => ?_) ⟨rfl, rfl⟩
        obtain ⟨a, b, e3⟩ := rowN_two (List.all_eq_true.mp hall x hxm)
        obtain ⟨pa, pb⟩ := pt_pair (hx x hxm) e3
        have e4 : pairOk lo hi x = (isName a && isFrom lo hi b) := by unfold pairOk; rw [e3]
        rw [e4]
        rcases tupD_eq e3 with rfl | rfl
        all_goals
          walk_at "w"
          refine w_pure (NM a _ _ _ pa) ?_
          refine tx_q rfl ?_
          by_cases hn : isName a = true
          · rw [hn]
            refine br_t ?_
            walk_at "w"
            refine w_pure (FR b lo hi _ _ _ pb) ?_
            walk_at "w"
            exact ⟨by rw [Bool.true_and], rfl⟩
          · rw [Bool.not_eq_true] at hn
            rw [hn]
            refine br_f ?_
            walk_at "w"
            exact ⟨rfl, rfl⟩
      have names : xs.all (pairOk lo hi) = true → W (lcGo [] (gNm 6) tsYes (eFz (eBin ixV (eNm 6) (eC (.int 0)))) (wipeE [some d, some (.int most), some (.int lo), some (.int hi), none, none, none] [6]) xs S) fun ds S2 => ds = xs.map (fun x => D.str (nmOf x)) ∧ S2 = S := fun hap => by
        refine w_lcMapI (fun x => .str (nmOf x)) rfl (fun x hxm => ?_) ⟨rfl, rfl⟩
        obtain ⟨z, b, e3, e4, _⟩ := pairOk_nm (List.all_eq_true.mp hap x hxm)
        rw [e4]
        walk_at "w"
        refine tup_at e3 ?_
        walk_at "w"
        exact ⟨rfl, rfl⟩
      have go : ∀ {A : ExM}, True := fun {_} => trivial
      by_cases hap : xs.all (pairOk lo hi) = true
      · have nb := names hap
        have em : xs.map (fun x => D.str (nmOf x)) = (xs.map nmOf).map D.str := by rw [List.map_map]; rfl
        rcases tupD_eq e with rfl | rfl
        all_goals
          walk_at "w"
          refine ⟨hlb, body.imp ?_⟩
          rintro ds S2 ⟨rfl, rfl⟩
          refine w_all (blsOf_map (pairOk lo hi) _) ?_
          refine tr_q rfl ?_
          rw [all_map, hap]
          refine br_f ?_
          walk_at "w"
          refine ⟨hlb, nb.imp ?_⟩
          rintro ds S2 ⟨rfl, rfl⟩
          rw [em]
          walk_at "w"
          refine w_pure (RI _ _ (by rw [List.length_map]; omega)) ?_
          walk_at "w"
          exact tr_same rfl ⟨rfl, rfl⟩
      · rw [Bool.not_eq_true] at hap
        rcases tupD_eq e with rfl | rfl
        all_goals
          walk_at "w"
          refine ⟨hlb, body.imp ?_⟩
          rintro ds S2 ⟨rfl, rfl⟩
          refine w_all (blsOf_map (pairOk lo hi) _) ?_
          refine tr_q rfl ?_
          rw [all_map, hap]
          refine br_t ?_
          walk_at "w"
          exact tr_same rfl ⟨rfl, rfl⟩
  · rw [Bool.not_eq_true] at hr
    rw [hr]
    refine br_t ?_
    walk_at "w"
    refine tr_same rfl ⟨?_, rfl⟩
    unfold rowsF at hr
    unfold pairsF
    cases e : tupD d with
    | none => rfl
    | some xs =>
      rw [e] at hr
      have hr : (decide ((xs.length : Int) ≤ most) && xs.all (rowN 2)) = false := hr
      show D.bl false = D.bl (_ && _ && _)
      by_cases h1 : (xs.length : Int) ≤ most
      · rw [decide_eq_true h1, Bool.true_and] at hr
        have : xs.all (pairOk lo hi) = false := by
          rw [List.all_eq_false] at hr ⊢
          obtain ⟨x, hx, h2⟩ := hr
          exact ⟨x, hx, fun h => h2 (pairOk_row h)⟩
        rw [this, Bool.and_false, Bool.false_and]
      · rw [decide_eq_false h1, Bool.false_and, Bool.false_and]
def lawPairBody (F : Str → FnM) : StM :=
 (sSeq (sIf (tsOr (tsNot (tru (eUn (isiV .tuple) (eNm 3)))) (asB (eBin neV' (eUn lenV (eNm 3)) (eC (.int 2)))))
 (sSeq (sRet (eFzL (eC (.bl false))))
 sNil)
 sNil)
 (sSeq (sIf (tsOr (tsNot (tru (eCall (F "_law_is_name") (aCons (eFz (eBin ixV (eNm 3) (eC (.int 0)))) aNil)))) (tsNot (tru (eCall (F "_law_from") (aCons (eFz (eBin ixV (eNm 3) (eC (.int 1)))) (aCons (eFz (eC (.int 1))) (aCons (eFz (eNm 2)) aNil)))))))
 (sSeq (sRet (eFzL (eC (.bl false))))
 sNil)
 sNil)
 sNil))
def LPairsS (g : FnM) : Prop := ∀ (d : D) (most hi : Int) (c n : Nat) (S : Sto), Pt c n d → c < 100000 → most < 64 → g [d, .int most, .int hi] S = .ok (.bl (pairsF most 1 hi d)) S
theorem lawPairs_S {F : Str → FnM} (NM : NameS (F "_law_is_name")) (FR : FromS (F "_law_from")) : LPairsS (runL 3 5 (b_law_are_pairs F)) := by
  intro d most hi c n S hp hc hm
  have ht := pt_ty hp S
  refine of_W (w_runL rfl ?_)
  unfold b_law_are_pairs
  walk_at "w"
  refine w_isi ht ?_
  refine tr_q rfl ?_
  cases e : tupD d with
  | none =>
    have e2 : pairsF most 1 hi d = false := by unfold pairsF; rw [e]
    rw [tupD_ty e, e2]
    refine br_t ?_
    walk_at "w"
    exact tr_same rfl ⟨rfl, rfl⟩
  | some xs =>
    rw [tupD_ty2 e]
    obtain ⟨hl, hx⟩ := pt_tup hp e
    have hF : pairsF most 1 hi d = (decide ((xs.length : Int) ≤ most) && xs.all (pairOk 1 hi) && risesF (xs.map nmOf)) := by unfold pairsF; rw [e]
    rw [hF]
    refine br_f ?_
    walk_at "w"
    refine w_len (seq_tup e _) ?_
    walk_at "w"
    refine br_d (fun h => ?_) fun h => ?_
    · walk_at "w"
      refine tr_same rfl ⟨?_, rfl⟩
      rw [decide_eq_false (by omega), Bool.false_and, Bool.false_and]
    · rw [decide_eq_true (by omega : (xs.length : Int) ≤ most), Bool.true_and]
      have hlb : xs.length < big := by unfold big; omega
      have loop : W (forGo [] (gNm 3) (lawPairBody F) xs [some d, some (.int most), some (.int hi), none, none] S) fun fl S2 => S2 = S ∧ ((fl = .rt (.bl false) ∧ xs.all (pairOk 1 hi) = false) ∨ (∃ e3, fl = .nx [some d, some (.int most), some (.int hi), e3, none] ∧ xs.all (pairOk 1 hi) = true)) := by
        refine w_forGo (fun i env S' => S' = S ∧ (∃ e3, env = [some d, some (.int most), some (.int hi), e3, none]) ∧ (xs.take i).all (pairOk 1 hi) = true) ⟨rfl, ⟨_, rfl⟩, rfl⟩ ?_ ?_
        · rintro i x env S' hxi ⟨rfl, ⟨e3, rfl⟩, hal⟩
          refine ⟨gok_nil, ?_⟩
          have hxm := List.mem_of_getElem? hxi
          have hpx := hx x hxm
          have htx := pt_ty hpx S'
          have no : pairOk 1 hi x = false → xs.all (pairOk 1 hi) = false := fun h => List.all_eq_false.mpr ⟨x, hxm, by rw [h]; exact Bool.false_ne_true⟩
          unfold lawPairBody
          walk_at "w"
          refine w_isi htx ?_
          refine tr_q rfl ?_
          cases e3 : tupD x with
          | none =>
            rw [tupD_ty e3]
            refine br_t ?_
            walk_at "w"
            exact ⟨rfl, .inl ⟨rfl, no (by unfold pairOk; rw [e3])⟩⟩
          | some ys =>
            rw [tupD_ty2 e3]
            refine br_f ?_
            walk_at "w"
            refine w_len (seq_tup e3 _) ?_
            walk_at "w"
            refine br_d (fun h2 => ?_) fun h2 => ?_
            rotate_left
            · walk_at "w"
              refine ⟨rfl, .inl ⟨rfl, no ?_⟩⟩
              unfold pairOk
              rw [e3]
              match ys, h2 with
              | [], _ => rfl
              | [_], _ => rfl
              | [a, b], h => exact absurd (by rfl) h
              | _ :: _ :: _ :: _, _ => rfl
            · obtain ⟨a, b, rfl⟩ : ∃ a b, ys = [a, b] := by
                match ys, h2 with
                | [a, b], _ => exact ⟨a, b, rfl⟩
                | [], h => exact absurd h (by simp)
                | [_], h => exact absurd h (by simp)
                | _ :: _ :: _ :: _, h => exact absurd h (by simp; omega)
              obtain ⟨pa, pb⟩ := pt_pair hpx e3
              have e4 : pairOk 1 hi x = (isName a && isFrom 1 hi b) := by unfold pairOk; rw [e3]
              walk_at "w"
              refine tup_at e3 ?_
              walk_at "w"
              refine w_pure (NM a _ _ _ pa) ?_
              refine tr_q rfl ?_
              by_cases hn : isName a = true
              · rw [hn]
                refine br_f ?_
                walk_at "w"
                refine tup_at1 e3 ?_
                walk_at "w"
                refine w_pure (FR b 1 hi _ _ _ pb) ?_
                refine tr_q rfl ?_
                by_cases hb : isFrom 1 hi b = true
                · rw [hb]
                  refine br_f ?_
                  walk_at "w"
                  refine ⟨rfl, ⟨_, rfl⟩, ?_⟩
                  rw [take_succ hxi, List.all_append, hal, List.all_cons, e4, hn, hb]
                  rfl
                · rw [Bool.not_eq_true] at hb
                  rw [hb]
                  refine br_t ?_
                  walk_at "w"
                  exact ⟨rfl, .inl ⟨rfl, no (by rw [e4, hb, Bool.and_false])⟩⟩
              · rw [Bool.not_eq_true] at hn
                rw [hn]
                refine br_t ?_
                walk_at "w"
                exact ⟨rfl, .inl ⟨rfl, no (by rw [e4, hn, Bool.false_and])⟩⟩
        · rintro env S' ⟨rfl, ⟨e3, rfl⟩, hal⟩
          rw [List.take_length] at hal
          exact ⟨gok_nil, rfl, .inr ⟨_, rfl, hal⟩⟩
      have names : ∀ e3, xs.all (pairOk 1 hi) = true → W (lcGo [] (gNm 3) tsYes (eFz (eBin ixV (eNm 3) (eC (.int 0)))) (wipeE [some d, some (.int most), some (.int hi), e3, none] [3]) xs S) fun ds S2 => ds = xs.map (fun x => D.str (nmOf x)) ∧ S2 = S := fun e3 hap => by
        refine w_lcMapI (fun x => .str (nmOf x)) rfl (fun x hxm => ?_) ⟨rfl, rfl⟩
        obtain ⟨z, b, e3, e4, _⟩ := pairOk_nm (List.all_eq_true.mp hap x hxm)
        rw [e4]
        walk_at "w"
        refine tup_at e3 ?_
        walk_at "w"
        exact ⟨rfl, rfl⟩
      have em : xs.map (fun x => D.str (nmOf x)) = (xs.map nmOf).map D.str := by rw [List.map_map]; rfl
      have fin : xs.all (pairOk 1 hi) = true → decide (xs.map nmOf = sortStrs (addsS [] (xs.map nmOf))) = risesF (xs.map nmOf) := fun _ => by
        rw [Bool.eq_iff_iff, decide_eq_true_eq, sorted_set_iff, rises_iff]
      have oks : xs.all (pairOk 1 hi) = true → ∀ z ∈ xs.map nmOf, sOk z := fun hap z hz => by
        obtain ⟨x, hx, rfl⟩ := List.mem_map.mp hz
        obtain ⟨z, b, e3, e4, hn⟩ := pairOk_nm (List.all_eq_true.mp hap x hx)
        rw [e4]
        exact nm_ok hn
      rcases tupD_eq e with rfl | rfl
      all_goals
        walk_at "w"
        refine W.imp loop ?_
        rintro fl S2 ⟨rfl, ⟨rfl, h1⟩ | ⟨e3, rfl, h1⟩⟩
        · walk_at "w"
          refine tr_same rfl ⟨?_, rfl⟩
          rw [h1, Bool.false_and]
        · walk_at "w"
          refine ⟨hlb, (names e3 h1).imp ?_⟩
          rintro ds S2 ⟨rfl, rfl⟩
          rw [em]
          walk_at "w"
          refine w_eSS ?_
          walk_at "w"
          refine ⟨xs.map nmOf, strsOf_map _, by rw [List.length_map]; omega, ?_⟩
          refine w_eq (eq_strs (.inr rfl) (.inl rfl) (oks h1) fun z hz => oks h1 z ?_) ?_
          · have := (sortStrs_perm (addsS [] (xs.map nmOf))).mem_iff.mp hz
            rw [addsS_mem] at this
            exact this.resolve_left List.not_mem_nil
          walk_at "w"
          refine tr_same rfl ⟨?_, rfl⟩
          rw [fin h1, h1, Bool.true_and]
theorem lawFrom_S (F : Str → FnM) : FromS (runL 3 3 (b_law_from F)) := from_gen F
theorem inV_strs (x : Str) (ns : List Str) : inV (.str x) (ns.map V.str) = decide (x ∈ ns) := by
  have := in_strs x ns ([] : Sto)
  have e : inOf (.val (.str x)) (.val (.rol (ns.map D.str))) [] = some (inV (.str x) (ns.map V.str)) := by
    show (match toVx (.val (.str x)), toVs (ns.map D.str) with
      | some v, some vs => some (inV v vs)
      | _, _ => _) = _
    rw [toVs_strs]
    rfl
  rw [e] at this
  exact Option.some.inj this
theorem in_strsL {S : Sto} {n : Nat} {ns : List Str} (x : Str) (h : S[n]? = some (.lst (ns.map D.str))) : inOf (.val (.str x)) (.val (.loc n)) S = some (decide (x ∈ ns)) := by
  show (match seqOf (.val (.loc n)) S with
    | some ys => _
    | none => _) = _
  rw [seq_loc h]
  show (match toVx (.val (.str x)), toVs (ns.map D.str) with
      | some v, some vs => some (inV v vs)
      | _, _ => _) = _
  rw [toVs_strs]
  exact congrArg some (inV_strs x ns)
theorem cnt_zero {n : Str} : ∀ {ns : List Str}, n ∉ ns → (ns.countP fun m => decide (m = n)) = 0
  | [], _ => rfl
  | m :: ns, h => by
    rw [List.countP_cons, cnt_zero fun z => h (List.mem_cons_of_mem _ z), decide_eq_false fun e : m = n => h (by rw [← e]; exact List.mem_cons_self)]
    rfl
theorem cnt_pos {n : Str} : ∀ {ns : List Str}, n ∈ ns → 1 ≤ ns.countP fun m => decide (m = n)
  | [], h => absurd h List.not_mem_nil
  | m :: ns, h => by
    rw [List.countP_cons]
    rcases List.mem_cons.mp h with rfl | h
    · rw [decide_eq_true rfl]
      exact Nat.le_add_left _ _
    · exact Nat.le_trans (cnt_pos h) (Nat.le_add_right _ _)
theorem nodup_cnt : ∀ ns : List Str, (∀ n ∈ ns, (ns.countP fun m => decide (m = n)) = 1) ↔ ns.Nodup
  | [] => ⟨fun _ => List.nodup_nil, fun _ n h => absurd h List.not_mem_nil⟩
  | a :: ns => by
    rw [List.nodup_cons, ← nodup_cnt ns]
    constructor
    · intro h
      have ha : a ∉ ns := fun hm => by
        have h1 := h a List.mem_cons_self
        rw [List.countP_cons, decide_eq_true rfl] at h1
        have h1 : (ns.countP fun m => decide (m = a)) + 1 = 1 := h1
        have := cnt_pos hm
        omega
      refine ⟨ha, fun n hn => ?_⟩
      have h1 := h n (List.mem_cons_of_mem _ hn)
      rw [List.countP_cons, decide_eq_false fun e : a = n => ha (by rw [e]; exact hn)] at h1
      exact h1
    · rintro ⟨ha, h⟩ n hn
      rw [List.countP_cons]
      rcases List.mem_cons.mp hn with rfl | hn
      · rw [cnt_zero ha, decide_eq_true rfl]
        rfl
      · rw [h n hn, decide_eq_false fun e : a = n => ha (by rw [e]; exact hn)]
        rfl
/-! ### slices, tuples put together -/
def TupO (o : D) (xs : List D) : Prop := o = .tuf xs ∨ o = .tup xs
theorem w_slO {xs : List D} {lo hi : Option Int} {S : Sto} {Q : Rv → Sto → Prop} (q : ∀ o, TupO o (cutD xs lo hi) → Q (.val o) S) : W (slV (.val (.tuf xs)) lo hi S) Q := by
  by_cases h : HT.sIx xs.length 0 lo = 0 ∧ HT.sIx xs.length xs.length hi = xs.length
  · refine ⟨.val (.tuf xs), S, ?_, q _ (.inl (by rw [cut_whole h]))⟩
    show Res.ok (Rv.val (if _ then _ else _)) S = _
    rw [if_pos h]
  · refine ⟨.val (.tup (cutD xs lo hi)), S, ?_, q _ (.inr rfl)⟩
    show Res.ok (Rv.val (if _ then _ else _)) S = _
    rw [if_neg h]
theorem w_catO {o1 o2 : D} {xs ys : List D} {S : Sto} {Q : Rv → Sto → Prop} (h1 : TupO o1 xs) (h2 : TupO o2 ys) (hz : xs.length + ys.length ≤ big) (q : ∀ o, TupO o (xs ++ ys) → Q (.val o) S) : W (addV (.val o1) (.val o2) S) Q := by
  have key : ∀ {a b : D}, TupO a xs → TupO b ys → ∃ o, (if xs.isEmpty = true then Rv.val b else if ys.isEmpty = true then Rv.val a else Rv.val (.tup (xs ++ ys))) = Rv.val o ∧ TupO o (xs ++ ys) := by
    intro a b ha hb
    cases xs with
    | nil => exact ⟨b, rfl, hb⟩
    | cons x xs =>
      cases ys with
      | nil => exact ⟨a, rfl, by rw [List.append_nil]; exact ha⟩
      | cons y ys => exact ⟨_, rfl, .inr rfl⟩
  obtain ⟨o, e, ho⟩ := key h1 h2
  rcases h1 with rfl | rfl <;> rcases h2 with rfl | rfl
  · refine ⟨.val o, S, ?_, q o ho⟩
    show (if _ then Res.ok (if _ then _ else _) S else _) = _
    rw [if_pos hz, e]
  · refine ⟨.val o, S, ?_, q o ho⟩
    show (if _ then Res.ok (if _ then _ else _) S else _) = _
    rw [if_pos hz, e]
  · refine ⟨.val o, S, ?_, q o ho⟩
    show (if _ then Res.ok (if _ then _ else _) S else _) = _
    rw [if_pos hz, e]
  · refine ⟨.val (.tup (xs ++ ys)), S, ?_, q _ (.inr rfl)⟩
    show (if _ then Res.ok _ S else _) = _
    rw [if_pos hz]
theorem tupO_pt {c n : Nat} {o : D} {xs : List D} (h : TupO o xs) (hl : xs.length ≤ c) (hx : ∀ x ∈ xs, Pt c n x) : Pt c (n + 1) o := by
  rcases h with rfl | rfl <;> exact ⟨hl, hx⟩
theorem pt_prT {c n : Nat} {p : Str × Int} (h : p.1.length ≤ 1000 ∧ sOk p.1) (hc : 2 ≤ c) : Pt c (n + 1) (encT p) := by
  refine ⟨hc, fun x hx => ?_⟩
  simp only [List.mem_cons, List.not_mem_nil, or_false] at hx
  rcases hx with rfl | rfl
  · cases n <;> exact h
  · cases n <;> exact trivial
theorem pt_ldT {c n : Nat} {l : Ld} (h : ∀ p ∈ l, p.1.length ≤ 1000 ∧ sOk p.1) (hl : l.length ≤ c) (hc : 2 ≤ c) : Pt c (n + 2) (.tuf (l.map encT)) := by
  refine ⟨by rw [List.length_map]; exact hl, fun x hx => ?_⟩
  obtain ⟨p, hp, rfl⟩ := List.mem_map.mp hx
  exact pt_prT (h p hp) hc
theorem pt_stT {c n : Nat} {s : Str × Ld} (h0 : s.1.length ≤ 1000 ∧ sOk s.1) (h : ∀ p ∈ s.2, p.1.length ≤ 1000 ∧ sOk p.1) (hl : s.2.length ≤ c) (hc : 2 ≤ c) : Pt c (n + 3) (encStep s) := by
  refine ⟨hc, fun x hx => ?_⟩
  simp only [List.mem_cons, List.not_mem_nil, or_false] at hx
  rcases hx with rfl | rfl
  · exact h0
  · exact pt_ldT h hl hc
theorem kinds_pt {k : Str} (h : k ∈ kindsX) : k.length ≤ 1000 ∧ sOk k := by
  have : ∀ k ∈ kindsX, k.length ≤ 1000 ∧ sOk k := by decide +kernel
  exact this k h
theorem names_pt {k : Str} (h : k ∈ namesW) : k.length ≤ 1000 ∧ sOk k := by
  have : ∀ k ∈ namesW, k.length ≤ 1000 ∧ sOk k := by decide +kernel
  exact this k h
theorem kindsW_X {k : Str} (h : k ∈ kindsW) : k ∈ kindsX := by
  have : ∀ k ∈ kindsW, k ∈ kindsX := by decide +kernel
  exact this k h
end Bz

set_option Elab.async false
set_option linter.all false
set_option maxRecDepth 100000
set_option maxHeartbeats 4000000
namespace Bz.K08
open PySem PySem.Spec PyProof.Rows L2
def topS (i : Nat) : Stmt := PySem.Challenge.pw_binround_k08_what_are_loads_and_lines.main.body.getD i (.Pass ⟨0, 0, 0, 0⟩)
abbrev gls : List (Str × Int) := [("MOST_KINDS", 6), ("MOST_STEPS", 5), ("MOST_GRAMS", 1000000000)]
abbrev f_is_from : FD := ⟨"is_from", topS 1, ["thing", "low", "high"], ["thing", "low", "high"], gls, [], true, false, []⟩
abbrev f_is_name : FD := ⟨"is_name", topS 2, ["thing", "sign"], ["thing"], gls, [], true, false, []⟩
abbrev f_rises : FD := ⟨"rises", topS 3, ["some", "one", "other"], ["some"], gls, [], true, false, []⟩
abbrev f_are_rows : FD := ⟨"are_rows", topS 4, ["thing", "most", "many", "row"], ["thing", "most", "many"], gls, [], true, false, []⟩
abbrev f_are_pairs : FD := ⟨"are_pairs", topS 5, ["thing", "most", "low", "high", "name", "part", "row"], ["thing", "most", "low", "high"], gls, [], true, false, []⟩
abbrev f_is_load : FD := ⟨"is_load", topS 10, ["thing"], ["thing"], gls, [], true, false, []⟩
abbrev f_is_line : FD := ⟨"is_line", topS 11, ["thing", "row", "names", "name"], ["thing"], gls, [], true, false, []⟩
abbrev f_law_bag : FD := ⟨"_law_bag", topS 13, ["script", "k", "cell", "seed"], ["script", "k"], gls, [], true, true, []⟩
abbrev f_law_take : FD := ⟨"_law_take", topS 14, ["bag", "count", "found"], ["bag", "count"], gls, ["bag"], true, false, []⟩
abbrev f_law_of : FD := ⟨"_law_of", topS 15, ["bag", "some"], ["bag", "some"], gls, ["bag"], true, false, []⟩
abbrev f_law_load : FD := ⟨"_law_load", topS 16, ["bag", "most", "found", "turn", "kind"], ["bag", "most"], gls, ["found", "bag"], true, false, []⟩
abbrev f_law_steps : FD := ⟨"_law_steps", topS 17, ["bag", "found", "name", "mille", "turn", "kind"], ["bag"], gls, ["mille", "found", "bag"], true, false, []⟩
abbrev f_law_from : FD := ⟨"_law_from", topS 20, ["thing", "low", "high"], ["thing", "low", "high"], gls, [], true, false, []⟩
abbrev f_law_is_name : FD := ⟨"_law_is_name", topS 21, ["thing", "sign"], ["thing"], gls, [], true, false, []⟩
abbrev f_law_are_pairs : FD := ⟨"_law_are_pairs", topS 22, ["thing", "most", "high", "pair", "names"], ["thing", "most", "high"], gls, [], true, false, []⟩
abbrev f_law_odd : FD := ⟨"_law_odd", topS 23, ["bag"], ["bag"], gls, ["bag"], true, false, []⟩
abbrev f_law_spoilt : FD := ⟨"_law_spoilt", topS 24, ["bag", "thing", "parts", "at", "way"], ["bag", "thing"], gls, ["parts", "bag"], true, false, []⟩
abbrev f_law_is_load : FD := ⟨"_law_is_load", topS 25, ["thing"], ["thing"], gls, [], true, false, []⟩
abbrev f_law_is_line : FD := ⟨"_law_is_line", topS 26, ["thing", "names", "step"], ["thing"], gls, ["names"], true, false, []⟩
abbrev f_law : FD := ⟨"law", topS 27, ["script", "k", "bag", "some", "steps", "many", "things", "at", "good", "bent", "thing", "told"], ["script"], gls, ["bag", "things"], true, false, []⟩
abbrev tab : List FD := [f_is_from, f_is_name, f_rises, f_are_rows, f_are_pairs, f_is_load, f_is_line, f_law_bag, f_law_take, f_law_of, f_law_load, f_law_steps, f_law_from, f_law_is_name, f_law_are_pairs, f_law_odd, f_law_spoilt, f_law_is_load, f_law_is_line, f_law]
theorem q_is_from (F : Str → FnM) : cBody (ccOf tab F f_is_from) (defScope f_is_from.st) (defBody f_is_from.st) = some (b_is_from F) := by kernel_rfl
theorem s_is_from (n : Nat) (ds : List D) (S : Sto) : semF tab (n + 1) "is_from" ds S = runL 3 3 (b_is_from (semF tab n)) ds S := sem_of (fd := f_is_from) (by kernel_rfl) (q_is_from _) ds S
theorem e_is_from (n : Nat) : semF tab (n + 1) "is_from" = runL 3 3 (b_is_from (semF tab n)) := funext fun ds => funext fun S => s_is_from n ds S
theorem q_is_name (F : Str → FnM) : cBody (ccOf tab F f_is_name) (defScope f_is_name.st) (defBody f_is_name.st) = some (b_is_name F) := by kernel_rfl
theorem s_is_name (n : Nat) (ds : List D) (S : Sto) : semF tab (n + 1) "is_name" ds S = runL 1 2 (b_is_name (semF tab n)) ds S := sem_of (fd := f_is_name) (by kernel_rfl) (q_is_name _) ds S
theorem e_is_name (n : Nat) : semF tab (n + 1) "is_name" = runL 1 2 (b_is_name (semF tab n)) := funext fun ds => funext fun S => s_is_name n ds S
theorem q_rises (F : Str → FnM) : cBody (ccOf tab F f_rises) (defScope f_rises.st) (defBody f_rises.st) = some (b_rises F) := by kernel_rfl
theorem s_rises (n : Nat) (ds : List D) (S : Sto) : semF tab (n + 1) "rises" ds S = runL 1 3 (b_rises (semF tab n)) ds S := sem_of (fd := f_rises) (by kernel_rfl) (q_rises _) ds S
theorem e_rises (n : Nat) : semF tab (n + 1) "rises" = runL 1 3 (b_rises (semF tab n)) := funext fun ds => funext fun S => s_rises n ds S
theorem q_are_rows (F : Str → FnM) : cBody (ccOf tab F f_are_rows) (defScope f_are_rows.st) (defBody f_are_rows.st) = some (b_are_rows F) := by kernel_rfl
theorem s_are_rows (n : Nat) (ds : List D) (S : Sto) : semF tab (n + 1) "are_rows" ds S = runL 3 4 (b_are_rows (semF tab n)) ds S := sem_of (fd := f_are_rows) (by kernel_rfl) (q_are_rows _) ds S
theorem e_are_rows (n : Nat) : semF tab (n + 1) "are_rows" = runL 3 4 (b_are_rows (semF tab n)) := funext fun ds => funext fun S => s_are_rows n ds S
theorem q_are_pairs (F : Str → FnM) : cBody (ccOf tab F f_are_pairs) (defScope f_are_pairs.st) (defBody f_are_pairs.st) = some (b_are_pairs F) := by kernel_rfl
theorem s_are_pairs (n : Nat) (ds : List D) (S : Sto) : semF tab (n + 1) "are_pairs" ds S = runL 4 7 (b_are_pairs (semF tab n)) ds S := sem_of (fd := f_are_pairs) (by kernel_rfl) (q_are_pairs _) ds S
theorem e_are_pairs (n : Nat) : semF tab (n + 1) "are_pairs" = runL 4 7 (b_are_pairs (semF tab n)) := funext fun ds => funext fun S => s_are_pairs n ds S
def b_is_load (F : Str → FnM) : StM :=
 (sSeq (sRet (eFzL (eCall (F "are_pairs") (aCons (eFz (eNm 0)) (aCons (eFz (eC (.int 6))) (aCons (eFz (eC (.int 1))) (aCons (eFz (eC (.int 1000000000))) aNil)))))))
 sNil)
theorem q_is_load (F : Str → FnM) : cBody (ccOf tab F f_is_load) (defScope f_is_load.st) (defBody f_is_load.st) = some (b_is_load F) := by kernel_rfl
theorem s_is_load (n : Nat) (ds : List D) (S : Sto) : semF tab (n + 1) "is_load" ds S = runL 1 1 (b_is_load (semF tab n)) ds S := sem_of (fd := f_is_load) (by kernel_rfl) (q_is_load _) ds S
theorem e_is_load (n : Nat) : semF tab (n + 1) "is_load" = runL 1 1 (b_is_load (semF tab n)) := funext fun ds => funext fun S => s_is_load n ds S
def b_is_line (F : Str → FnM) : StM :=
 (sSeq (sIf (tsOr (tsNot (tru (eCall (F "are_rows") (aCons (eFz (eNm 0)) (aCons (eFz (eC (.int 5))) (aCons (eFz (eC (.int 2))) aNil)))))) (tsNot (tru (eUn allV (eLc [1] (srB (eFz (eNm 0))) (gNm 1) tsYes (eFz (eAnd (eCall (F "is_name") (aCons (eFz (eBin ixV (eNm 1) (eC (.int 0)))) aNil)) (eBin neV' (eBin ixV (eNm 1) (eC (.int 0))) (eC (.str "rest"))))))))))
 (sSeq (sRet (eFzL (eC (.bl false))))
 sNil)
 sNil)
 (sSeq (sAsg (eFz (eLc [1] (srB (eFz (eNm 0))) (gNm 1) tsYes (eFz (eBin ixV (eNm 1) (eC (.int 0)))))) (gNm 2))
 (sSeq (sIf (tsNot (tru (eUn allV (eLc [3] (srB (eFz (eNm 2))) (gNm 3) tsYes (eFz (eBin eqV' (eM1 .list mCnt1 (eNm 2) (eNm 3)) (eC (.int 1))))))))
 (sSeq (sRet (eFzL (eC (.bl false))))
 sNil)
 sNil)
 (sSeq (sRet (eFzL (eUn allV (eLc [1] (srB (eFz (eNm 0))) (gNm 1) tsYes (eFz (eCall (F "are_pairs") (aCons (eFz (eBin ixV (eNm 1) (eC (.int 1)))) (aCons (eFz (eC (.int 6))) (aCons (eFz (eC (.int 1))) (aCons (eFz (eC (.int 1000))) aNil))))))))))
 sNil))))
theorem q_is_line (F : Str → FnM) : cBody (ccOf tab F f_is_line) (defScope f_is_line.st) (defBody f_is_line.st) = some (b_is_line F) := by kernel_rfl
theorem s_is_line (n : Nat) (ds : List D) (S : Sto) : semF tab (n + 1) "is_line" ds S = runL 1 4 (b_is_line (semF tab n)) ds S := sem_of (fd := f_is_line) (by kernel_rfl) (q_is_line _) ds S
theorem e_is_line (n : Nat) : semF tab (n + 1) "is_line" = runL 1 4 (b_is_line (semF tab n)) := funext fun ds => funext fun S => s_is_line n ds S
theorem q_law_bag (F : Str → FnM) : cBody (ccOf tab F f_law_bag) (defScope f_law_bag.st) (defBody f_law_bag.st) = some (b_law_bag F) := by kernel_rfl
theorem s_law_bag (n : Nat) (ds : List D) (S : Sto) : semF tab (n + 1) "_law_bag" ds S = runL 2 4 (b_law_bag (semF tab n)) ds S := sem_of (fd := f_law_bag) (by kernel_rfl) (q_law_bag _) ds S
theorem e_law_bag (n : Nat) : semF tab (n + 1) "_law_bag" = runL 2 4 (b_law_bag (semF tab n)) := funext fun ds => funext fun S => s_law_bag n ds S
theorem q_law_take (F : Str → FnM) : cBody (ccOf tab F f_law_take) (defScope f_law_take.st) (defBody f_law_take.st) = some (b_law_take F) := by kernel_rfl
theorem s_law_take (n : Nat) (ds : List D) (S : Sto) : semF tab (n + 1) "_law_take" ds S = runL 2 3 (b_law_take (semF tab n)) ds S := sem_of (fd := f_law_take) (by kernel_rfl) (q_law_take _) ds S
theorem e_law_take (n : Nat) : semF tab (n + 1) "_law_take" = runL 2 3 (b_law_take (semF tab n)) := funext fun ds => funext fun S => s_law_take n ds S
theorem q_law_of (F : Str → FnM) : cBody (ccOf tab F f_law_of) (defScope f_law_of.st) (defBody f_law_of.st) = some (b_law_of F) := by kernel_rfl
theorem s_law_of (n : Nat) (ds : List D) (S : Sto) : semF tab (n + 1) "_law_of" ds S = runL 2 2 (b_law_of (semF tab n)) ds S := sem_of (fd := f_law_of) (by kernel_rfl) (q_law_of _) ds S
theorem e_law_of (n : Nat) : semF tab (n + 1) "_law_of" = runL 2 2 (b_law_of (semF tab n)) := funext fun ds => funext fun S => s_law_of n ds S
theorem q_law_load (F : Str → FnM) : cBody (ccOf tab F f_law_load) (defScope f_law_load.st) (defBody f_law_load.st) = some (b_law_load F) := by kernel_rfl
theorem s_law_load (n : Nat) (ds : List D) (S : Sto) : semF tab (n + 1) "_law_load" ds S = runL 2 5 (b_law_load (semF tab n)) ds S := sem_of (fd := f_law_load) (by kernel_rfl) (q_law_load _) ds S
theorem e_law_load (n : Nat) : semF tab (n + 1) "_law_load" = runL 2 5 (b_law_load (semF tab n)) := funext fun ds => funext fun S => s_law_load n ds S
theorem q_law_steps (F : Str → FnM) : cBody (ccOf tab F f_law_steps) (defScope f_law_steps.st) (defBody f_law_steps.st) = some (b_law_steps F) := by kernel_rfl
theorem s_law_steps (n : Nat) (ds : List D) (S : Sto) : semF tab (n + 1) "_law_steps" ds S = runL 1 6 (b_law_steps (semF tab n)) ds S := sem_of (fd := f_law_steps) (by kernel_rfl) (q_law_steps _) ds S
theorem e_law_steps (n : Nat) : semF tab (n + 1) "_law_steps" = runL 1 6 (b_law_steps (semF tab n)) := funext fun ds => funext fun S => s_law_steps n ds S
theorem q_law_from (F : Str → FnM) : cBody (ccOf tab F f_law_from) (defScope f_law_from.st) (defBody f_law_from.st) = some (b_law_from F) := by kernel_rfl
theorem s_law_from (n : Nat) (ds : List D) (S : Sto) : semF tab (n + 1) "_law_from" ds S = runL 3 3 (b_law_from (semF tab n)) ds S := sem_of (fd := f_law_from) (by kernel_rfl) (q_law_from _) ds S
theorem e_law_from (n : Nat) : semF tab (n + 1) "_law_from" = runL 3 3 (b_law_from (semF tab n)) := funext fun ds => funext fun S => s_law_from n ds S
theorem q_law_is_name (F : Str → FnM) : cBody (ccOf tab F f_law_is_name) (defScope f_law_is_name.st) (defBody f_law_is_name.st) = some (b_law_is_name F) := by kernel_rfl
theorem s_law_is_name (n : Nat) (ds : List D) (S : Sto) : semF tab (n + 1) "_law_is_name" ds S = runL 1 2 (b_law_is_name (semF tab n)) ds S := sem_of (fd := f_law_is_name) (by kernel_rfl) (q_law_is_name _) ds S
theorem e_law_is_name (n : Nat) : semF tab (n + 1) "_law_is_name" = runL 1 2 (b_law_is_name (semF tab n)) := funext fun ds => funext fun S => s_law_is_name n ds S
theorem q_law_are_pairs (F : Str → FnM) : cBody (ccOf tab F f_law_are_pairs) (defScope f_law_are_pairs.st) (defBody f_law_are_pairs.st) = some (b_law_are_pairs F) := by kernel_rfl
theorem s_law_are_pairs (n : Nat) (ds : List D) (S : Sto) : semF tab (n + 1) "_law_are_pairs" ds S = runL 3 5 (b_law_are_pairs (semF tab n)) ds S := sem_of (fd := f_law_are_pairs) (by kernel_rfl) (q_law_are_pairs _) ds S
theorem e_law_are_pairs (n : Nat) : semF tab (n + 1) "_law_are_pairs" = runL 3 5 (b_law_are_pairs (semF tab n)) := funext fun ds => funext fun S => s_law_are_pairs n ds S
def b_law_odd (F : Str → FnM) : StM :=
 (sSeq (sRet (eFzL (eCall (F "_law_of") (aCons (eFz (eNm 0)) (aCons (eFz (eLst (aCons (eFzL (eC .non)) (aCons (eFzL (eC (.bl true))) (aCons (eFzL (eUn negV (eC (.int 1)))) (aCons (eFzL (eC (.int 0))) (aCons (eFzL (eC (.int 1001))) (aCons (eFzL (eBin powV (eC (.int 10)) (eC (.int 10)))) (aCons (eFzL (eC (.str ""))) (aCons (eFzL (eC (.str "x"))) (aCons (eFzL (eC (.str "A"))) (aCons (eFzL (eC (.str "abcdefghi"))) (aCons (eFzL (eTuf aNil)) (aCons (eFzL (eLst aNil)) (aCons (eFzL (eTuf (aCons (eFzL (eC (.str "ash"))) aNil))) (aCons (eFzL (eTuf (aCons (eFzL (eC (.str "ash"))) (aCons (eFzL (eC (.int 1))) aNil)))) aNil)))))))))))))))) aNil)))))
 sNil)
theorem q_law_odd (F : Str → FnM) : cBody (ccOf tab F f_law_odd) (defScope f_law_odd.st) (defBody f_law_odd.st) = some (b_law_odd F) := by kernel_rfl
theorem s_law_odd (n : Nat) (ds : List D) (S : Sto) : semF tab (n + 1) "_law_odd" ds S = runL 1 1 (b_law_odd (semF tab n)) ds S := sem_of (fd := f_law_odd) (by kernel_rfl) (q_law_odd _) ds S
theorem e_law_odd (n : Nat) : semF tab (n + 1) "_law_odd" = runL 1 1 (b_law_odd (semF tab n)) := funext fun ds => funext fun S => s_law_odd n ds S
def b_law_spoilt (F : Str → FnM) : StM :=
 (sSeq (sIf (tsOr (tsNot (tru (eUn (isiV2 .tuple .list) (eNm 1)))) (tsOr (asB (eBin eqV' (eUn lenV (eNm 1)) (eC (.int 0)))) (asB (eBin eqV' (eCall (F "_law_take") (aCons (eFz (eNm 0)) (aCons (eFz (eC (.int 6))) aNil))) (eC (.int 0))))))
 (sSeq (sIf (tsAnd (tru (eUn (isiV .int) (eNm 1))) (asB (eBin eqV' (eCall (F "_law_take") (aCons (eFz (eNm 0)) (aCons (eFz (eC (.int 2))) aNil))) (eC (.int 0)))))
 (sSeq (sRet (eFzL (eBin addV (eNm 1) (eCall (F "_law_of") (aCons (eFz (eNm 0)) (aCons (eFz (eLst (aCons (eFzL (eC (.int 1))) (aCons (eFzL (eUn negV (eC (.int 1)))) (aCons (eFzL (eC (.int 99))) (aCons (eFzL (eUn negV (eC (.int 1000)))) (aCons (eFzL (eBin powV (eC (.int 10)) (eC (.int 9)))) aNil))))))) aNil))))))
 sNil)
 sNil)
 (sSeq (sRet (eFzL (eCall (F "_law_odd") (aCons (eFz (eNm 0)) aNil))))
 sNil))
 sNil)
 (sSeq (sAsg (eUn listV (eNm 1)) (gNm 2))
 (sSeq (sPar2 3 4 (aCons (eFz (eCall (F "_law_take") (aCons (eFz (eNm 0)) (aCons (eFz (eUn lenV (eNm 2))) aNil)))) (aCons (eFz (eCall (F "_law_take") (aCons (eFz (eNm 0)) (aCons (eFz (eC (.int 10))) aNil)))) aNil)))
 (sSeq (sIf (asB (eBin eqV' (eNm 4) (eC (.int 0))))
 (sSeq (sExpr (eM1 .list mPop1 (eNm 2) (eNm 3)))
 sNil)
 (sSeq (sIf (asB (eBin eqV' (eNm 4) (eC (.int 1))))
 (sSeq (sExpr (eM2 .list mIns2 (eNm 2) (eNm 3) (eFzL (eBin ixV (eNm 2) (eNm 3)))))
 sNil)
 (sSeq (sIf (asB (eBin eqV' (eNm 4) (eC (.int 2))))
 (sSeq (sAsg (eUn revV (eNm 2)) (gNm 2))
 sNil)
 (sSeq (sIf (asB (eBin eqV' (eNm 4) (eC (.int 3))))
 (sSeq (sRet (eFzL (eIf (tru (eUn (isiV .tuple) (eNm 1))) (eUn listV (eNm 1)) (eUn tufV (eNm 1)))))
 sNil)
 (sSeq (sAsg (eFzL (eCall (F "_law_spoilt") (aCons (eFz (eNm 0)) (aCons (eFz (eBin ixV (eNm 2) (eNm 3))) aNil)))) (gSb setL (eNm 2) (eNm 3)))
 sNil))
 sNil))
 sNil))
 sNil))
 (sSeq (sRet (eFzL (eIf (tru (eUn (isiV .tuple) (eNm 1))) (eUn tufV (eNm 2)) (eNm 2))))
 sNil)))))
theorem q_law_spoilt (F : Str → FnM) : cBody (ccOf tab F f_law_spoilt) (defScope f_law_spoilt.st) (defBody f_law_spoilt.st) = some (b_law_spoilt F) := by kernel_rfl
theorem s_law_spoilt (n : Nat) (ds : List D) (S : Sto) : semF tab (n + 1) "_law_spoilt" ds S = runL 2 5 (b_law_spoilt (semF tab n)) ds S := sem_of (fd := f_law_spoilt) (by kernel_rfl) (q_law_spoilt _) ds S
theorem e_law_spoilt (n : Nat) : semF tab (n + 1) "_law_spoilt" = runL 2 5 (b_law_spoilt (semF tab n)) := funext fun ds => funext fun S => s_law_spoilt n ds S
def b_law_is_load (F : Str → FnM) : StM :=
 (sSeq (sRet (eFzL (eCall (F "_law_are_pairs") (aCons (eFz (eNm 0)) (aCons (eFz (eC (.int 6))) (aCons (eFz (eBin powV (eC (.int 10)) (eC (.int 9)))) aNil))))))
 sNil)
theorem q_law_is_load (F : Str → FnM) : cBody (ccOf tab F f_law_is_load) (defScope f_law_is_load.st) (defBody f_law_is_load.st) = some (b_law_is_load F) := by kernel_rfl
theorem s_law_is_load (n : Nat) (ds : List D) (S : Sto) : semF tab (n + 1) "_law_is_load" ds S = runL 1 1 (b_law_is_load (semF tab n)) ds S := sem_of (fd := f_law_is_load) (by kernel_rfl) (q_law_is_load _) ds S
theorem e_law_is_load (n : Nat) : semF tab (n + 1) "_law_is_load" = runL 1 1 (b_law_is_load (semF tab n)) := funext fun ds => funext fun S => s_law_is_load n ds S
def b_law_is_line (F : Str → FnM) : StM :=
 (sSeq (sIf (tsOr (tsNot (tru (eUn (isiV .tuple) (eNm 0)))) (asB (eBin gtV (eUn lenV (eNm 0)) (eC (.int 5)))))
 (sSeq (sRet (eFzL (eC (.bl false))))
 sNil)
 sNil)
 (sSeq (sAsg (eLst aNil) (gNm 1))
 (sSeq (sFor (srB (eFz (eNm 0))) (gNm 2)
 (sSeq (sIf (tsOr (tsNot (tru (eUn (isiV .tuple) (eNm 2)))) (tsOr (asB (eBin neV' (eUn lenV (eNm 2)) (eC (.int 2)))) (tsNot (tru (eCall (F "_law_is_name") (aCons (eFz (eBin ixV (eNm 2) (eC (.int 0)))) aNil))))))
 (sSeq (sRet (eFzL (eC (.bl false))))
 sNil)
 sNil)
 (sSeq (sIf (tsOr (asB (eBin eqV' (eBin ixV (eNm 2) (eC (.int 0))) (eC (.str "rest")))) (tsOr (asB (eBin inV' (eBin ixV (eNm 2) (eC (.int 0))) (eNm 1))) (tsNot (tru (eCall (F "_law_are_pairs") (aCons (eFz (eBin ixV (eNm 2) (eC (.int 1)))) (aCons (eFz (eC (.int 6))) (aCons (eFz (eC (.int 1000))) aNil))))))))
 (sSeq (sRet (eFzL (eC (.bl false))))
 sNil)
 sNil)
 (sSeq (sExpr (eM1 .list mApp1 (eNm 1) (eFzL (eBin ixV (eNm 2) (eC (.int 0))))))
 sNil))))
 (sSeq (sRet (eFzL (eC (.bl true))))
 sNil))))
theorem q_law_is_line (F : Str → FnM) : cBody (ccOf tab F f_law_is_line) (defScope f_law_is_line.st) (defBody f_law_is_line.st) = some (b_law_is_line F) := by kernel_rfl
theorem s_law_is_line (n : Nat) (ds : List D) (S : Sto) : semF tab (n + 1) "_law_is_line" ds S = runL 1 3 (b_law_is_line (semF tab n)) ds S := sem_of (fd := f_law_is_line) (by kernel_rfl) (q_law_is_line _) ds S
theorem e_law_is_line (n : Nat) : semF tab (n + 1) "_law_is_line" = runL 1 3 (b_law_is_line (semF tab n)) := funext fun ds => funext fun S => s_law_is_line n ds S
def b_law (F : Str → FnM) : StM :=
 (sSeq (sFor (srR1 (eBin addV (eBin minV (eUn lenV (eNm 0)) (eC (.int 6))) (eC (.int 2)))) (gNm 1)
 (sSeq (sAsg (eCall (F "_law_bag") (aCons (eFz (eNm 0)) (aCons (eFz (eNm 1)) aNil))) (gNm 2))
 (sSeq (sPar2 3 4 (aCons (eFz (eCall (F "_law_load") (aCons (eFz (eNm 2)) (aCons (eFz (eC (.int 6))) aNil)))) (aCons (eFz (eCall (F "_law_steps") (aCons (eFz (eNm 2)) aNil))) aNil)))
 (sSeq (sAsg (eFz (eBin addV (eC (.int 6)) (eCall (F "_law_take") (aCons (eFz (eNm 2)) (aCons (eFz (eC (.int 2))) aNil))))) (gNm 5))
 (sSeq (sAsg (eLst (aCons (eFzL (eNm 3)) (aCons (eFzL (eNm 4)) (aCons (eFzL (eTuf aNil)) (aCons (eFzL (eLst aNil)) (aCons (eFzL (eC .non)) (aCons (eFzL (eUn revV (eNm 3))) (aCons (eFzL (eUn revV (eNm 4))) (aCons (eFzL (eUn listV (eNm 3))) (aCons (eFzL (eUn listV (eNm 4))) (aCons (eFzL (eCall (F "_law_odd") (aCons (eFz (eNm 2)) aNil))) aNil))))))))))) (gNm 6))
 (sSeq (sExpr (eM1 .list mApp1 (eNm 6) (eFzL (eUn tufV (eLc [7] (srR1 (eNm 5)) (gNm 7) tsYes (eFz (eTuf (aCons (eFzL (eBin addV (eC (.str "kind")) (eBin ixV (eC (.str "abcdefgh")) (eNm 7)))) (aCons (eFzL (eBin subV (eBin addV (eBin powV (eC (.int 10)) (eC (.int 9))) (eNm 5)) (eC (.int 6)))) aNil)))))))))
 (sSeq (sExpr (eM1 .list mApp1 (eNm 6) (eFzL (eUn tufV (eLc [7] (srR1 (eNm 5)) (gNm 7) tsYes (eFz (eTuf (aCons (eFzL (eBin addV (eC (.str "kind")) (eBin ixV (eC (.str "abcdefgh")) (eNm 7)))) (aCons (eFzL (eC (.int 1000))) aNil)))))))))
 (sSeq (sExpr (eM1 .list mApp1 (eNm 6) (eFzL (eUn tufV (eLc [7] (srR1 (eBin subV (eNm 5) (eC (.int 1)))) (gNm 7) tsYes (eFz (eTuf (aCons (eFzL (eBin addV (eC (.str "step")) (eBin ixV (eC (.str "abcdefgh")) (eNm 7)))) (aCons (eFzL (eTuf aNil)) aNil)))))))))
 (sSeq (sAsg (eBin addV (eNm 6) (eLst (aCons (eFzL (eBin addV (eNm 4) (eSl (eNm 4) ptNo (ptI (eC (.int 1)))))) (aCons (eFzL (eTuf (aCons (eFzL (eTuf (aCons (eFzL (eC (.str "rest"))) (aCons (eFzL (eTuf aNil)) aNil)))) aNil))) (aCons (eFzL (eTuf (aCons (eFzL (eTuf (aCons (eFzL (eC (.str "a"))) (aCons (eFzL (eTuf (aCons (eFzL (eTuf (aCons (eFzL (eC (.str "b"))) (aCons (eFzL (eC (.int 1000))) aNil)))) aNil))) aNil)))) aNil))) (aCons (eFzL (eTuf (aCons (eFzL (eTuf (aCons (eFzL (eC (.str "a"))) (aCons (eFzL (eTuf (aCons (eFzL (eTuf (aCons (eFzL (eC (.str "b"))) (aCons (eFzL (eC (.int 1001))) aNil)))) aNil))) aNil)))) aNil))) aNil)))))) (gNm 6))
 (sSeq (sFor (srB (eFz (eLst (aCons (eFzL (eNm 3)) (aCons (eFzL (eNm 4)) aNil))))) (gNm 8)
 (sSeq (sAsg (eFz (eCall (F "_law_spoilt") (aCons (eFz (eNm 2)) (aCons (eFz (eNm 8)) aNil)))) (gNm 9))
 (sSeq (sAsg (eBin addV (eNm 6) (eLst (aCons (eFzL (eNm 9)) (aCons (eFzL (eCall (F "_law_spoilt") (aCons (eFz (eNm 2)) (aCons (eFz (eNm 9)) aNil)))) aNil)))) (gNm 6))
 sNil)))
 (sSeq (sFor (srB (eFz (eNm 6))) (gNm 10)
 (sSeq (sAsg (eFz (eLst (aCons (eFzL (eCall (F "is_load") (aCons (eFz (eNm 10)) aNil))) (aCons (eFzL (eCall (F "is_line") (aCons (eFz (eNm 10)) aNil))) aNil)))) (gNm 11))
 (sSeq (sIf (asB (eBin neV' (eNm 11) (eLst (aCons (eFzL (eCall (F "_law_is_load") (aCons (eFz (eNm 10)) aNil))) (aCons (eFzL (eCall (F "_law_is_line") (aCons (eFz (eNm 10)) aNil))) aNil)))))
 (sSeq (sRet (eFzL (eC (.bl false))))
 sNil)
 sNil)
 (sSeq (sIf (tsOr (tsNot (tru (eUn (isiV .bool) (eBin ixV (eNm 11) (eC (.int 0)))))) (tsNot (tru (eUn (isiV .bool) (eBin ixV (eNm 11) (eC (.int 1)))))))
 (sSeq (sRet (eFzL (eC (.bl false))))
 sNil)
 sNil)
 sNil))))
 sNil)))))))))))
 (sSeq (sRet (eFzL (eC (.bl true))))
 sNil))
theorem q_law (F : Str → FnM) : cBody (ccOf tab F f_law) (defScope f_law.st) (defBody f_law.st) = some (b_law F) := by kernel_rfl
theorem s_law (n : Nat) (ds : List D) (S : Sto) : semF tab (n + 1) "law" ds S = runL 1 12 (b_law (semF tab n)) ds S := sem_of (fd := f_law) (by kernel_rfl) (q_law _) ds S
theorem e_law (n : Nat) : semF tab (n + 1) "law" = runL 1 12 (b_law (semF tab n)) := funext fun ds => funext fun S => s_law n ds S
end Bz.K08

set_option Elab.async false
set_option linter.all false
set_option maxRecDepth 100000
set_option maxHeartbeats 4000000
set_option pp.maxSteps 1500
namespace Bz.K08
open PySem PySem.Spec PyProof.Rows L2
local macro_rules | `(tactic| walk_at "w") => `(tactic| repeat (first
  | with_reducible refine w_sSeq ?_ | with_reducible refine w_sIf ?_ | with_reducible refine w_sAsg ?_ | with_reducible refine w_sRet ?_ | with_reducible refine w_sNil ?_ | with_reducible refine w_sExpr ?_
  | with_reducible refine w_sFor ?_ | with_reducible refine w_asB ?_ | with_reducible refine w_tru ?_ | with_reducible refine w_tsAnd ?_ | with_reducible refine w_tsOr ?_ | with_reducible refine w_tsNot ?_
  | with_reducible refine w_tsYes ?_ | with_reducible refine w_and ?_ | with_reducible refine w_or ?_ | with_reducible refine w_not ?_ | with_reducible refine w_eIf ?_ | with_reducible refine w_bin ?_
  | with_reducible refine w_un ?_ | with_reducible refine w_chain ?_ | with_reducible refine w_nm rfl ?_ | with_reducible refine w_c ?_ | with_reducible refine w_stlV ?_ | with_reducible refine w_stlN ?_
  | with_reducible refine w_stlK ?_ | with_reducible refine w_stlT ?_ | with_reducible refine w_aNil ?_ | with_reducible refine w_aCons ?_ | with_reducible refine w_fz ?_ | with_reducible refine fz_v ?_
  | with_reducible refine fz_n ?_ | with_reducible refine fz_k ?_ | with_reducible refine fz_t ?_ | with_reducible refine w_fzL ?_ | with_reducible refine fl_d rfl ?_ | with_reducible refine fl_n ?_
  | with_reducible refine fl_k ?_ | with_reducible refine fl_t ?_ | with_reducible refine w_eTup ?_ | with_reducible refine w_eTuf ?_ | with_reducible refine w_eLst ?_ | with_reducible refine w_dnK ?_
  | with_reducible refine w_dnT ?_ | with_reducible refine w_call ?_ | with_reducible refine w_eSl ?_ | with_reducible refine w_ptNo ?_ | with_reducible refine w_ptI ?_ | with_reducible refine w_m1 ?_
  | with_reducible refine w_m2 ?_ | with_reducible refine w_get1 ?_ | with_reducible refine w_get2 ?_ | with_reducible refine w_eLc ?_ | with_reducible refine w_eDc ?_ | with_reducible refine dl_q (Nat.le_of_ble_eq_true rfl) ?_
  | with_reducible refine int_q ?_ | with_reducible refine as_q ?_ | with_reducible refine ty_q (ty_loc (by assumption)) ?_ | with_reducible refine sq_nx ?_ | with_reducible refine sq_rt ?_ | with_reducible refine sq_bk ?_
  | with_reducible refine sq_ct ?_ | with_reducible refine fq_rt ?_ | with_reducible refine fq_nx ?_ | with_reducible refine tq_nx ?_ | with_reducible refine tq_ct ?_ | with_reducible refine tq_bk ?_
  | with_reducible refine tq_rt ?_ | with_reducible refine w_srBB ?_ | with_reducible refine bq_tup ?_ | with_reducible refine bq_tuf ?_ | with_reducible refine bq_rol ?_ | with_reducible refine bq_str ?_
  | with_reducible refine bq_rod ?_ | with_reducible refine bq_loc (by assumption) ?_ | with_reducible refine w_srR1 ?_ | with_reducible refine w_srR2 ?_ | with_reducible refine w_srZB ?_ | with_reducible refine w_srItems ?_
  | with_reducible refine w_srVals ?_ | with_reducible refine w_srEn ?_ | with_reducible refine w_addI ?_ | with_reducible refine w_subI ?_ | with_reducible refine w_mulI (by omega) ?_ | with_reducible refine w_divI (by omega) (by omega) ?_
  | with_reducible refine w_modI (by first | omega | decide +kernel) ?_ | with_reducible refine w_powI rfl ?_ | with_reducible refine w_neg ?_ | with_reducible refine w_iaddI ?_ | with_reducible refine w_max ?_ | with_reducible refine w_min ?_
  | with_reducible refine w_abs ?_ | with_reducible refine w_gtI ?_ | with_reducible refine w_ltI ?_ | with_reducible refine w_leI ?_ | with_reducible refine w_geI ?_ | with_reducible refine w_eqI ?_
  | with_reducible refine w_neI ?_ | with_reducible refine w_eqS ?_ | with_reducible refine w_neS ?_ | with_reducible refine w_ixT rfl ?_ | with_reducible refine w_ixR rfl ?_ | with_reducible refine w_ixF rfl ?_
  | with_reducible refine w_ixL (by assumption) rfl ?_ | with_reducible refine w_len (seq_loc (by assumption)) ?_ | with_reducible refine w_len rfl ?_ | with_reducible refine w_gNm (Nat.le_of_ble_eq_true rfl) ?_ | with_reducible refine w_gSb ?_ | with_reducible refine w_gTp rfl ?_
  | with_reducible refine w_gTf rfl ?_ | with_reducible refine w_gsCons ?_ | with_reducible refine w_gsNil ?_ | with_reducible refine w_sPar2 ?_ | with_reducible refine w_sPar3 ?_ | with_reducible refine w_sAug rfl ?_
  | with_reducible refine w_sAugD ?_ | with_reducible refine br_n ?_ | with_reducible refine br_t ?_ | with_reducible refine br_f ?_))
/-! ### lines -/
def restS : Str := "rest"
def stepOk (x : D) : Bool := match tupD x with
  | some [a, b] => isName a && !decide (nmOf x = restS) && pairsF 6 1 1000 b
  | _ => false
def stepNm (x : D) : Bool := match tupD x with
  | some [a, _] => isName a && !decide (nmOf x = restS)
  | _ => false
def lineF (d : D) : Bool := match tupD d with
  | some xs => decide ((xs.length : Int) ≤ 5) && xs.all stepOk && decide (xs.map nmOf).Nodup
  | none => false
theorem stepOk_row {x : D} (h : stepOk x = true) : rowN 2 x = true := by
  unfold stepOk at h
  split at h
  · rename_i a b e
    unfold rowN
    rw [e]
    rfl
  · cases h
theorem name_str {a : D} (h : isName a = true) : ∃ z, a = .str z ∧ isNm z = true := by
  cases a with
  | str z => exact ⟨z, rfl, h⟩
  | _ => cases h
abbrev LineS (g : FnM) : Prop := ∀ (d : D) (c n : Nat) (S : Sto), Pt c n d → c < 100000 → g [d] S = .ok (.bl (lineF d)) S
theorem line_S {F : Str → FnM} (RW : RowsS (F "are_rows")) (NM : NameS (F "is_name")) (PA : PairsS (F "are_pairs")) : LineS (runL 1 4 (b_is_line F)) := by
  intro d c n S hp hc
  refine of_W (w_runL rfl ?_)
  unfold b_is_line
  walk_at "w"
  refine w_pure (RW d 5 2 c n S hp hc) ?_
  refine tr_q rfl ?_
  by_cases hr : rowsF 5 2 d = true
  · rw [hr]
    refine br_f ?_
    unfold rowsF at hr
    cases e : tupD d with
    | none => rw [e] at hr; cases hr
    | some xs =>
      rw [e] at hr
      have hr : (decide ((xs.length : Int) ≤ 5) && xs.all (rowN 2)) = true := hr
      rw [Bool.and_eq_true] at hr
      obtain ⟨hm, hall⟩ := hr
      obtain ⟨hl, hx⟩ := pt_tup hp e
      have hF : lineF d = (xs.all stepOk && decide (xs.map nmOf).Nodup) := by unfold lineF; rw [e]; show (_ && _ && _) = _; rw [hm, Bool.true_and]
      rw [hF]
      have hlb : xs.length < big := by unfold big; omega
      have body : W (lcGo [] (gNm 1) tsYes (eFz (eAnd (eCall (F "is_name") (aCons (eFz (eBin ixV (eNm 1) (eC (.int 0)))) aNil)) (eBin neV' (eBin ixV (eNm 1) (eC (.int 0))) (eC (.str "rest"))))) (wipeE [some d, none, none, none] [1]) xs S) fun ds S2 => ds = xs.map (fun x => D.bl (stepNm x)) ∧ S2 = S := by
        refine w_lcMapI (fun x => .bl (stepNm x)) rfl (fun x hxm => ?_) ⟨rfl, rfl⟩
        obtain ⟨a, b, e3⟩ := rowN_two (List.all_eq_true.mp hall x hxm)
        obtain ⟨pa, pb⟩ := pt_pair (hx x hxm) e3
        have e4 : stepNm x = (isName a && !decide (nmOf x = restS)) := by unfold stepNm; rw [e3]
        rw [e4]
        walk_at "w"
        refine tup_at e3 ?_
        walk_at "w"
        refine w_pure (NM a _ _ _ pa) ?_
        refine tx_q rfl ?_
        by_cases hn : isName a = true
        · obtain ⟨z, rfl, hz⟩ := name_str hn
          have e5 : nmOf x = z := by unfold nmOf; rw [e3]
          rw [hn, e5]
          refine br_t ?_
          walk_at "w"
          refine tup_at e3 ?_
          walk_at "w"
          exact ⟨rfl, rfl⟩
        · rw [Bool.not_eq_true] at hn
          rw [hn]
          refine br_f ?_
          walk_at "w"
          exact ⟨rfl, rfl⟩
      by_cases hsn : xs.all stepNm = true
      · have hnm : ∀ x ∈ xs, ∃ z b, tupD x = some [.str z, b] ∧ nmOf x = z ∧ isNm z = true ∧ Pt c (n - 1 - 1) b ∧ stepOk x = pairsF 6 1 1000 b := fun x hxm => by
          have h1 := List.all_eq_true.mp hsn x hxm
          unfold stepNm at h1
          split at h1
          · rename_i a b e3
            rw [Bool.and_eq_true] at h1
            obtain ⟨z, rfl, hz⟩ := name_str h1.1
            refine ⟨z, b, e3, by unfold nmOf; rw [e3], hz, (pt_pair (hx x hxm) e3).2, ?_⟩
            unfold stepOk
            rw [e3]
            show (isName (.str z) && _ && _) = _
            rw [show isName (.str z) = true from hz, h1.2]
            rfl
          · cases h1
        have em : xs.map (fun x => D.str (nmOf x)) = (xs.map nmOf).map D.str := by rw [List.map_map]; rfl
        have names : ∀ e1 : Option D, W (lcGo [] (gNm 1) tsYes (eFz (eBin ixV (eNm 1) (eC (.int 0)))) (wipeE [some d, e1, none, none] [1]) xs S) fun ds S2 => ds = (xs.map nmOf).map D.str ∧ S2 = S := fun e1 => by
          rw [← em]
          refine w_lcMapI (fun x => .str (nmOf x)) rfl (fun x hxm => ?_) ⟨rfl, rfl⟩
          obtain ⟨z, b, e3, e4, _⟩ := hnm x hxm
          rw [e4]
          walk_at "w"
          refine tup_at e3 ?_
          walk_at "w"
          exact ⟨rfl, rfl⟩
        have last : ∀ e1 e2 e3 : Option D, W (lcGo [] (gNm 1) tsYes (eFz (eCall (F "are_pairs") (aCons (eFz (eBin ixV (eNm 1) (eC (.int 1)))) (aCons (eFz (eC (.int 6))) (aCons (eFz (eC (.int 1))) (aCons (eFz (eC (.int 1000))) aNil)))))) (wipeE [some d, e1, e2, e3] [1]) xs S) fun ds S2 => ds = xs.map (fun x => D.bl (stepOk x)) ∧ S2 = S := fun e1 e2 e3 => by
          refine w_lcMapI (fun x => .bl (stepOk x)) rfl (fun x hxm => ?_) ⟨rfl, rfl⟩
          obtain ⟨z, b, e4, _, _, pb, e5⟩ := hnm x hxm
          rw [e5]
          walk_at "w"
          refine tup_at1 e4 ?_
          walk_at "w"
          refine w_pure (PA b 6 1 1000 _ _ _ pb hc) ?_
          walk_at "w"
          exact ⟨rfl, rfl⟩
        have hcn : ((xs.map nmOf).all fun n => decide (((xs.map nmOf).countP fun m => decide (m = n) : Nat) = (1 : Int))) = decide (xs.map nmOf).Nodup := by
          rw [Bool.eq_iff_iff, List.all_eq_true, decide_eq_true_eq, ← nodup_cnt]
          constructor
          · intro h n hn
            have := of_decide_eq_true (h n hn)
            omega
          · intro h n hn
            exact decide_eq_true (by rw [h n hn]; rfl)
        rcases tupD_eq e with rfl | rfl
        all_goals
          walk_at "w"
          refine ⟨hlb, body.imp ?_⟩
          rintro ds S2 ⟨rfl, rfl⟩
          refine w_all (blsOf_map stepNm _) ?_
          refine tr_q rfl ?_
          rw [all_map, hsn]
          refine br_f ?_
          walk_at "w"
          refine ⟨hlb, (names _).imp ?_⟩
          rintro ds S2 ⟨rfl, rfl⟩
          walk_at "w"
          refine ⟨by rw [List.length_map, List.length_map]; exact hlb, w_lcMap1 (fun z : Str => .bl (decide (((xs.map nmOf).countP fun m => decide (m = z) : Nat) = (1 : Int)))) rfl (fun z hz => ?_) ?_⟩
          · walk_at "w"
            refine ty_q rfl ?_
            walk_at "w"
            refine w_cnt rfl (strsOf_map _) ?_
            walk_at "w"
            exact ⟨rfl, rfl⟩
          refine w_all (blsOf_map (fun z : Str => decide (((xs.map nmOf).countP fun m => decide (m = z) : Nat) = (1 : Int))) _) ?_
          refine tr_q rfl ?_
          rw [all_map, hcn]
          by_cases hd : (xs.map nmOf).Nodup
          · rw [decide_eq_true hd]
            refine br_f ?_
            walk_at "w"
            refine ⟨hlb, (last _ _ _).imp ?_⟩
            rintro ds S2 ⟨rfl, rfl⟩
            refine w_all (blsOf_map stepOk _) ?_
            walk_at "w"
            refine tr_same rfl ⟨?_, rfl⟩
            rw [all_map, Bool.and_true]
          · rw [decide_eq_false hd]
            refine br_t ?_
            walk_at "w"
            refine tr_same rfl ⟨?_, rfl⟩
            rw [Bool.and_false]
      · rw [Bool.not_eq_true] at hsn
        have hno : xs.all stepOk = false := by
          rw [List.all_eq_false] at hsn ⊢
          obtain ⟨x, hx, h2⟩ := hsn
          refine ⟨x, hx, fun h => h2 ?_⟩
          unfold stepOk at h
          split at h
          · rename_i a b e3
            rw [Bool.and_eq_true] at h
            unfold stepNm
            rw [e3]
            exact h.1
          · cases h
        rcases tupD_eq e with rfl | rfl
        all_goals
          walk_at "w"
          refine ⟨hlb, body.imp ?_⟩
          rintro ds S2 ⟨rfl, rfl⟩
          refine w_all (blsOf_map stepNm _) ?_
          refine tr_q rfl ?_
          rw [all_map, hsn]
          refine br_t ?_
          walk_at "w"
          refine tr_same rfl ⟨?_, rfl⟩
          rw [hno, Bool.false_and]
  · rw [Bool.not_eq_true] at hr
    rw [hr]
    refine br_t ?_
    walk_at "w"
    refine tr_same rfl ⟨?_, rfl⟩
    unfold rowsF at hr
    unfold lineF
    cases e : tupD d with
    | none => rfl
    | some xs =>
      rw [e] at hr
      have hr : (decide ((xs.length : Int) ≤ 5) && xs.all (rowN 2)) = false := hr
      show D.bl false = D.bl (_ && _ && _)
      by_cases h1 : (xs.length : Int) ≤ 5
      · rw [decide_eq_true h1, Bool.true_and] at hr
        have : xs.all stepOk = false := by
          rw [List.all_eq_false] at hr ⊢
          obtain ⟨x, hx, h2⟩ := hr
          exact ⟨x, hx, fun h => h2 (stepOk_row h)⟩
        rw [this, Bool.and_false, Bool.false_and]
      · rw [decide_eq_false h1, Bool.false_and, Bool.false_and]
end Bz.K08

set_option Elab.async false
set_option linter.all false
set_option maxRecDepth 100000
set_option maxHeartbeats 4000000
set_option pp.maxSteps 1500
namespace Bz.K08
open PySem PySem.Spec PyProof.Rows L2
local macro_rules | `(tactic| walk_at "w") => `(tactic| repeat (first
  | with_reducible refine w_sSeq ?_ | with_reducible refine w_sIf ?_ | with_reducible refine w_sAsg ?_ | with_reducible refine w_sRet ?_ | with_reducible refine w_sNil ?_ | with_reducible refine w_sExpr ?_
  | with_reducible refine w_sFor ?_ | with_reducible refine w_asB ?_ | with_reducible refine w_tru ?_ | with_reducible refine w_tsAnd ?_ | with_reducible refine w_tsOr ?_ | with_reducible refine w_tsNot ?_
  | with_reducible refine w_tsYes ?_ | with_reducible refine w_and ?_ | with_reducible refine w_or ?_ | with_reducible refine w_not ?_ | with_reducible refine w_eIf ?_ | with_reducible refine w_bin ?_
  | with_reducible refine w_un ?_ | with_reducible refine w_chain ?_ | with_reducible refine w_nm rfl ?_ | with_reducible refine w_c ?_ | with_reducible refine w_stlV ?_ | with_reducible refine w_stlN ?_
  | with_reducible refine w_stlK ?_ | with_reducible refine w_stlT ?_ | with_reducible refine w_aNil ?_ | with_reducible refine w_aCons ?_ | with_reducible refine w_fz ?_ | with_reducible refine fz_v ?_
  | with_reducible refine fz_n ?_ | with_reducible refine fz_k ?_ | with_reducible refine fz_t ?_ | with_reducible refine w_fzL ?_ | with_reducible refine fl_d rfl ?_ | with_reducible refine fl_n ?_
  | with_reducible refine fl_k ?_ | with_reducible refine fl_t ?_ | with_reducible refine w_eTup ?_ | with_reducible refine w_eTuf ?_ | with_reducible refine w_eLst ?_ | with_reducible refine w_dnK ?_
  | with_reducible refine w_dnT ?_ | with_reducible refine w_call ?_ | with_reducible refine w_eSl ?_ | with_reducible refine w_ptNo ?_ | with_reducible refine w_ptI ?_ | with_reducible refine w_m1 ?_
  | with_reducible refine w_m2 ?_ | with_reducible refine w_get1 ?_ | with_reducible refine w_get2 ?_ | with_reducible refine w_eLc ?_ | with_reducible refine w_eDc ?_ | with_reducible refine dl_q (Nat.le_of_ble_eq_true rfl) ?_
  | with_reducible refine int_q ?_ | with_reducible refine as_q ?_ | with_reducible refine ty_q (ty_loc (by assumption)) ?_ | with_reducible refine sq_nx ?_ | with_reducible refine sq_rt ?_ | with_reducible refine sq_bk ?_
  | with_reducible refine sq_ct ?_ | with_reducible refine fq_rt ?_ | with_reducible refine fq_nx ?_ | with_reducible refine tq_nx ?_ | with_reducible refine tq_ct ?_ | with_reducible refine tq_bk ?_
  | with_reducible refine tq_rt ?_ | with_reducible refine w_srBB ?_ | with_reducible refine bq_tup ?_ | with_reducible refine bq_tuf ?_ | with_reducible refine bq_rol ?_ | with_reducible refine bq_str ?_
  | with_reducible refine bq_rod ?_ | with_reducible refine bq_loc (by assumption) ?_ | with_reducible refine w_srR1 ?_ | with_reducible refine w_srR2 ?_ | with_reducible refine w_srZB ?_ | with_reducible refine w_srItems ?_
  | with_reducible refine w_srVals ?_ | with_reducible refine w_srEn ?_ | with_reducible refine w_addI ?_ | with_reducible refine w_subI ?_ | with_reducible refine w_mulI (by omega) ?_ | with_reducible refine w_divI (by omega) (by omega) ?_
  | with_reducible refine w_modI (by first | omega | decide +kernel) ?_ | with_reducible refine w_powI rfl ?_ | with_reducible refine w_neg ?_ | with_reducible refine w_iaddI ?_ | with_reducible refine w_max ?_ | with_reducible refine w_min ?_
  | with_reducible refine w_abs ?_ | with_reducible refine w_gtI ?_ | with_reducible refine w_ltI ?_ | with_reducible refine w_leI ?_ | with_reducible refine w_geI ?_ | with_reducible refine w_eqI ?_
  | with_reducible refine w_neI ?_ | with_reducible refine w_eqS ?_ | with_reducible refine w_neS ?_ | with_reducible refine w_ixT rfl ?_ | with_reducible refine w_ixR rfl ?_ | with_reducible refine w_ixF rfl ?_
  | with_reducible refine w_ixL (by assumption) rfl ?_ | with_reducible refine w_len (seq_loc (by assumption)) ?_ | with_reducible refine w_len rfl ?_ | with_reducible refine w_gNm (Nat.le_of_ble_eq_true rfl) ?_ | with_reducible refine w_gSb ?_ | with_reducible refine w_gTp rfl ?_
  | with_reducible refine w_gTf rfl ?_ | with_reducible refine w_gsCons ?_ | with_reducible refine w_gsNil ?_ | with_reducible refine w_sPar2 ?_ | with_reducible refine w_sPar3 ?_ | with_reducible refine w_sAug rfl ?_
  | with_reducible refine w_sAugD ?_ | with_reducible refine br_n ?_ | with_reducible refine br_t ?_ | with_reducible refine br_f ?_))
def lineBody (F : Str → FnM) : StM :=
 (sSeq (sIf (tsOr (tsNot (tru (eUn (isiV .tuple) (eNm 2)))) (tsOr (asB (eBin neV' (eUn lenV (eNm 2)) (eC (.int 2)))) (tsNot (tru (eCall (F "_law_is_name") (aCons (eFz (eBin ixV (eNm 2) (eC (.int 0)))) aNil))))))
 (sSeq (sRet (eFzL (eC (.bl false))))
 sNil)
 sNil)
 (sSeq (sIf (tsOr (asB (eBin eqV' (eBin ixV (eNm 2) (eC (.int 0))) (eC (.str "rest")))) (tsOr (asB (eBin inV' (eBin ixV (eNm 2) (eC (.int 0))) (eNm 1))) (tsNot (tru (eCall (F "_law_are_pairs") (aCons (eFz (eBin ixV (eNm 2) (eC (.int 1)))) (aCons (eFz (eC (.int 6))) (aCons (eFz (eC (.int 1000))) aNil))))))))
 (sSeq (sRet (eFzL (eC (.bl false))))
 sNil)
 sNil)
 (sSeq (sExpr (eM1 .list mApp1 (eNm 1) (eFzL (eBin ixV (eNm 2) (eC (.int 0))))))
 sNil)))
theorem lawLine_S {F : Str → FnM} (NM : NameS (F "_law_is_name")) (PA : LPairsS (F "_law_are_pairs")) : LineS (runL 1 3 (b_law_is_line F)) := by
  intro d c n S hp hc
  have ht := pt_ty hp S
  refine of_W (w_runL rfl ?_)
  unfold b_law_is_line
  walk_at "w"
  refine w_isi ht ?_
  refine tr_q rfl ?_
  cases e : tupD d with
  | none =>
    have e2 : lineF d = false := by unfold lineF; rw [e]
    rw [tupD_ty e, e2]
    refine br_t ?_
    walk_at "w"
    exact tr_same rfl ⟨rfl, rfl⟩
  | some xs =>
    rw [tupD_ty2 e]
    obtain ⟨hl, hx⟩ := pt_tup hp e
    have hF : lineF d = (decide ((xs.length : Int) ≤ 5) && xs.all stepOk && decide (xs.map nmOf).Nodup) := by unfold lineF; rw [e]
    rw [hF]
    refine br_f ?_
    walk_at "w"
    refine w_len (seq_tup e _) ?_
    walk_at "w"
    refine br_d (fun h => ?_) fun h => ?_
    · walk_at "w"
      refine tr_same rfl ⟨?_, rfl⟩
      rw [decide_eq_false (by omega), Bool.false_and, Bool.false_and]
    · rw [decide_eq_true (by omega : (xs.length : Int) ≤ 5), Bool.true_and]
      walk_at "w"
      have loop : W (forGo [] (gNm 2) (lineBody F) xs [some d, some (.loc S.length), none] (S ++ [.lst []])) fun fl S2 => Ex S S2 ∧ ((fl = .rt (.bl false) ∧ (xs.all stepOk && decide (xs.map nmOf).Nodup) = false) ∨ (∃ e2, fl = .nx [some d, some (.loc S.length), e2] ∧ (xs.all stepOk && decide (xs.map nmOf).Nodup) = true)) := by
        refine w_forGo (fun i env S' => S' = S ++ [.lst (((xs.take i).map nmOf).map D.str)] ∧ (∃ e2, env = [some d, some (.loc S.length), e2]) ∧ (xs.take i).all stepOk = true ∧ ((xs.take i).map nmOf).Nodup) ⟨rfl, ⟨_, rfl⟩, rfl, List.nodup_nil⟩ ?_ ?_
        · rintro i x env S' hxi ⟨rfl, ⟨e2, rfl⟩, hal, hnd⟩
          refine ⟨gok_nil, ?_⟩
          have hxm := List.mem_of_getElem? hxi
          have hpx := hx x hxm
          have hex : Ex S (S ++ [Ob.lst (((xs.take i).map nmOf).map D.str)]) := ⟨_, rfl⟩
          have hat : (S ++ [Ob.lst (((xs.take i).map nmOf).map D.str)])[S.length]? = some (.lst (((xs.take i).map nmOf).map D.str)) := at0
          have htx := pt_ty hpx (S ++ [Ob.lst (((xs.take i).map nmOf).map D.str)])
          have no : stepOk x = false → (xs.all stepOk && decide (xs.map nmOf).Nodup) = false := fun h => by
            rw [List.all_eq_false.mpr ⟨x, hxm, by rw [h]; exact Bool.false_ne_true⟩, Bool.false_and]
          unfold lineBody
          walk_at "w"
          refine w_isi htx ?_
          refine tr_q rfl ?_
          cases e3 : tupD x with
          | none =>
            rw [tupD_ty e3]
            refine br_t ?_
            walk_at "w"
            exact ⟨hex, .inl ⟨rfl, no (by unfold stepOk; rw [e3])⟩⟩
          | some ys =>
            rw [tupD_ty2 e3]
            refine br_f ?_
            walk_at "w"
            refine w_len (seq_tup e3 _) ?_
            walk_at "w"
            refine br_d (fun h2 => ?_) fun h2 => ?_
            rotate_left
            · walk_at "w"
              refine ⟨hex, .inl ⟨rfl, no ?_⟩⟩
              unfold stepOk
              rw [e3]
              match ys, h2 with
              | [], _ => rfl
              | [_], _ => rfl
              | [a, b], h => exact absurd (by rfl) h
              | _ :: _ :: _ :: _, _ => rfl
            · obtain ⟨a, b, rfl⟩ : ∃ a b, ys = [a, b] := by
                match ys, h2 with
                | [a, b], _ => exact ⟨a, b, rfl⟩
                | [], h => exact absurd h (by simp)
                | [_], h => exact absurd h (by simp)
                | _ :: _ :: _ :: _, h => exact absurd h (by simp; omega)
              obtain ⟨pa, pb⟩ := pt_pair hpx e3
              have e4 : stepOk x = (isName a && !decide (nmOf x = restS) && pairsF 6 1 1000 b) := by unfold stepOk; rw [e3]
              walk_at "w"
              refine tup_at e3 ?_
              walk_at "w"
              refine w_pure (NM a _ _ _ pa) ?_
              refine tr_q rfl ?_
              by_cases hn : isName a = true
              · obtain ⟨z, rfl, hz⟩ := name_str hn
                have e5 : nmOf x = z := by unfold nmOf; rw [e3]
                rw [hn]
                refine br_f ?_
                walk_at "w"
                refine tup_at e3 ?_
                walk_at "w"
                refine br_d (fun hr => ?_) fun hr => ?_
                · walk_at "w"
                  exact ⟨hex, .inl ⟨rfl, no (by rw [e4, e5, decide_eq_true (show z = restS from hr)]; simp)⟩⟩
                · walk_at "w"
                  refine tup_at e3 ?_
                  walk_at "w"
                  refine w_in (in_strsL z hat) ?_
                  walk_at "w"
                  refine br_d (fun hi => ?_) fun hi => ?_
                  · walk_at "w"
                    refine ⟨hex, .inl ⟨rfl, ?_⟩⟩
                    rw [decide_eq_false fun hd => ?_, Bool.and_false]
                    have ed : xs = xs.take (i + 1) ++ xs.drop (i + 1) := (List.take_append_drop _ _).symm
                    rw [ed, List.map_append, take_succ hxi, List.map_append] at hd
                    have h1 := (List.nodup_append.mp hd).1
                    exact (List.nodup_append.mp h1).2.2 z hi z (by rw [List.map_singleton, e5]; exact List.mem_singleton_self z) rfl
                  · walk_at "w"
                    refine tup_at1 e3 ?_
                    walk_at "w"
                    refine w_pure (PA b 6 1000 _ _ _ pb hc (by decide)) ?_
                    refine tr_q rfl ?_
                    by_cases hb : pairsF 6 1 1000 b = true
                    · rw [hb]
                      refine br_f ?_
                      walk_at "w"
                      refine tup_at e3 ?_
                      walk_at "w"
                      refine w_append hat (by rw [List.length_map, List.length_map, List.length_take]; unfold big; omega) ?_
                      walk_at "w"
                      refine ⟨?_, ⟨_, rfl⟩, ?_, ?_⟩
                      · rw [st0, take_succ hxi, List.map_append, List.map_append, List.map_singleton, e5]
                        rfl
                      · rw [take_succ hxi, List.all_append, hal, List.all_cons, e4, hn, e5, decide_eq_false (show ¬ z = restS from hr), hb]
                        rfl
                      · rw [take_succ hxi, List.map_append, List.map_singleton, e5]
                        refine List.nodup_append.mpr ⟨hnd, by simp, fun u hu v hv huv => ?_⟩
                        rw [List.mem_singleton.mp hv] at huv
                        exact hi (by rw [← huv]; exact hu)
                    · rw [Bool.not_eq_true] at hb
                      rw [hb]
                      refine br_t ?_
                      walk_at "w"
                      exact ⟨hex, .inl ⟨rfl, no (by rw [e4, hb, Bool.and_false])⟩⟩
              · rw [Bool.not_eq_true] at hn
                rw [hn]
                refine br_t ?_
                walk_at "w"
                exact ⟨hex, .inl ⟨rfl, no (by rw [e4, hn, Bool.false_and, Bool.false_and])⟩⟩
        · rintro env S' ⟨rfl, ⟨e2, rfl⟩, hal, hnd⟩
          rw [List.take_length] at hal hnd
          exact ⟨gok_nil, ⟨_, rfl⟩, .inr ⟨_, rfl, by rw [hal, decide_eq_true hnd]; rfl⟩⟩
      rcases tupD_eq e with rfl | rfl
      all_goals
        walk_at "w"
        refine W.imp loop ?_
        rintro fl S2 ⟨hex, ⟨rfl, h1⟩ | ⟨e2, rfl, h1⟩⟩
        · walk_at "w"
          refine tr_ex hex rfl ⟨?_, rfl⟩
          rw [h1]
        · walk_at "w"
          refine tr_ex hex rfl ⟨?_, rfl⟩
          rw [h1]
abbrev LoadB (g : FnM) : Prop := ∀ (d : D) (c n : Nat) (S : Sto), Pt c n d → c < 100000 → g [d] S = .ok (.bl (pairsF 6 1 1000000000 d)) S
theorem isLoad_S {F : Str → FnM} (PA : PairsS (F "are_pairs")) : LoadB (runL 1 1 (b_is_load F)) := by
  intro d c n S hp hc
  refine of_W (w_runL rfl ?_)
  unfold b_is_load
  walk_at "w"
  refine w_pure (PA d 6 1 1000000000 _ _ _ hp hc) ?_
  walk_at "w"
  exact tr_same rfl ⟨rfl, rfl⟩
theorem lawLoad_S {F : Str → FnM} (PA : LPairsS (F "_law_are_pairs")) : LoadB (runL 1 1 (b_law_is_load F)) := by
  intro d c n S hp hc
  refine of_W (w_runL rfl ?_)
  unfold b_law_is_load
  walk_at "w"
  refine w_pure (PA d 6 1000000000 _ _ _ hp hc (by decide)) ?_
  walk_at "w"
  exact tr_same rfl ⟨rfl, rfl⟩
end Bz.K08

set_option Elab.async false
set_option linter.all false
set_option maxRecDepth 100000
set_option maxHeartbeats 4000000
set_option pp.maxSteps 1500
namespace Bz.K08
open PySem PySem.Spec PyProof.Rows L2
local macro_rules | `(tactic| walk_at "w") => `(tactic| repeat (first
  | with_reducible refine w_sSeq ?_ | with_reducible refine w_sIf ?_ | with_reducible refine w_sAsg ?_ | with_reducible refine w_sRet ?_ | with_reducible refine w_sNil ?_ | with_reducible refine w_sExpr ?_
  | with_reducible refine w_sFor ?_ | with_reducible refine w_asB ?_ | with_reducible refine w_tru ?_ | with_reducible refine w_tsAnd ?_ | with_reducible refine w_tsOr ?_ | with_reducible refine w_tsNot ?_
  | with_reducible refine w_tsYes ?_ | with_reducible refine w_and ?_ | with_reducible refine w_or ?_ | with_reducible refine w_not ?_ | with_reducible refine w_eIf ?_ | with_reducible refine w_bin ?_
  | with_reducible refine w_un ?_ | with_reducible refine w_chain ?_ | with_reducible refine w_nm rfl ?_ | with_reducible refine w_c ?_ | with_reducible refine w_stlV ?_ | with_reducible refine w_stlN ?_
  | with_reducible refine w_stlK ?_ | with_reducible refine w_stlT ?_ | with_reducible refine w_aNil ?_ | with_reducible refine w_aCons ?_ | with_reducible refine w_fz ?_ | with_reducible refine fz_v ?_
  | with_reducible refine fz_n ?_ | with_reducible refine fz_k ?_ | with_reducible refine fz_t ?_ | with_reducible refine w_fzL ?_ | with_reducible refine fl_d rfl ?_ | with_reducible refine fl_n ?_
  | with_reducible refine fl_k ?_ | with_reducible refine fl_t ?_ | with_reducible refine w_eTup ?_ | with_reducible refine w_eTuf ?_ | with_reducible refine w_eLst ?_ | with_reducible refine w_dnK ?_
  | with_reducible refine w_dnT ?_ | with_reducible refine w_call ?_ | with_reducible refine w_eSl ?_ | with_reducible refine w_ptNo ?_ | with_reducible refine w_ptI ?_ | with_reducible refine w_m1 ?_
  | with_reducible refine w_m2 ?_ | with_reducible refine w_get1 ?_ | with_reducible refine w_get2 ?_ | with_reducible refine w_eLc ?_ | with_reducible refine w_eDc ?_ | with_reducible refine dl_q (Nat.le_of_ble_eq_true rfl) ?_
  | with_reducible refine int_q ?_ | with_reducible refine as_q ?_ | with_reducible refine ty_q (ty_loc (by assumption)) ?_ | with_reducible refine sq_nx ?_ | with_reducible refine sq_rt ?_ | with_reducible refine sq_bk ?_
  | with_reducible refine sq_ct ?_ | with_reducible refine fq_rt ?_ | with_reducible refine fq_nx ?_ | with_reducible refine tq_nx ?_ | with_reducible refine tq_ct ?_ | with_reducible refine tq_bk ?_
  | with_reducible refine tq_rt ?_ | with_reducible refine w_srBB ?_ | with_reducible refine bq_tup ?_ | with_reducible refine bq_tuf ?_ | with_reducible refine bq_rol ?_ | with_reducible refine bq_str ?_
  | with_reducible refine bq_rod ?_ | with_reducible refine bq_loc (by assumption) ?_ | with_reducible refine w_srR1 ?_ | with_reducible refine w_srR2 ?_ | with_reducible refine w_srZB ?_ | with_reducible refine w_srItems ?_
  | with_reducible refine w_srVals ?_ | with_reducible refine w_srEn ?_ | with_reducible refine w_addI ?_ | with_reducible refine w_subI ?_ | with_reducible refine w_mulI (by omega) ?_ | with_reducible refine w_divI (by omega) (by omega) ?_
  | with_reducible refine w_modI (by first | omega | decide +kernel) ?_ | with_reducible refine w_powI rfl ?_ | with_reducible refine w_neg ?_ | with_reducible refine w_iaddI ?_ | with_reducible refine w_max ?_ | with_reducible refine w_min ?_
  | with_reducible refine w_abs ?_ | with_reducible refine w_gtI ?_ | with_reducible refine w_ltI ?_ | with_reducible refine w_leI ?_ | with_reducible refine w_geI ?_ | with_reducible refine w_eqI ?_
  | with_reducible refine w_neI ?_ | with_reducible refine w_eqS ?_ | with_reducible refine w_neS ?_ | with_reducible refine w_ixT rfl ?_ | with_reducible refine w_ixR rfl ?_ | with_reducible refine w_ixF rfl ?_
  | with_reducible refine w_ixL (by assumption) rfl ?_ | with_reducible refine w_len (seq_loc (by assumption)) ?_ | with_reducible refine w_len rfl ?_ | with_reducible refine w_gNm (Nat.le_of_ble_eq_true rfl) ?_ | with_reducible refine w_gSb ?_ | with_reducible refine w_gTp rfl ?_
  | with_reducible refine w_gTf rfl ?_ | with_reducible refine w_gsCons ?_ | with_reducible refine w_gsNil ?_ | with_reducible refine w_sPar2 ?_ | with_reducible refine w_sPar3 ?_ | with_reducible refine w_sAug rfl ?_
  | with_reducible refine w_sAugD ?_ | with_reducible refine br_n ?_ | with_reducible refine br_t ?_ | with_reducible refine br_f ?_))
abbrev OddS (g : FnM) : Prop := ∀ (nb : Nat) (S : Sto) (Q : D → Sto → Prop), Bag nb S → (∀ r S', Pt 2 1 r → Bag nb S' → Fr nb S S' → S'.length = S.length → Q r S') → W (g [.loc nb] S) Q
def oddL : List D := [D.non, D.bl true, D.int (-1), D.int 0, D.int 1001, D.int (10 ^ Int.toNat 10), D.str "", D.str "x", D.str "A", D.str "abcdefghi", D.tuf [], D.rol [], D.tuf [D.str "ash"], D.tuf [D.str "ash", D.int 1]]
theorem odd_pt : ∀ d ∈ oddL, Pt 2 1 d := fun d hd => by
  have s1 : ("" : Str).length ≤ 1000 ∧ sOk ("" : Str) := by decide +kernel
  have s2 : ("x" : Str).length ≤ 1000 ∧ sOk ("x" : Str) := by decide +kernel
  have s3 : ("A" : Str).length ≤ 1000 ∧ sOk ("A" : Str) := by decide +kernel
  have s4 : ("abcdefghi" : Str).length ≤ 1000 ∧ sOk ("abcdefghi" : Str) := by decide +kernel
  have s5 : ("ash" : Str).length ≤ 1000 ∧ sOk ("ash" : Str) := by decide +kernel
  simp only [oddL, List.mem_cons, List.not_mem_nil, or_false] at hd
  rcases hd with rfl | rfl | rfl | rfl | rfl | rfl | rfl | rfl | rfl | rfl | rfl | rfl | rfl | rfl
  · exact trivial
  · exact trivial
  · exact trivial
  · exact trivial
  · exact trivial
  · exact trivial
  · exact s1
  · exact s2
  · exact s3
  · exact s4
  · exact ⟨by simp, fun x hx => nomatch hx⟩
  · exact ⟨by simp, fun x hx => nomatch hx⟩
  · exact ⟨by simp, fun x hx => by rw [List.mem_singleton.mp hx]; exact s5⟩
  · refine ⟨by simp, fun x hx => ?_⟩
    simp only [List.mem_cons, List.not_mem_nil, or_false] at hx
    rcases hx with rfl | rfl
    · exact s5
    · exact trivial
theorem odd_ok {F : Str → FnM} (O : OfS (F "_law_of")) : OddS (runL 1 1 (b_law_odd F)) := by
  intro nb S Q hb q
  refine w_runL rfl ?_
  unfold b_law_odd
  walk_at "w"
  refine O nb _ _ _ hb (by simp) (by simp) (fun d hd => ⟨pt_nol (odd_pt d hd), fun n => pt_lts n (odd_pt d hd)⟩) fun d S2 hd hb2 f2 l2 => ?_
  have hp : Pt 2 1 d := odd_pt d hd
  refine fl_d (pt_nol hp) ?_
  walk_at "w"
  exact tr_bag hb hb2 f2 (pt_lts _ hp) fun S' h1 h2 h3 => q _ _ hp h1 h2 h3
def partsD : D → Option (List D)
  | .tup xs => some xs
  | .tuf xs => some xs
  | .rol xs => some xs
  | _ => none
theorem parts_ty {d : D} (h : partsD d = none) : (isi (tyD d) .tuple || isi (tyD d) .list) = false := by cases d <;> first | rfl | cases h
theorem parts_ty2 {d : D} {xs : List D} (h : partsD d = some xs) : (isi (tyD d) .tuple || isi (tyD d) .list) = true := by cases d <;> first | rfl | cases h
theorem parts_seq {d : D} {xs : List D} (h : partsD d = some xs) (S : Sto) : seqOf (.val d) S = some xs := by cases d <;> first | (cases h; rfl) | cases h
theorem parts_pt {c n : Nat} {d : D} {xs : List D} (h : Pt c n d) (e : partsD d = some xs) : ∃ n', n = n' + 1 ∧ xs.length ≤ c ∧ ∀ x ∈ xs, Pt c n' x := by
  cases n with
  | zero => cases d <;> first | exact h.elim | cases e
  | succ n => exact ⟨n, rfl, by cases d <;> first | (cases e; exact h) | cases e⟩
abbrev SpoiltS (c n : Nat) (g : FnM) : Prop := ∀ (nb : Nat) (S : Sto) (d : D) (Q : D → Sto → Prop), Bag nb S → Pt c n d → (∀ r S', Pt (c + 1) (n + 1) r → Bag nb S' → Fr nb S S' → S'.length = S.length → Q r S') → W (g [.loc nb, d] S) Q
theorem mem_insert {α : Type} {xs : List α} {i : Nat} {y x : α} (h : x ∈ xs.take i ++ [y] ++ xs.drop i) : x = y ∨ x ∈ xs := by
  rcases List.mem_append.mp h with h | h
  · rcases List.mem_append.mp h with h | h
    · exact .inr (List.mem_of_mem_take h)
    · exact .inl (List.mem_singleton.mp h)
  · exact .inr (List.mem_of_mem_drop h)
def spRet : StM := (sSeq (sRet (eFzL (eIf (tru (eUn (isiV .tuple) (eNm 1))) (eUn tufV (eNm 2)) (eNm 2)))) sNil)
def spOut (F : Str → FnM) : StM :=
 (sSeq (sIf (tsAnd (tru (eUn (isiV .int) (eNm 1))) (asB (eBin eqV' (eCall (F "_law_take") (aCons (eFz (eNm 0)) (aCons (eFz (eC (.int 2))) aNil))) (eC (.int 0)))))
 (sSeq (sRet (eFzL (eBin addV (eNm 1) (eCall (F "_law_of") (aCons (eFz (eNm 0)) (aCons (eFz (eLst (aCons (eFzL (eC (.int 1))) (aCons (eFzL (eUn negV (eC (.int 1)))) (aCons (eFzL (eC (.int 99))) (aCons (eFzL (eUn negV (eC (.int 1000)))) (aCons (eFzL (eBin powV (eC (.int 10)) (eC (.int 9)))) aNil))))))) aNil))))))
 sNil)
 sNil)
 (sSeq (sRet (eFzL (eCall (F "_law_odd") (aCons (eFz (eNm 0)) aNil))))
 sNil))
theorem spoilt_ok {c n : Nat} (hc : 1 ≤ c) (hc2 : c < 900) {F : Str → FnM} (T : TakeS (F "_law_take")) (O : OfS (F "_law_of")) (OD : OddS (F "_law_odd")) (IH : ∀ n', n = n' + 1 → SpoiltS c n' (F "_law_spoilt")) : SpoiltS c n (runL 2 5 (b_law_spoilt F)) := by
  intro nb S d Q hb hd q
  refine w_runL rfl ?_
  have fin : ∀ {S1 : Sto} {r : D}, Pt (c + 1) (n + 1) r → Bag nb S1 → Fr nb S S1 → W (trunc S (.ok r S1)) Q := fun hp h1 h2 => tr_bag hb h1 h2 (pt_lts _ hp) fun S' h1 h2 h3 => q _ _ hp h1 h2 h3
  have out : ∀ {S0 : Sto} {e2 e3 e4 : Option D}, Bag nb S0 → Fr nb S S0 → W (spOut F [some (.loc nb), some d, e2, e3, e4] S0) (fun fl S1 => ∃ r, fl = Fl.rt r ∧ W (trunc S (.ok r S1)) Q) := fun {S0 e2 e3 e4} hb0 f0 => by
    have ht := pt_ty hd S0
    have last : ∀ {S1 : Sto}, Bag nb S1 → Fr nb S S1 → W (sSeq (sRet (eFzL (eCall (F "_law_odd") (aCons (eFz (eNm 0)) aNil)))) sNil [some (.loc nb), some d, e2, e3, e4] S1) (fun fl S1 => ∃ r, fl = Fl.rt r ∧ W (trunc S (.ok r S1)) Q) := fun {S1} hb1 f1 => by
      walk_at "w"
      refine OD nb S1 _ hb1 fun r S2 hr hb2 f2 l2 => ?_
      refine fl_d (pt_nol hr) ?_
      walk_at "w"
      exact ⟨_, rfl, fin (hr.up (by omega) (by omega)) hb2 (f1.trans f2)⟩
    unfold spOut
    walk_at "w"
    refine w_isi ht ?_
    refine tr_q rfl ?_
    by_cases hi : isi (tyD d) .int = true
    · rw [hi]
      refine br_t ?_
      walk_at "w"
      refine T nb S0 2 _ hb0 (by decide) (by decide) fun r S1 h1 h2 hb1 f1 l1 => ?_
      walk_at "w"
      refine br_d (fun hk => ?_) fun hk => ?_
      · walk_at "w"
        refine O nb _ _ _ hb1 (by simp) (by simp) (of_flat rfl) fun e S2 he hb2 f2 l2 => ?_
        have f3 : Fr nb S S2 := (f0.trans f1).trans f2
        have he : ∃ k, e = .int k := by
          simp only [List.mem_cons, List.not_mem_nil, or_false] at he
          rcases he with rfl | rfl | rfl | rfl | rfl <;> exact ⟨_, rfl⟩
        obtain ⟨k, rfl⟩ := he
        cases d with
        | int i =>
          walk_at "w"
          exact ⟨_, rfl, fin (r := .int _) trivial hb2 f3⟩
        | bl b =>
          refine w_addB ?_
          walk_at "w"
          exact ⟨_, rfl, fin (r := .int _) trivial hb2 f3⟩
        | _ => exact absurd hi (fun h => nomatch (show false = true from h))
      · refine w_sNil ?_
        refine sq_nx ?_
        exact last hb1 (f0.trans f1)
    · rw [Bool.not_eq_true] at hi
      rw [hi]
      refine br_f ?_
      refine br_f ?_
      refine w_sNil ?_
      refine sq_nx ?_
      exact last hb0 f0
  have ret : ∀ {S1 : Sto} {p : Nat} {ys : List D} {e3 e4 : Option D}, S1[p]? = some (.lst ys) → S.length ≤ p → Bag nb S1 → Fr nb S S1 → ys.length ≤ c + 1 → (∀ x ∈ ys, Pt (c + 1) n x) → W (spRet [some (.loc nb), some d, some (.loc p), e3, e4] S1) (FinQ fun d S1 => W (trunc S (.ok d S1)) Q) := fun {S1 p ys e3 e4} hl hn hb1 f1 hlen hys => by
    have ht := pt_ty hd S1
    unfold spRet
    walk_at "w"
    refine w_isi ht ?_
    refine tr_q rfl ?_
    by_cases hi : isi (tyD d) .tuple = true
    · rw [hi]
      refine br_t ?_
      walk_at "w"
      refine w_tufL (lrd_loc hl) ?_
      walk_at "w"
      exact fin (r := .tuf ys) ⟨hlen, hys⟩ hb1 f1
    · rw [Bool.not_eq_true] at hi
      rw [hi]
      refine br_f ?_
      walk_at "w"
      refine fl_l hl ?_
      walk_at "w"
      have hpn : p ≠ nb := by have := hb.lt; omega
      exact fin (r := .rol ys) ⟨hlen, hys⟩ (hb1.set hpn) (f1.setN hn)
  unfold b_law_spoilt
  walk_at "w"
  refine w_isi2 (pt_ty hd S) ?_
  refine tr_q rfl ?_
  cases e : partsD d with
  | none =>
    rw [parts_ty e]
    refine br_t ?_
    refine br_t ?_
    refine W.imp (out hb .refl) ?_
    rintro fl S1 ⟨r, rfl, h⟩
    refine sq_rt ?_
    exact h
  | some xs =>
    rw [parts_ty2 e]
    obtain ⟨n', rfl, hlen, hxs⟩ := parts_pt hd e
    have hlb : xs.length < big := by unfold big; omega
    refine br_f ?_
    walk_at "w"
    refine w_len (parts_seq e _) ?_
    walk_at "w"
    refine br_d (fun hk => ?_) fun hk => ?_
    · refine br_t ?_
      refine W.imp (out hb .refl) ?_
      rintro fl S1 ⟨r, rfl, h⟩
      refine sq_rt ?_
      exact h
    walk_at "w"
    refine T nb S 6 _ hb (by decide) (by decide) fun r S1 h1 h2 hb1 f1 l1 => ?_
    walk_at "w"
    refine br_d (fun hk2 => ?_) fun hk2 => ?_
    · refine W.imp (out hb1 f1) ?_
      rintro fl S1 ⟨r, rfl, h⟩
      refine sq_rt ?_
      exact h
    walk_at "w"
    refine w_list (parts_seq e _) ?_
    walk_at "w"
    have hL2 : (S1 ++ [Ob.lst xs])[S1.length]? = some (.lst xs) := at_new
    have hpn : S1.length ≠ nb := hb1.ne
    have hpl : S.length ≤ S1.length := f1.1
    generalize S1.length = p at hL2 hpn hpl ⊢
    have hx0 : 0 < xs.length := by omega
    refine w_len (seq_loc hL2) ?_
    walk_at "w"
    refine T nb _ _ _ hb1.push (by omega) (by omega) fun r3 S3 h30 h31 hb3 f3 _ => ?_
    obtain ⟨j, rfl⟩ : ∃ j : Nat, r3 = j := ⟨r3.toNat, by omega⟩
    have hj : j < xs.length := by omega
    obtain ⟨y, hy⟩ : ∃ y, xs[j]? = some y := ⟨_, List.getElem?_eq_getElem hj⟩
    have hym : y ∈ xs := List.mem_of_getElem? hy
    have hix : ixN xs.length (j : Int) = some j := by unfold ixN; rw [if_pos (by omega), if_pos (by omega)]; simp
    have hat : atI xs (j : Int) = some y := atI_nat hy
    walk_at "w"
    refine T nb _ _ _ hb3 (by decide) (by decide) fun r4 S4 h40 h41 hb4 f4 _ => ?_
    have hL4 : S4[p]? = some (.lst xs) := f4.at (f3.at hL2 hpn) hpn
    have fr4 : Fr nb S S4 := ((f1.trans .push).trans f3).trans f4
    have hup : ∀ x ∈ xs, Pt (c + 1) (n' + 1) x := fun x hx => (hxs x hx).up (by omega) (by omega)
    walk_at "w"
    refine ⟨_, _, rfl, ⟨Nat.le_of_ble_eq_true rfl, Nat.le_of_ble_eq_true rfl⟩, ?_⟩
    walk_at "w"
    refine br_d (fun k0 => ?_) fun k0 => ?_
    · walk_at "w"
      refine w_popAt hL4 (by omega) hix hy ?_
      repeat (first | with_reducible refine w_sNil ?_ | with_reducible refine sq_nx ?_ | with_reducible refine w_stlN ?_ | with_reducible refine w_gNm (Nat.le_of_ble_eq_true rfl) ?_)
      exact ret (ys := xs.eraseIdx j) (List.getElem?_set_self (lt_of hL4)) hpl (hb4.set hpn) (fr4.setN hpl) (by have := List.length_eraseIdx_le xs j; omega) fun x hx => hup x (List.mem_of_mem_eraseIdx hx)
    walk_at "w"
    refine br_d (fun k1 => ?_) fun k1 => ?_
    · walk_at "w"
      refine w_ixL hL4 hat ?_
      refine fl_d (pt_nol (hxs y hym)) ?_
      walk_at "w"
      refine w_insert hL4 ⟨hlb, by omega, by omega⟩ ?_
      repeat (first | with_reducible refine w_sNil ?_ | with_reducible refine sq_nx ?_ | with_reducible refine w_stlN ?_ | with_reducible refine w_gNm (Nat.le_of_ble_eq_true rfl) ?_)
      refine ret (ys := xs.take (Int.toNat j) ++ [y] ++ xs.drop (Int.toNat j)) (List.getElem?_set_self (lt_of hL4)) hpl (hb4.set hpn) (fr4.setN hpl) (by rw [List.length_append, List.length_append, List.length_take, List.length_drop, List.length_singleton]; omega) fun x hx => hup x ?_
      rcases mem_insert hx with rfl | hx
      · exact hym
      · exact hx
    walk_at "w"
    refine br_d (fun k2 => ?_) fun k2 => ?_
    · walk_at "w"
      refine w_revL (lrd_loc hL4) ?_
      repeat (first | with_reducible refine w_sNil ?_ | with_reducible refine sq_nx ?_ | with_reducible refine w_stlN ?_ | with_reducible refine w_gNm (Nat.le_of_ble_eq_true rfl) ?_)
      exact ret (ys := xs.reverse) at_new fr4.1 hb4.push (fr4.trans .push) (by rw [List.length_reverse]; omega) fun x hx => hup x (List.mem_reverse.mp hx)
    walk_at "w"
    refine br_d (fun k3 => ?_) fun k3 => ?_
    · walk_at "w"
      refine w_isi (pt_ty hd S4) ?_
      refine tr_q rfl ?_
      by_cases hi : isi (tyD d) .tuple = true
      · rw [hi]
        refine br_t ?_
        walk_at "w"
        refine w_list (parts_seq e _) ?_
        walk_at "w"
        exact fin (r := .rol xs) ⟨by omega, hup⟩ hb4 fr4
      · rw [Bool.not_eq_true] at hi
        rw [hi]
        refine br_f ?_
        walk_at "w"
        have hrol : d = .rol xs := by cases d <;> first | (cases e; first | rfl | exact absurd hi (fun h => nomatch (show true = false from h))) | cases e
        subst hrol
        refine w_tufL rfl ?_
        walk_at "w"
        exact fin (r := .tuf xs) ⟨by omega, hup⟩ hb4 fr4
    · walk_at "w"
      refine w_ixL hL4 hat ?_
      walk_at "w"
      refine IH n' rfl nb S4 y _ hb4 (hxs y hym) fun r5 S5 hr5 hb5 f5 l5 => ?_
      refine fl_d (pt_nol hr5) ?_
      walk_at "w"
      have hL5 := f5.at hL4 hpn
      refine w_setL hL5 hix ?_
      repeat (first | with_reducible refine w_sNil ?_ | with_reducible refine sq_nx ?_ | with_reducible refine w_stlN ?_ | with_reducible refine w_gNm (Nat.le_of_ble_eq_true rfl) ?_)
      refine ret (ys := xs.set j r5) (List.getElem?_set_self (lt_of hL5)) hpl (hb5.set hpn) ((fr4.trans f5).setN hpl) (by rw [List.length_set]; omega) fun x hx => ?_
      rcases List.mem_or_eq_of_mem_set hx with hx | rfl
      · exact hup x hx
      · exact hr5
end Bz.K08

set_option Elab.async false
set_option linter.all false
set_option maxRecDepth 100000
set_option maxHeartbeats 4000000
set_option pp.maxSteps 1500
namespace Bz.K08
open PySem PySem.Spec PyProof.Rows L2
local macro_rules | `(tactic| walk_at "w") => `(tactic| repeat (first
  | with_reducible refine w_sSeq ?_ | with_reducible refine w_sIf ?_ | with_reducible refine w_sAsg ?_ | with_reducible refine w_sRet ?_ | with_reducible refine w_sNil ?_ | with_reducible refine w_sExpr ?_
  | with_reducible refine w_sFor ?_ | with_reducible refine w_asB ?_ | with_reducible refine w_tru ?_ | with_reducible refine w_tsAnd ?_ | with_reducible refine w_tsOr ?_ | with_reducible refine w_tsNot ?_
  | with_reducible refine w_tsYes ?_ | with_reducible refine w_and ?_ | with_reducible refine w_or ?_ | with_reducible refine w_not ?_ | with_reducible refine w_eIf ?_ | with_reducible refine w_bin ?_
  | with_reducible refine w_un ?_ | with_reducible refine w_chain ?_ | with_reducible refine w_nm rfl ?_ | with_reducible refine w_c ?_ | with_reducible refine w_stlV ?_ | with_reducible refine w_stlN ?_
  | with_reducible refine w_stlK ?_ | with_reducible refine w_stlT ?_ | with_reducible refine w_aNil ?_ | with_reducible refine w_aCons ?_ | with_reducible refine w_fz ?_ | with_reducible refine fz_v ?_
  | with_reducible refine fz_n ?_ | with_reducible refine fz_k ?_ | with_reducible refine fz_t ?_ | with_reducible refine w_fzL ?_ | with_reducible refine fl_d rfl ?_ | with_reducible refine fl_n ?_
  | with_reducible refine fl_k ?_ | with_reducible refine fl_t ?_ | with_reducible refine w_eTup ?_ | with_reducible refine w_eTuf ?_ | with_reducible refine w_eLst ?_ | with_reducible refine w_dnK ?_
  | with_reducible refine w_dnT ?_ | with_reducible refine w_call ?_ | with_reducible refine w_eSl ?_ | with_reducible refine w_ptNo ?_ | with_reducible refine w_ptI ?_ | with_reducible refine w_m1 ?_
  | with_reducible refine w_m2 ?_ | with_reducible refine w_get1 ?_ | with_reducible refine w_get2 ?_ | with_reducible refine w_eLc ?_ | with_reducible refine w_eDc ?_ | with_reducible refine dl_q (Nat.le_of_ble_eq_true rfl) ?_
  | with_reducible refine int_q ?_ | with_reducible refine as_q ?_ | with_reducible refine ty_q (ty_loc (by assumption)) ?_ | with_reducible refine sq_nx ?_ | with_reducible refine sq_rt ?_ | with_reducible refine sq_bk ?_
  | with_reducible refine sq_ct ?_ | with_reducible refine fq_rt ?_ | with_reducible refine fq_nx ?_ | with_reducible refine tq_nx ?_ | with_reducible refine tq_ct ?_ | with_reducible refine tq_bk ?_
  | with_reducible refine tq_rt ?_ | with_reducible refine w_srBB ?_ | with_reducible refine bq_tup ?_ | with_reducible refine bq_tuf ?_ | with_reducible refine bq_rol ?_ | with_reducible refine bq_str ?_
  | with_reducible refine bq_rod ?_ | with_reducible refine bq_loc (by assumption) ?_ | with_reducible refine w_srR1 ?_ | with_reducible refine w_srR2 ?_ | with_reducible refine w_srZB ?_ | with_reducible refine w_srItems ?_
  | with_reducible refine w_srVals ?_ | with_reducible refine w_srEn ?_ | with_reducible refine w_addI ?_ | with_reducible refine w_subI ?_ | with_reducible refine w_mulI (by omega) ?_ | with_reducible refine w_divI (by omega) (by omega) ?_
  | with_reducible refine w_modI (by first | omega | decide +kernel) ?_ | with_reducible refine w_powI rfl ?_ | with_reducible refine w_neg ?_ | with_reducible refine w_iaddI ?_ | with_reducible refine w_max ?_ | with_reducible refine w_min ?_
  | with_reducible refine w_abs ?_ | with_reducible refine w_gtI ?_ | with_reducible refine w_ltI ?_ | with_reducible refine w_leI ?_ | with_reducible refine w_geI ?_ | with_reducible refine w_eqI ?_
  | with_reducible refine w_neI ?_ | with_reducible refine w_eqS ?_ | with_reducible refine w_neS ?_ | with_reducible refine w_ixT rfl ?_ | with_reducible refine w_ixR rfl ?_ | with_reducible refine w_ixF rfl ?_
  | with_reducible refine w_ixL (by assumption) rfl ?_ | with_reducible refine w_len (seq_loc (by assumption)) ?_ | with_reducible refine w_len rfl ?_ | with_reducible refine w_gNm (Nat.le_of_ble_eq_true rfl) ?_ | with_reducible refine w_gSb ?_ | with_reducible refine w_gTp rfl ?_
  | with_reducible refine w_gTf rfl ?_ | with_reducible refine w_gsCons ?_ | with_reducible refine w_gsNil ?_ | with_reducible refine w_sPar2 ?_ | with_reducible refine w_sPar3 ?_ | with_reducible refine w_sAug rfl ?_
  | with_reducible refine w_sAugD ?_ | with_reducible refine br_n ?_ | with_reducible refine br_t ?_ | with_reducible refine br_f ?_))
def abcS : Str := "abcdefgh"
def sg (j : Nat) : Str := match abcS.cps.toList[j]? with
  | some c => ⟨#[c]⟩
  | none => Str.empty
theorem w_sg {S : Sto} {Q : Rv → Sto → Prop} {j : Nat} (h : j < 8) (q : Q (.val (.str (sg j))) S) : W (ixV (.val (.str "abcdefgh")) (.val (.int (j : Int))) S) Q := by
  have e : atI abcS.cps.toList (j : Int) = abcS.cps.toList[j]? := by
    have hl : j < abcS.cps.toList.length := by show j < 8; exact h
    rw [List.getElem?_eq_getElem hl]
    exact atI_nat (List.getElem?_eq_getElem hl)
  have hl : j < abcS.cps.toList.length := by show j < 8; exact h
  refine ⟨.val (.str (sg j)), S, ?_, q⟩
  show (if abcS.length ≤ big then (match atI abcS.cps.toList (j : Int) with
      | some c => Res.ok (Rv.val (.str ⟨#[c]⟩)) S
      | none => .bad) else .bad) = _
  rw [if_pos (by decide), e]
  unfold sg
  rw [List.getElem?_eq_getElem hl]
theorem sg_ok {j : Nat} (h : j < 8) : (("kind" : Str) ++ sg j).length ≤ 1000 ∧ sOk (("kind" : Str) ++ sg j) ∧ (("step" : Str) ++ sg j).length ≤ 1000 ∧ sOk (("step" : Str) ++ sg j) ∧ ("kind" : Str).length + (sg j).length ≤ big ∧ ("step" : Str).length + (sg j).length ≤ big := by
  have : ∀ j < 8, (("kind" : Str) ++ sg j).length ≤ 1000 ∧ sOk (("kind" : Str) ++ sg j) ∧ (("step" : Str) ++ sg j).length ≤ 1000 ∧ sOk (("step" : Str) ++ sg j) ∧ ("kind" : Str).length + (sg j).length ≤ big ∧ ("step" : Str).length + (sg j).length ≤ big := by decide +kernel
  exact this j h
theorem eq_bools (a b : Bool) (S : Sto) : eqOf (.val (.rol [.bl a, .bl b])) (.new [.bl a, .bl b]) S = some true := by
  cases a <;> cases b <;> rfl
theorem rngI_map (n : Nat) : rngI 0 n = (List.range n).map fun (i : Nat) => D.int (i : Int) := by
  unfold rngI
  congr 1
  funext i
  rw [Int.zero_add]
theorem law_ok {F : Str → FnM} (B : BagS (F "_law_bag")) (T : TakeS (F "_law_take")) (L : LoadS (F "_law_load")) (ST : StepsS (F "_law_steps")) (OD : OddS (F "_law_odd")) (SP : SpoiltS 20 6 (F "_law_spoilt")) (SP2 : SpoiltS 21 7 (F "_law_spoilt"))
    (IL : LoadB (F "is_load")) (IN : LineS (F "is_line")) (LL : LoadB (F "_law_is_load")) (LN : LineS (F "_law_is_line")) (ns : List Int) (hns : ns.length ≤ 63) :
    W (runL 1 12 (b_law F) [.rol (ns.map D.int)] []) fun d _ => d = .bl true := by
  refine w_runL rfl ?_
  unfold b_law
  walk_at "w"
  refine ⟨_, rfl, by rw [List.length_map]; omega, ?_⟩
  refine w_forGo (fun i env S' => ∃ e1 e2 e3 e4 e5 e6 e7 e8 e9 e10 e11, env = [some (.rol (ns.map D.int)), e1, e2, e3, e4, e5, e6, e7, e8, e9, e10, e11]) ⟨_, _, _, _, _, _, _, _, _, _, _, rfl⟩ ?_ ?_
  · rintro i x env S hx ⟨e1, e2, e3, e4, e5, e6, e7, e8, e9, e10, e11, rfl⟩
    obtain ⟨hi, rfl⟩ := rngI_get hx
    refine ⟨gok_nil, ?_⟩
    walk_at "w"
    rw [Int.zero_add]
    refine B S ns i _ (by rw [List.length_map] at hi; omega) fun S1 hb1 f1 l1 => ?_
    walk_at "w"
    refine L _ _ _ _ hb1 (by decide) (by decide) fun l S2 hl hb2 f2 l2 => ?_
    walk_at "w"
    refine ST _ _ _ hb2 fun line S3 hL hb3 f3 l3 => ?_
    walk_at "w"
    refine ⟨_, _, rfl, ⟨Nat.le_of_ble_eq_true rfl, Nat.le_of_ble_eq_true rfl⟩, ?_⟩
    walk_at "w"
    refine T _ _ _ _ hb3 (by decide) (by decide) fun r S4 h40 h41 hb4 f4 l4 => ?_
    obtain ⟨m, hm, hm2⟩ : ∃ m : Nat, 6 + r = (m : Int) ∧ m ≤ 7 := ⟨(6 + r).toNat, by omega, by omega⟩
    walk_at "w"
    rw [hm]
    have hll : l.length ≤ 6 := hl.len
    have hlen : line.length ≤ 5 := hL.len
    have hlp : ∀ p ∈ l, p.1.length ≤ 1000 ∧ sOk p.1 := fun p hp => kinds_pt (kindsW_X (hl.ok p hp).1)
    have pl : Pt 20 6 (.tuf (l.map encT)) := pt_ldT (n := 4) hlp (by omega) (by decide)
    have hst : ∀ s ∈ line, Pt 20 5 (encStep s) := fun s hs => pt_stT (n := 2) (names_pt (hL.names s hs)) (fun p hp => kinds_pt ((hL.sh s hs).ok p hp).1) (by have := (hL.sh s hs).len; omega) (by decide)
    have pL : Pt 20 6 (.tuf (line.map encStep)) := ⟨by rw [List.length_map]; omega, fun x hx => by
      obtain ⟨s, hs, rfl⟩ := List.mem_map.mp hx
      exact hst s hs⟩
    have plx : ∀ x ∈ l.map encT, Pt 22 7 x := fun x hx => (pl.2 x hx).up (by decide) (by decide)
    have pLx : ∀ x ∈ line.map encStep, Pt 22 7 x := fun x hx => (pL.2 x hx).up (by decide) (by decide)
    refine w_revF ?_
    walk_at "w"
    refine w_revF ?_
    walk_at "w"
    refine w_list (xs := l.map encT) rfl ?_
    walk_at "w"
    refine w_list (xs := line.map encStep) rfl ?_
    walk_at "w"
    refine OD _ _ _ hb4 fun o S5 ho hb5 f5 l5 => ?_
    refine fl_d (pt_nol ho) ?_
    walk_at "w"
    generalize hT : ([.tuf (l.map encT), .tuf (line.map encStep), .tuf [], .rol [], .non, .tup (l.map encT).reverse, .tup (line.map encStep).reverse, .rol (l.map encT), .rol (line.map encStep), o] : List D) = t0
    have hts0 : ∀ x ∈ t0, Pt 22 8 x := fun x hx => by
      rw [← hT] at hx
      simp only [List.mem_cons, List.not_mem_nil, or_false] at hx
      rcases hx with rfl | rfl | rfl | rfl | rfl | rfl | rfl | rfl | rfl | rfl
      · exact pl.up (by decide) (by decide)
      · exact pL.up (by decide) (by decide)
      · exact ⟨by simp, fun x hx => nomatch hx⟩
      · exact ⟨by simp, fun x hx => nomatch hx⟩
      · exact trivial
      · exact ⟨by rw [List.length_reverse, List.length_map]; omega, fun x hx => plx x (List.mem_reverse.mp hx)⟩
      · exact ⟨by rw [List.length_reverse, List.length_map]; omega, fun x hx => pLx x (List.mem_reverse.mp hx)⟩
      · exact ⟨by rw [List.length_map]; omega, plx⟩
      · exact ⟨by rw [List.length_map]; omega, pLx⟩
      · exact ho.up (by decide) (by decide)
    have htl0 : t0.length = 10 := by rw [← hT]; rfl
    clear hT
    have h0 : (S5 ++ [Ob.lst t0])[S5.length]? = some (.lst t0) := at0
    have hpn : S5.length ≠ S.length := hb5.ne
    have hb0' : Bag S.length (S5 ++ [Ob.lst t0]) := hb5.push
    generalize S5.length = p at h0 hpn ⊢
    generalize S5 ++ [Ob.lst t0] = U0 at h0 hb0' ⊢
    walk_at "w"
    refine ⟨_, rfl, by omega, ?_⟩
    rw [rngI_map]
    refine ⟨by rw [List.length_map, List.length_range]; unfold big; omega, w_lcMap1 (fun j : Nat => .tuf [.str (("kind" : Str) ++ sg j), .int (10 ^ Int.toNat 9 + (m : Int) - 6)]) rfl (fun j hj => ?_) ?_⟩
    · have hj8 : j < 8 := by have := List.mem_range.mp hj; omega
      walk_at "w"
      refine w_sg hj8 ?_
      refine w_catS (sg_ok hj8).2.2.2.2.1 ?_
      walk_at "w"
      exact ⟨rfl, rfl⟩
    refine w_tufL rfl ?_
    walk_at "w"
    refine w_append h0 (by unfold big; omega) ?_
    have hd1 : Pt 22 8 (.tuf ((List.range (m : Int).toNat).map fun j : Nat => D.tuf [.str (("kind" : Str) ++ sg j), .int (10 ^ Int.toNat 9 + (m : Int) - 6)])) := by
      refine ⟨by rw [List.length_map, List.length_range]; omega, fun x hx => ?_⟩
      obtain ⟨j, hj, rfl⟩ := List.mem_map.mp hx
      have hj8 : j < 8 := by have := List.mem_range.mp hj; omega
      refine ⟨by simp, fun y hy => ?_⟩
      simp only [List.mem_cons, List.not_mem_nil, or_false] at hy
      rcases hy with rfl | rfl
      · exact ⟨(sg_ok hj8).1, (sg_ok hj8).2.1⟩
      · exact trivial
    generalize (D.tuf ((List.range (m : Int).toNat).map fun j : Nat => D.tuf [.str (("kind" : Str) ++ sg j), .int (10 ^ Int.toNat 9 + (m : Int) - 6)])) = d1 at hd1 ⊢
    have h1 : (U0.set p (.lst (t0 ++ [d1])))[p]? = some (.lst (t0 ++ [d1])) := List.getElem?_set_self (lt_of h0)
    have hb1' : Bag S.length (U0.set p (.lst (t0 ++ [d1]))) := hb0'.set hpn
    have hts1 : ∀ x ∈ t0 ++ [d1], Pt 22 8 x := fun x hx => by
      rcases List.mem_append.mp hx with h | h
      · exact hts0 x h
      · rw [List.mem_singleton.mp h]; exact hd1
    have htl1 : (t0 ++ [d1]).length = 11 := by rw [List.length_append, List.length_singleton]; omega
    generalize t0 ++ [d1] = t1 at h1 hb1' hts1 htl1 ⊢
    generalize U0.set p (.lst t1) = U1 at h1 hb1' ⊢
    walk_at "w"
    refine ⟨_, rfl, by omega, ?_⟩
    rw [rngI_map]
    refine ⟨by rw [List.length_map, List.length_range]; unfold big; omega, w_lcMap1 (fun j : Nat => .tuf [.str (("kind" : Str) ++ sg j), .int 1000]) rfl (fun j hj => ?_) ?_⟩
    · have hj8 : j < 8 := by have := List.mem_range.mp hj; omega
      walk_at "w"
      refine w_sg hj8 ?_
      refine w_catS (sg_ok hj8).2.2.2.2.1 ?_
      walk_at "w"
      exact ⟨rfl, rfl⟩
    refine w_tufL rfl ?_
    walk_at "w"
    refine w_append h1 (by unfold big; omega) ?_
    have hd2 : Pt 22 8 (.tuf ((List.range (m : Int).toNat).map fun j : Nat => D.tuf [.str (("kind" : Str) ++ sg j), .int 1000])) := by
      refine ⟨by rw [List.length_map, List.length_range]; omega, fun x hx => ?_⟩
      obtain ⟨j, hj, rfl⟩ := List.mem_map.mp hx
      have hj8 : j < 8 := by have := List.mem_range.mp hj; omega
      refine ⟨by simp, fun y hy => ?_⟩
      simp only [List.mem_cons, List.not_mem_nil, or_false] at hy
      rcases hy with rfl | rfl
      · exact ⟨(sg_ok hj8).1, (sg_ok hj8).2.1⟩
      · exact trivial
    generalize (D.tuf ((List.range (m : Int).toNat).map fun j : Nat => D.tuf [.str (("kind" : Str) ++ sg j), .int 1000])) = d2 at hd2 ⊢
    have h2 : (U1.set p (.lst (t1 ++ [d2])))[p]? = some (.lst (t1 ++ [d2])) := List.getElem?_set_self (lt_of h1)
    have hb2' : Bag S.length (U1.set p (.lst (t1 ++ [d2]))) := hb1'.set hpn
    have hts2 : ∀ x ∈ t1 ++ [d2], Pt 22 8 x := fun x hx => by
      rcases List.mem_append.mp hx with h | h
      · exact hts1 x h
      · rw [List.mem_singleton.mp h]; exact hd2
    have htl2 : (t1 ++ [d2]).length = 12 := by rw [List.length_append, List.length_singleton]; omega
    generalize t1 ++ [d2] = t2 at h2 hb2' hts2 htl2 ⊢
    generalize U1.set p (.lst t2) = U2 at h2 hb2' ⊢
    walk_at "w"
    refine ⟨_, rfl, by omega, ?_⟩
    rw [rngI_map]
    refine ⟨by rw [List.length_map, List.length_range]; unfold big; omega, w_lcMap1 (fun j : Nat => .tuf [.str (("step" : Str) ++ sg j), .tuf []]) rfl (fun j hj => ?_) ?_⟩
    · have hj8 : j < 8 := by have := List.mem_range.mp hj; omega
      walk_at "w"
      refine w_sg hj8 ?_
      refine w_catS (sg_ok hj8).2.2.2.2.2 ?_
      walk_at "w"
      exact ⟨rfl, rfl⟩
    refine w_tufL rfl ?_
    walk_at "w"
    refine w_append h2 (by unfold big; omega) ?_
    have hd3 : Pt 22 8 (.tuf ((List.range ((m : Int) - 1).toNat).map fun j : Nat => D.tuf [.str (("step" : Str) ++ sg j), .tuf []])) := by
      refine ⟨by rw [List.length_map, List.length_range]; omega, fun x hx => ?_⟩
      obtain ⟨j, hj, rfl⟩ := List.mem_map.mp hx
      have hj8 : j < 8 := by have := List.mem_range.mp hj; omega
      refine ⟨by simp, fun y hy => ?_⟩
      simp only [List.mem_cons, List.not_mem_nil, or_false] at hy
      rcases hy with rfl | rfl
      · exact ⟨(sg_ok hj8).2.2.1, (sg_ok hj8).2.2.2.1⟩
      · exact ⟨by simp, fun x hx => nomatch hx⟩
    generalize (D.tuf ((List.range ((m : Int) - 1).toNat).map fun j : Nat => D.tuf [.str (("step" : Str) ++ sg j), .tuf []])) = d3 at hd3 ⊢
    have h3 : (U2.set p (.lst (t2 ++ [d3])))[p]? = some (.lst (t2 ++ [d3])) := List.getElem?_set_self (lt_of h2)
    have hb3' : Bag S.length (U2.set p (.lst (t2 ++ [d3]))) := hb2'.set hpn
    have hts3 : ∀ x ∈ t2 ++ [d3], Pt 22 8 x := fun x hx => by
      rcases List.mem_append.mp hx with h | h
      · exact hts2 x h
      · rw [List.mem_singleton.mp h]; exact hd3
    have htl3 : (t2 ++ [d3]).length = 13 := by rw [List.length_append, List.length_singleton]; omega
    generalize t2 ++ [d3] = t3 at h3 hb3' hts3 htl3 ⊢
    generalize U2.set p (.lst t3) = U3 at h3 hb3' ⊢
    walk_at "w"
    refine w_slO fun o1 ho1 => ?_
    rw [show (some 1 : Option Int) = some ((1 : Nat) : Int) from rfl, cutD_to] at ho1
    refine w_catO (.inl rfl) ho1 (by rw [List.length_map, List.length_map, List.length_take]; unfold big; omega) fun o2 ho2 => ?_
    have po2 : Pt 22 8 o2 := tupO_pt ho2 (by rw [List.length_append, List.length_map, List.length_map, List.length_take]; omega) fun x hx => by
      rcases List.mem_append.mp hx with h | h
      · exact pLx x h
      · obtain ⟨s, hs, rfl⟩ := List.mem_map.mp h
        exact pLx _ (List.mem_map_of_mem (List.mem_of_mem_take hs))
    refine fl_d (pt_nol po2) ?_
    walk_at "w"
    refine w_catL (xs := t3) (lrd_loc h3) rfl (by unfold big; simp; omega) ?_
    walk_at "w"
    have pk : ∀ k : Int, Pt 22 8 (.tuf [.tuf [.str "a", .tuf [.tuf [.str "b", .int k]]]]) := fun k => by
      have sa : ("a" : Str).length ≤ 1000 ∧ sOk ("a" : Str) := by decide +kernel
      have sb : ("b" : Str).length ≤ 1000 ∧ sOk ("b" : Str) := by decide +kernel
      refine ⟨by simp, fun x hx => ?_⟩
      rw [List.mem_singleton.mp hx]
      refine ⟨by simp, fun x hx => ?_⟩
      simp only [List.mem_cons, List.not_mem_nil, or_false] at hx
      rcases hx with rfl | rfl
      · exact sa
      · refine ⟨by simp, fun x hx => ?_⟩
        rw [List.mem_singleton.mp hx]
        refine ⟨by simp, fun x hx => ?_⟩
        simp only [List.mem_cons, List.not_mem_nil, or_false] at hx
        rcases hx with rfl | rfl
        · exact sb
        · exact trivial
    have pr : Pt 22 8 (.tuf [.tuf [.str "rest", .tuf []]]) := by
      have sa : ("rest" : Str).length ≤ 1000 ∧ sOk ("rest" : Str) := by decide +kernel
      refine ⟨by simp, fun x hx => ?_⟩
      rw [List.mem_singleton.mp hx]
      refine ⟨by simp, fun x hx => ?_⟩
      simp only [List.mem_cons, List.not_mem_nil, or_false] at hx
      rcases hx with rfl | rfl
      · exact sa
      · exact ⟨by simp, fun x hx => nomatch hx⟩
    generalize hT : t3 ++ [o2, .tuf [.tuf [.str "rest", .tuf []]], .tuf [.tuf [.str "a", .tuf [.tuf [.str "b", .int 1000]]]], .tuf [.tuf [.str "a", .tuf [.tuf [.str "b", .int 1001]]]]] = t4
    have hts4 : ∀ x ∈ t4, Pt 22 8 x := fun x hx => by
      rw [← hT] at hx
      rcases List.mem_append.mp hx with h | h
      · exact hts3 x h
      · simp only [List.mem_cons, List.not_mem_nil, or_false] at h
        rcases h with rfl | rfl | rfl | rfl
        · exact po2
        · exact pr
        · exact pk 1000
        · exact pk 1001
    have htl4 : t4.length = 17 := by rw [← hT, List.length_append, htl3]; rfl
    clear hT
    have h4 : (U3 ++ [Ob.lst t4])[U3.length]? = some (.lst t4) := at0
    have hpn4 : U3.length ≠ S.length := hb3'.ne
    have hb4' : Bag S.length (U3 ++ [Ob.lst t4]) := hb3'.push
    generalize U3.length = p4 at h4 hpn4 ⊢
    generalize U3 ++ [Ob.lst t4] = U4 at h4 hb4' ⊢
    refine w_forGo (fun j env S' => ∃ p ts e7 e8 e9 e10 e11, env = [some (.rol (ns.map D.int)), some (.int i), some (.loc S.length), some (.tuf (l.map encT)), some (.tuf (line.map encStep)), some (.int m), some (.loc p), e7, e8, e9, e10, e11] ∧ S'[p]? = some (.lst ts) ∧ p ≠ S.length ∧ Bag S.length S' ∧ ts.length ≤ 17 + 2 * j ∧ ∀ x ∈ ts, Pt 22 8 x) ⟨p4, t4, _, _, _, _, _, rfl, h4, hpn4, hb4', by omega, hts4⟩ ?_ ?_
    · rintro j x env S' hxj ⟨p, ts, e7, e8, e9, e10, e11, rfl, hp, hpn, hbag, htl, hts⟩
      refine ⟨gok_nil, ?_⟩
      have hj : j < 2 := (List.getElem?_eq_some_iff.mp hxj).1
      have px : Pt 20 6 x := by
        have := List.mem_of_getElem? hxj
        simp only [List.mem_cons, List.not_mem_nil, or_false] at this
        rcases this with rfl | rfl
        · exact pl
        · exact pL
      walk_at "w"
      refine SP _ _ _ _ hbag px fun r1 S6 hr1 hb6 f6 l6 => ?_
      walk_at "w"
      refine fl_d (pt_nol hr1) ?_
      walk_at "w"
      refine SP2 _ _ _ _ hb6 hr1 fun r2 S7 hr2 hb7 f7 l7 => ?_
      refine fl_d (pt_nol hr2) ?_
      walk_at "w"
      have hp7 := f7.at (f6.at hp hpn) hpn
      refine w_catL (xs := ts) (lrd_loc hp7) rfl (by unfold big; simp; omega) ?_
      walk_at "w"
      refine ⟨S7.length, ts ++ [r1, r2], _, _, _, _, _, rfl, at0, hb7.ne, hb7.push, by rw [List.length_append]; simp; omega, fun x hx => ?_⟩
      rcases List.mem_append.mp hx with h | h
      · exact hts x h
      · simp only [List.mem_cons, List.not_mem_nil, or_false] at h
        rcases h with rfl | rfl
        · exact hr1.up (by decide) (by decide)
        · exact hr2
    · rintro env S' ⟨p, ts, e7, e8, e9, e10, e11, rfl, hp, hpn, hbag, htl, hts⟩
      refine ⟨gok_nil, ?_⟩
      walk_at "w"
      refine w_forGo (fun j env S2 => S2 = S' ∧ ∃ e10 e11, env = [some (.rol (ns.map D.int)), some (.int i), some (.loc S.length), some (.tuf (l.map encT)), some (.tuf (line.map encStep)), some (.int m), some (.loc p), e7, e8, e9, e10, e11]) ⟨rfl, _, _, rfl⟩ ?_ ?_
      · rintro j x env S2 hxj ⟨rfl, e10, e11, rfl⟩
        have px := hts x (List.mem_of_getElem? hxj)
        refine ⟨gok_cons hp gok_nil, ?_⟩
        walk_at "w"
        refine w_pure (IL x _ _ _ px (by decide)) ?_
        walk_at "w"
        refine w_pure (IN x _ _ _ px (by decide)) ?_
        walk_at "w"
        refine w_pure (LL x _ _ _ px (by decide)) ?_
        walk_at "w"
        refine w_pure (LN x _ _ _ px (by decide)) ?_
        walk_at "w"
        refine w_ne (eq_bools _ _ _) ?_
        walk_at "w"
        refine w_isi rfl ?_
        refine tr_q rfl ?_
        refine br_f ?_
        walk_at "w"
        refine w_isi rfl ?_
        refine tr_q rfl ?_
        refine br_f ?_
        walk_at "w"
        exact ⟨rfl, _, _, rfl⟩
      · rintro env S2 ⟨rfl, e10, e11, rfl⟩
        refine ⟨gok_cons hp gok_nil, ?_⟩
        walk_at "w"
        exact ⟨_, _, _, _, _, _, _, _, _, _, _, rfl⟩
  · rintro env S ⟨e1, e2, e3, e4, e5, e6, e7, e8, e9, e10, e11, rfl⟩
    refine ⟨gok_nil, ?_⟩
    walk_at "w"
    exact tr_ex ⟨S, rfl⟩ rfl rfl
end Bz.K08

set_option Elab.async false
set_option linter.all false
set_option maxRecDepth 100000
set_option maxHeartbeats 4000000
set_option pp.maxSteps 12
namespace Bz.K08
open PySem PySem.Spec PyProof.Rows L2
theorem gives : Gives tab 40 := by
  intro ns hns
  have T : ∀ n, TakeS (semF tab (n + 1) "_law_take") := fun n => by rw [e_law_take]; exact take_ok _
  have O : ∀ n, OfS (semF tab (n + 2) "_law_of") := fun n => by rw [e_law_of]; exact of_ok (T n)
  have B : ∀ n, BagS (semF tab (n + 1) "_law_bag") := fun n => by rw [e_law_bag]; exact bag_ok _
  have L : ∀ n, LoadS (semF tab (n + 3) "_law_load") := fun n => by rw [e_law_load]; exact load_ok (T _) (O n)
  have ST : ∀ n, StepsS (semF tab (n + 3) "_law_steps") := fun n => by rw [e_law_steps]; exact steps_ok (T _) (O n)
  have OD : ∀ n, OddS (semF tab (n + 3) "_law_odd") := fun n => by rw [e_law_odd]; exact odd_ok (O n)
  have SP : ∀ n k c, 1 ≤ c → c < 900 → SpoiltS c n (semF tab (n + k + 4) "_law_spoilt") := by
    intro n
    induction n with
    | zero =>
      intro k c h1 h2
      rw [e_law_spoilt]
      exact spoilt_ok h1 h2 (T (0 + k + 2)) (O (0 + k + 1)) (OD (0 + k)) fun n' h => absurd h (by omega)
    | succ n ih =>
      intro k c h1 h2
      rw [e_law_spoilt]
      refine spoilt_ok h1 h2 (T (n + 1 + k + 2)) (O (n + 1 + k + 1)) (OD (n + 1 + k)) fun n' h => ?_
      have hn : n = n' := by omega
      subst hn
      have := ih k c h1 h2
      rwa [show n + k + 4 = n + 1 + k + 3 by omega] at this
  have FR : ∀ n, FromS (semF tab (n + 1) "is_from") := fun n => by rw [e_is_from]; exact from_gen _
  have NM : ∀ n, NameS (semF tab (n + 1) "is_name") := fun n => by rw [e_is_name]; exact name_S _
  have RI : ∀ n, RisesS (semF tab (n + 1) "rises") := fun n => by rw [e_rises]; exact rises_S _
  have RW : ∀ n, RowsS (semF tab (n + 1) "are_rows") := fun n => by rw [e_are_rows]; exact rows_S _
  have PA : ∀ n, PairsS (semF tab (n + 2) "are_pairs") := fun n => by rw [e_are_pairs]; exact pairs_S (RW n) (NM n) (FR n) (RI n)
  have IL : ∀ n, LoadB (semF tab (n + 3) "is_load") := fun n => by rw [e_is_load]; exact isLoad_S (PA n)
  have IN : ∀ n, LineS (semF tab (n + 3) "is_line") := fun n => by rw [e_is_line]; exact line_S (RW (n + 1)) (NM (n + 1)) (PA n)
  have LF : ∀ n, FromS (semF tab (n + 1) "_law_from") := fun n => by rw [e_law_from]; exact lawFrom_S _
  have LM : ∀ n, NameS (semF tab (n + 1) "_law_is_name") := fun n => by rw [e_law_is_name]; exact lawName_S _
  have LP : ∀ n, LPairsS (semF tab (n + 2) "_law_are_pairs") := fun n => by rw [e_law_are_pairs]; exact lawPairs_S (LM n) (LF n)
  have LL : ∀ n, LoadB (semF tab (n + 3) "_law_is_load") := fun n => by rw [e_law_is_load]; exact lawLoad_S (LP n)
  have LN : ∀ n, LineS (semF tab (n + 3) "_law_is_line") := fun n => by rw [e_law_is_line]; exact lawLine_S (LM (n + 1)) (LP n)
  have h := law_ok (F := semF tab 39) (B 38) (T 38) (L 36) (ST 36) (OD 36) (SP 6 29 20 (by decide) (by decide)) (SP 7 28 21 (by decide) (by decide)) (IL 36) (IN 36) (LL 36) (LN 36) ns hns
  rw [← e_law] at h
  obtain ⟨d, S, e, rfl⟩ := h
  exact ⟨S, e⟩
end Bz.K08
namespace Bz.K08
open PySem PySem.Spec PyProof.Rows L2
theorem fs_is_from : FnScope f_is_from.N f_is_from.ps (defScope f_is_from.st) := ⟨rfl, rfl, rfl, by decide +kernel, rfl, by decide +kernel, by decide +kernel⟩
theorem fb_is_from (kV doc pm : Value) (an : Option Addr) (cdv ct : Value) (us : List Value) (hl : us.length = f_is_from.ps.length) : bindArgs (PySem.W.fnOf f_is_from.name f_is_from.name (defArgs f_is_from.st) (defBody f_is_from.st) (defScope f_is_from.st) .none kV doc pm an cdv ct) ⟨us, []⟩ = pure (f_is_from.ps.zip us) := match us, hl with | [_, _, _], _ => rfl
theorem fs_is_name : FnScope f_is_name.N f_is_name.ps (defScope f_is_name.st) := ⟨rfl, rfl, rfl, by decide +kernel, rfl, by decide +kernel, by decide +kernel⟩
theorem fb_is_name (kV doc pm : Value) (an : Option Addr) (cdv ct : Value) (us : List Value) (hl : us.length = f_is_name.ps.length) : bindArgs (PySem.W.fnOf f_is_name.name f_is_name.name (defArgs f_is_name.st) (defBody f_is_name.st) (defScope f_is_name.st) .none kV doc pm an cdv ct) ⟨us, []⟩ = pure (f_is_name.ps.zip us) := match us, hl with | [_], _ => rfl
theorem fs_rises : FnScope f_rises.N f_rises.ps (defScope f_rises.st) := ⟨rfl, rfl, rfl, by decide +kernel, rfl, by decide +kernel, by decide +kernel⟩
theorem fb_rises (kV doc pm : Value) (an : Option Addr) (cdv ct : Value) (us : List Value) (hl : us.length = f_rises.ps.length) : bindArgs (PySem.W.fnOf f_rises.name f_rises.name (defArgs f_rises.st) (defBody f_rises.st) (defScope f_rises.st) .none kV doc pm an cdv ct) ⟨us, []⟩ = pure (f_rises.ps.zip us) := match us, hl with | [_], _ => rfl
theorem fs_are_rows : FnScope f_are_rows.N f_are_rows.ps (defScope f_are_rows.st) := ⟨rfl, rfl, rfl, by decide +kernel, rfl, by decide +kernel, by decide +kernel⟩
theorem fb_are_rows (kV doc pm : Value) (an : Option Addr) (cdv ct : Value) (us : List Value) (hl : us.length = f_are_rows.ps.length) : bindArgs (PySem.W.fnOf f_are_rows.name f_are_rows.name (defArgs f_are_rows.st) (defBody f_are_rows.st) (defScope f_are_rows.st) .none kV doc pm an cdv ct) ⟨us, []⟩ = pure (f_are_rows.ps.zip us) := match us, hl with | [_, _, _], _ => rfl
theorem fs_are_pairs : FnScope f_are_pairs.N f_are_pairs.ps (defScope f_are_pairs.st) := ⟨rfl, rfl, rfl, by decide +kernel, rfl, by decide +kernel, by decide +kernel⟩
theorem fb_are_pairs (kV doc pm : Value) (an : Option Addr) (cdv ct : Value) (us : List Value) (hl : us.length = f_are_pairs.ps.length) : bindArgs (PySem.W.fnOf f_are_pairs.name f_are_pairs.name (defArgs f_are_pairs.st) (defBody f_are_pairs.st) (defScope f_are_pairs.st) .none kV doc pm an cdv ct) ⟨us, []⟩ = pure (f_are_pairs.ps.zip us) := match us, hl with | [_, _, _, _], _ => rfl
theorem fs_is_load : FnScope f_is_load.N f_is_load.ps (defScope f_is_load.st) := ⟨rfl, rfl, rfl, by decide +kernel, rfl, by decide +kernel, by decide +kernel⟩
theorem fb_is_load (kV doc pm : Value) (an : Option Addr) (cdv ct : Value) (us : List Value) (hl : us.length = f_is_load.ps.length) : bindArgs (PySem.W.fnOf f_is_load.name f_is_load.name (defArgs f_is_load.st) (defBody f_is_load.st) (defScope f_is_load.st) .none kV doc pm an cdv ct) ⟨us, []⟩ = pure (f_is_load.ps.zip us) := match us, hl with | [_], _ => rfl
theorem fs_is_line : FnScope f_is_line.N f_is_line.ps (defScope f_is_line.st) := ⟨rfl, rfl, rfl, by decide +kernel, rfl, by decide +kernel, by decide +kernel⟩
theorem fb_is_line (kV doc pm : Value) (an : Option Addr) (cdv ct : Value) (us : List Value) (hl : us.length = f_is_line.ps.length) : bindArgs (PySem.W.fnOf f_is_line.name f_is_line.name (defArgs f_is_line.st) (defBody f_is_line.st) (defScope f_is_line.st) .none kV doc pm an cdv ct) ⟨us, []⟩ = pure (f_is_line.ps.zip us) := match us, hl with | [_], _ => rfl
theorem fs_law_bag : FnScope f_law_bag.N f_law_bag.ps (defScope f_law_bag.st) := ⟨rfl, rfl, rfl, by decide +kernel, rfl, by decide +kernel, by decide +kernel⟩
theorem fb_law_bag (kV doc pm : Value) (an : Option Addr) (cdv ct : Value) (us : List Value) (hl : us.length = f_law_bag.ps.length) : bindArgs (PySem.W.fnOf f_law_bag.name f_law_bag.name (defArgs f_law_bag.st) (defBody f_law_bag.st) (defScope f_law_bag.st) .none kV doc pm an cdv ct) ⟨us, []⟩ = pure (f_law_bag.ps.zip us) := match us, hl with | [_, _], _ => rfl
theorem fs_law_take : FnScope f_law_take.N f_law_take.ps (defScope f_law_take.st) := ⟨rfl, rfl, rfl, by decide +kernel, rfl, by decide +kernel, by decide +kernel⟩
theorem fb_law_take (kV doc pm : Value) (an : Option Addr) (cdv ct : Value) (us : List Value) (hl : us.length = f_law_take.ps.length) : bindArgs (PySem.W.fnOf f_law_take.name f_law_take.name (defArgs f_law_take.st) (defBody f_law_take.st) (defScope f_law_take.st) .none kV doc pm an cdv ct) ⟨us, []⟩ = pure (f_law_take.ps.zip us) := match us, hl with | [_, _], _ => rfl
theorem fs_law_of : FnScope f_law_of.N f_law_of.ps (defScope f_law_of.st) := ⟨rfl, rfl, rfl, by decide +kernel, rfl, by decide +kernel, by decide +kernel⟩
theorem fb_law_of (kV doc pm : Value) (an : Option Addr) (cdv ct : Value) (us : List Value) (hl : us.length = f_law_of.ps.length) : bindArgs (PySem.W.fnOf f_law_of.name f_law_of.name (defArgs f_law_of.st) (defBody f_law_of.st) (defScope f_law_of.st) .none kV doc pm an cdv ct) ⟨us, []⟩ = pure (f_law_of.ps.zip us) := match us, hl with | [_, _], _ => rfl
theorem fs_law_load : FnScope f_law_load.N f_law_load.ps (defScope f_law_load.st) := ⟨rfl, rfl, rfl, by decide +kernel, rfl, by decide +kernel, by decide +kernel⟩
theorem fb_law_load (kV doc pm : Value) (an : Option Addr) (cdv ct : Value) (us : List Value) (hl : us.length = f_law_load.ps.length) : bindArgs (PySem.W.fnOf f_law_load.name f_law_load.name (defArgs f_law_load.st) (defBody f_law_load.st) (defScope f_law_load.st) .none kV doc pm an cdv ct) ⟨us, []⟩ = pure (f_law_load.ps.zip us) := match us, hl with | [_, _], _ => rfl
theorem fs_law_steps : FnScope f_law_steps.N f_law_steps.ps (defScope f_law_steps.st) := ⟨rfl, rfl, rfl, by decide +kernel, rfl, by decide +kernel, by decide +kernel⟩
theorem fb_law_steps (kV doc pm : Value) (an : Option Addr) (cdv ct : Value) (us : List Value) (hl : us.length = f_law_steps.ps.length) : bindArgs (PySem.W.fnOf f_law_steps.name f_law_steps.name (defArgs f_law_steps.st) (defBody f_law_steps.st) (defScope f_law_steps.st) .none kV doc pm an cdv ct) ⟨us, []⟩ = pure (f_law_steps.ps.zip us) := match us, hl with | [_], _ => rfl
theorem fs_law_from : FnScope f_law_from.N f_law_from.ps (defScope f_law_from.st) := ⟨rfl, rfl, rfl, by decide +kernel, rfl, by decide +kernel, by decide +kernel⟩
theorem fb_law_from (kV doc pm : Value) (an : Option Addr) (cdv ct : Value) (us : List Value) (hl : us.length = f_law_from.ps.length) : bindArgs (PySem.W.fnOf f_law_from.name f_law_from.name (defArgs f_law_from.st) (defBody f_law_from.st) (defScope f_law_from.st) .none kV doc pm an cdv ct) ⟨us, []⟩ = pure (f_law_from.ps.zip us) := match us, hl with | [_, _, _], _ => rfl
theorem fs_law_is_name : FnScope f_law_is_name.N f_law_is_name.ps (defScope f_law_is_name.st) := ⟨rfl, rfl, rfl, by decide +kernel, rfl, by decide +kernel, by decide +kernel⟩
theorem fb_law_is_name (kV doc pm : Value) (an : Option Addr) (cdv ct : Value) (us : List Value) (hl : us.length = f_law_is_name.ps.length) : bindArgs (PySem.W.fnOf f_law_is_name.name f_law_is_name.name (defArgs f_law_is_name.st) (defBody f_law_is_name.st) (defScope f_law_is_name.st) .none kV doc pm an cdv ct) ⟨us, []⟩ = pure (f_law_is_name.ps.zip us) := match us, hl with | [_], _ => rfl
theorem fs_law_are_pairs : FnScope f_law_are_pairs.N f_law_are_pairs.ps (defScope f_law_are_pairs.st) := ⟨rfl, rfl, rfl, by decide +kernel, rfl, by decide +kernel, by decide +kernel⟩
theorem fb_law_are_pairs (kV doc pm : Value) (an : Option Addr) (cdv ct : Value) (us : List Value) (hl : us.length = f_law_are_pairs.ps.length) : bindArgs (PySem.W.fnOf f_law_are_pairs.name f_law_are_pairs.name (defArgs f_law_are_pairs.st) (defBody f_law_are_pairs.st) (defScope f_law_are_pairs.st) .none kV doc pm an cdv ct) ⟨us, []⟩ = pure (f_law_are_pairs.ps.zip us) := match us, hl with | [_, _, _], _ => rfl
theorem fs_law_odd : FnScope f_law_odd.N f_law_odd.ps (defScope f_law_odd.st) := ⟨rfl, rfl, rfl, by decide +kernel, rfl, by decide +kernel, by decide +kernel⟩
theorem fb_law_odd (kV doc pm : Value) (an : Option Addr) (cdv ct : Value) (us : List Value) (hl : us.length = f_law_odd.ps.length) : bindArgs (PySem.W.fnOf f_law_odd.name f_law_odd.name (defArgs f_law_odd.st) (defBody f_law_odd.st) (defScope f_law_odd.st) .none kV doc pm an cdv ct) ⟨us, []⟩ = pure (f_law_odd.ps.zip us) := match us, hl with | [_], _ => rfl
theorem fs_law_spoilt : FnScope f_law_spoilt.N f_law_spoilt.ps (defScope f_law_spoilt.st) := ⟨rfl, rfl, rfl, by decide +kernel, rfl, by decide +kernel, by decide +kernel⟩
theorem fb_law_spoilt (kV doc pm : Value) (an : Option Addr) (cdv ct : Value) (us : List Value) (hl : us.length = f_law_spoilt.ps.length) : bindArgs (PySem.W.fnOf f_law_spoilt.name f_law_spoilt.name (defArgs f_law_spoilt.st) (defBody f_law_spoilt.st) (defScope f_law_spoilt.st) .none kV doc pm an cdv ct) ⟨us, []⟩ = pure (f_law_spoilt.ps.zip us) := match us, hl with | [_, _], _ => rfl
theorem fs_law_is_load : FnScope f_law_is_load.N f_law_is_load.ps (defScope f_law_is_load.st) := ⟨rfl, rfl, rfl, by decide +kernel, rfl, by decide +kernel, by decide +kernel⟩
theorem fb_law_is_load (kV doc pm : Value) (an : Option Addr) (cdv ct : Value) (us : List Value) (hl : us.length = f_law_is_load.ps.length) : bindArgs (PySem.W.fnOf f_law_is_load.name f_law_is_load.name (defArgs f_law_is_load.st) (defBody f_law_is_load.st) (defScope f_law_is_load.st) .none kV doc pm an cdv ct) ⟨us, []⟩ = pure (f_law_is_load.ps.zip us) := match us, hl with | [_], _ => rfl
theorem fs_law_is_line : FnScope f_law_is_line.N f_law_is_line.ps (defScope f_law_is_line.st) := ⟨rfl, rfl, rfl, by decide +kernel, rfl, by decide +kernel, by decide +kernel⟩
theorem fb_law_is_line (kV doc pm : Value) (an : Option Addr) (cdv ct : Value) (us : List Value) (hl : us.length = f_law_is_line.ps.length) : bindArgs (PySem.W.fnOf f_law_is_line.name f_law_is_line.name (defArgs f_law_is_line.st) (defBody f_law_is_line.st) (defScope f_law_is_line.st) .none kV doc pm an cdv ct) ⟨us, []⟩ = pure (f_law_is_line.ps.zip us) := match us, hl with | [_], _ => rfl
theorem fs_law : FnScope f_law.N f_law.ps (defScope f_law.st) := ⟨rfl, rfl, rfl, by decide +kernel, rfl, by decide +kernel, by decide +kernel⟩
theorem fb_law (kV doc pm : Value) (an : Option Addr) (cdv ct : Value) (us : List Value) (hl : us.length = f_law.ps.length) : bindArgs (PySem.W.fnOf f_law.name f_law.name (defArgs f_law.st) (defBody f_law.st) (defScope f_law.st) .none kV doc pm an cdv ct) ⟨us, []⟩ = pure (f_law.ps.zip us) := match us, hl with | [_], _ => rfl
theorem all_mk {w : World} {K : PySem.W.Frag} {h : Heap} {mg : Str → Option Value} {fa f1 f2 f3 f4 f5 f6 f7 f8 f9 f10 f11 f12 f13 f14 f15 f16 f17 f18 f19 f20 : Addr} (X : K.In h) (G : h.Ns mainGlobals mg) (hfa : mg "law" = some (.ref fa))
    {od1 an1 od2 an2 od3 an3 od4 an4 od5 an5 od6 an6 od7 an7 od8 an8 od9 an9 od10 an10 od11 an11 od12 an12 od13 an13 od14 an14 od15 an15 od16 an16 od17 an17 od18 an18 od19 an19 od20 an20 : Option Addr} {sl1 sl2 sl3 sl4 sl5 sl6 sl7 sl8 sl9 sl10 sl11 sl12 sl13 sl14 sl15 sl16 sl17 sl18 sl19 sl20 : Array (Option Value)} {oc1 kV1 dc1 pm1 cd1 ct1 oc2 kV2 dc2 pm2 cd2 ct2 oc3 kV3 dc3 pm3 cd3 ct3 oc4 kV4 dc4 pm4 cd4 ct4 oc5 kV5 dc5 pm5 cd5 ct5 oc6 kV6 dc6 pm6 cd6 ct6 oc7 kV7 dc7 pm7 cd7 ct7 oc8 kV8 dc8 pm8 cd8 ct8 oc9 kV9 dc9 pm9 cd9 ct9 oc10 kV10 dc10 pm10 cd10 ct10 oc11 kV11 dc11 pm11 cd11 ct11 oc12 kV12 dc12 pm12 cd12 ct12 oc13 kV13 dc13 pm13 cd13 ct13 oc14 kV14 dc14 pm14 cd14 ct14 oc15 kV15 dc15 pm15 cd15 ct15 oc16 kV16 dc16 pm16 cd16 ct16 oc17 kV17 dc17 pm17 cd17 ct17 oc18 kV18 dc18 pm18 cd18 ct18 oc19 kV19 dc19 pm19 cd19 ct19 oc20 kV20 dc20 pm20 cd20 ct20 : Value}
    (a1 : PySem.W.nsIn K mainGlobals "is_from" = some (some (.ref f1))) (l1 : K.lookup f1 = some ⟨oc1, od1, .func (PySem.W.fnOf "is_from" "is_from" (defArgs f_is_from.st) (defBody f_is_from.st) (defScope f_is_from.st) .none kV1 dc1 pm1 an1 cd1 ct1), sl1⟩) (c1 : PySem.W.codeIn K cd1 "is_from" = true) (k1 : PySem.W.keepIn K (.ref f1) = true)
    (a2 : PySem.W.nsIn K mainGlobals "is_name" = some (some (.ref f2))) (l2 : K.lookup f2 = some ⟨oc2, od2, .func (PySem.W.fnOf "is_name" "is_name" (defArgs f_is_name.st) (defBody f_is_name.st) (defScope f_is_name.st) .none kV2 dc2 pm2 an2 cd2 ct2), sl2⟩) (c2 : PySem.W.codeIn K cd2 "is_name" = true) (k2 : PySem.W.keepIn K (.ref f2) = true)
    (a3 : PySem.W.nsIn K mainGlobals "rises" = some (some (.ref f3))) (l3 : K.lookup f3 = some ⟨oc3, od3, .func (PySem.W.fnOf "rises" "rises" (defArgs f_rises.st) (defBody f_rises.st) (defScope f_rises.st) .none kV3 dc3 pm3 an3 cd3 ct3), sl3⟩) (c3 : PySem.W.codeIn K cd3 "rises" = true) (k3 : PySem.W.keepIn K (.ref f3) = true)
    (a4 : PySem.W.nsIn K mainGlobals "are_rows" = some (some (.ref f4))) (l4 : K.lookup f4 = some ⟨oc4, od4, .func (PySem.W.fnOf "are_rows" "are_rows" (defArgs f_are_rows.st) (defBody f_are_rows.st) (defScope f_are_rows.st) .none kV4 dc4 pm4 an4 cd4 ct4), sl4⟩) (c4 : PySem.W.codeIn K cd4 "are_rows" = true) (k4 : PySem.W.keepIn K (.ref f4) = true)
    (a5 : PySem.W.nsIn K mainGlobals "are_pairs" = some (some (.ref f5))) (l5 : K.lookup f5 = some ⟨oc5, od5, .func (PySem.W.fnOf "are_pairs" "are_pairs" (defArgs f_are_pairs.st) (defBody f_are_pairs.st) (defScope f_are_pairs.st) .none kV5 dc5 pm5 an5 cd5 ct5), sl5⟩) (c5 : PySem.W.codeIn K cd5 "are_pairs" = true) (k5 : PySem.W.keepIn K (.ref f5) = true)
    (a6 : PySem.W.nsIn K mainGlobals "is_load" = some (some (.ref f6))) (l6 : K.lookup f6 = some ⟨oc6, od6, .func (PySem.W.fnOf "is_load" "is_load" (defArgs f_is_load.st) (defBody f_is_load.st) (defScope f_is_load.st) .none kV6 dc6 pm6 an6 cd6 ct6), sl6⟩) (c6 : PySem.W.codeIn K cd6 "is_load" = true) (k6 : PySem.W.keepIn K (.ref f6) = true)
    (a7 : PySem.W.nsIn K mainGlobals "is_line" = some (some (.ref f7))) (l7 : K.lookup f7 = some ⟨oc7, od7, .func (PySem.W.fnOf "is_line" "is_line" (defArgs f_is_line.st) (defBody f_is_line.st) (defScope f_is_line.st) .none kV7 dc7 pm7 an7 cd7 ct7), sl7⟩) (c7 : PySem.W.codeIn K cd7 "is_line" = true) (k7 : PySem.W.keepIn K (.ref f7) = true)
    (a8 : PySem.W.nsIn K mainGlobals "_law_bag" = some (some (.ref f8))) (l8 : K.lookup f8 = some ⟨oc8, od8, .func (PySem.W.fnOf "_law_bag" "_law_bag" (defArgs f_law_bag.st) (defBody f_law_bag.st) (defScope f_law_bag.st) .none kV8 dc8 pm8 an8 cd8 ct8), sl8⟩) (c8 : PySem.W.codeIn K cd8 "_law_bag" = true) (k8 : PySem.W.keepIn K (.ref f8) = true)
    (a9 : PySem.W.nsIn K mainGlobals "_law_take" = some (some (.ref f9))) (l9 : K.lookup f9 = some ⟨oc9, od9, .func (PySem.W.fnOf "_law_take" "_law_take" (defArgs f_law_take.st) (defBody f_law_take.st) (defScope f_law_take.st) .none kV9 dc9 pm9 an9 cd9 ct9), sl9⟩) (c9 : PySem.W.codeIn K cd9 "_law_take" = true) (k9 : PySem.W.keepIn K (.ref f9) = true)
    (a10 : PySem.W.nsIn K mainGlobals "_law_of" = some (some (.ref f10))) (l10 : K.lookup f10 = some ⟨oc10, od10, .func (PySem.W.fnOf "_law_of" "_law_of" (defArgs f_law_of.st) (defBody f_law_of.st) (defScope f_law_of.st) .none kV10 dc10 pm10 an10 cd10 ct10), sl10⟩) (c10 : PySem.W.codeIn K cd10 "_law_of" = true) (k10 : PySem.W.keepIn K (.ref f10) = true)
    (a11 : PySem.W.nsIn K mainGlobals "_law_load" = some (some (.ref f11))) (l11 : K.lookup f11 = some ⟨oc11, od11, .func (PySem.W.fnOf "_law_load" "_law_load" (defArgs f_law_load.st) (defBody f_law_load.st) (defScope f_law_load.st) .none kV11 dc11 pm11 an11 cd11 ct11), sl11⟩) (c11 : PySem.W.codeIn K cd11 "_law_load" = true) (k11 : PySem.W.keepIn K (.ref f11) = true)
    (a12 : PySem.W.nsIn K mainGlobals "_law_steps" = some (some (.ref f12))) (l12 : K.lookup f12 = some ⟨oc12, od12, .func (PySem.W.fnOf "_law_steps" "_law_steps" (defArgs f_law_steps.st) (defBody f_law_steps.st) (defScope f_law_steps.st) .none kV12 dc12 pm12 an12 cd12 ct12), sl12⟩) (c12 : PySem.W.codeIn K cd12 "_law_steps" = true) (k12 : PySem.W.keepIn K (.ref f12) = true)
    (a13 : PySem.W.nsIn K mainGlobals "_law_from" = some (some (.ref f13))) (l13 : K.lookup f13 = some ⟨oc13, od13, .func (PySem.W.fnOf "_law_from" "_law_from" (defArgs f_law_from.st) (defBody f_law_from.st) (defScope f_law_from.st) .none kV13 dc13 pm13 an13 cd13 ct13), sl13⟩) (c13 : PySem.W.codeIn K cd13 "_law_from" = true) (k13 : PySem.W.keepIn K (.ref f13) = true)
    (a14 : PySem.W.nsIn K mainGlobals "_law_is_name" = some (some (.ref f14))) (l14 : K.lookup f14 = some ⟨oc14, od14, .func (PySem.W.fnOf "_law_is_name" "_law_is_name" (defArgs f_law_is_name.st) (defBody f_law_is_name.st) (defScope f_law_is_name.st) .none kV14 dc14 pm14 an14 cd14 ct14), sl14⟩) (c14 : PySem.W.codeIn K cd14 "_law_is_name" = true) (k14 : PySem.W.keepIn K (.ref f14) = true)
    (a15 : PySem.W.nsIn K mainGlobals "_law_are_pairs" = some (some (.ref f15))) (l15 : K.lookup f15 = some ⟨oc15, od15, .func (PySem.W.fnOf "_law_are_pairs" "_law_are_pairs" (defArgs f_law_are_pairs.st) (defBody f_law_are_pairs.st) (defScope f_law_are_pairs.st) .none kV15 dc15 pm15 an15 cd15 ct15), sl15⟩) (c15 : PySem.W.codeIn K cd15 "_law_are_pairs" = true) (k15 : PySem.W.keepIn K (.ref f15) = true)
    (a16 : PySem.W.nsIn K mainGlobals "_law_odd" = some (some (.ref f16))) (l16 : K.lookup f16 = some ⟨oc16, od16, .func (PySem.W.fnOf "_law_odd" "_law_odd" (defArgs f_law_odd.st) (defBody f_law_odd.st) (defScope f_law_odd.st) .none kV16 dc16 pm16 an16 cd16 ct16), sl16⟩) (c16 : PySem.W.codeIn K cd16 "_law_odd" = true) (k16 : PySem.W.keepIn K (.ref f16) = true)
    (a17 : PySem.W.nsIn K mainGlobals "_law_spoilt" = some (some (.ref f17))) (l17 : K.lookup f17 = some ⟨oc17, od17, .func (PySem.W.fnOf "_law_spoilt" "_law_spoilt" (defArgs f_law_spoilt.st) (defBody f_law_spoilt.st) (defScope f_law_spoilt.st) .none kV17 dc17 pm17 an17 cd17 ct17), sl17⟩) (c17 : PySem.W.codeIn K cd17 "_law_spoilt" = true) (k17 : PySem.W.keepIn K (.ref f17) = true)
    (a18 : PySem.W.nsIn K mainGlobals "_law_is_load" = some (some (.ref f18))) (l18 : K.lookup f18 = some ⟨oc18, od18, .func (PySem.W.fnOf "_law_is_load" "_law_is_load" (defArgs f_law_is_load.st) (defBody f_law_is_load.st) (defScope f_law_is_load.st) .none kV18 dc18 pm18 an18 cd18 ct18), sl18⟩) (c18 : PySem.W.codeIn K cd18 "_law_is_load" = true) (k18 : PySem.W.keepIn K (.ref f18) = true)
    (a19 : PySem.W.nsIn K mainGlobals "_law_is_line" = some (some (.ref f19))) (l19 : K.lookup f19 = some ⟨oc19, od19, .func (PySem.W.fnOf "_law_is_line" "_law_is_line" (defArgs f_law_is_line.st) (defBody f_law_is_line.st) (defScope f_law_is_line.st) .none kV19 dc19 pm19 an19 cd19 ct19), sl19⟩) (c19 : PySem.W.codeIn K cd19 "_law_is_line" = true) (k19 : PySem.W.keepIn K (.ref f19) = true)
    (a20 : PySem.W.nsIn K mainGlobals "law" = some (some (.ref f20))) (l20 : K.lookup f20 = some ⟨oc20, od20, .func (PySem.W.fnOf "law" "law" (defArgs f_law.st) (defBody f_law.st) (defScope f_law.st) .none kV20 dc20 pm20 an20 cd20 ct20), sl20⟩) (c20 : PySem.W.codeIn K cd20 "law" = true) (k20 : PySem.W.keepIn K (.ref f20) = true)
    {tg1 tg2 tg3 : Tok}
    (g1 : PySem.W.nsIn K mainGlobals "MOST_KINDS" = some (some (.int 6 tg1))) (g2 : PySem.W.nsIn K mainGlobals "MOST_STEPS" = some (some (.int 5 tg2))) (g3 : PySem.W.nsIn K mainGlobals "MOST_GRAMS" = some (some (.int 1000000000 tg3)))
    (z1 : PySem.W.nsIn K mainGlobals "len" = some none) (z2 : PySem.W.nsIn K mainGlobals "abs" = some none) (z3 : PySem.W.nsIn K mainGlobals "max" = some none) (z4 : PySem.W.nsIn K mainGlobals "min" = some none) (z5 : PySem.W.nsIn K mainGlobals "sum" = some none) (z6 : PySem.W.nsIn K mainGlobals "all" = some none) (z7 : PySem.W.nsIn K mainGlobals "list" = some none) (z8 : PySem.W.nsIn K mainGlobals "tuple" = some none) (z9 : PySem.W.nsIn K mainGlobals "isinstance" = some none) (z10 : PySem.W.nsIn K mainGlobals "int" = some none) (z11 : PySem.W.nsIn K mainGlobals "bool" = some none) (z12 : PySem.W.nsIn K mainGlobals "str" = some none) (z13 : PySem.W.nsIn K mainGlobals "dict" = some none) (z14 : PySem.W.nsIn K mainGlobals "range" = some none) (z15 : PySem.W.nsIn K mainGlobals "zip" = some none) (z16 : PySem.W.nsIn K mainGlobals "sorted" = some none) (z17 : PySem.W.nsIn K mainGlobals "set" = some none) (z18 : PySem.W.nsIn K mainGlobals "enumerate" = some none) :
    ∃ fd : FuncData, (∀ (s : Shared) (v : Value), BindsTo s fd ⟨[v], []⟩ [("script", v)]) ∧ ∀ base : Heap, K.In base → base.Ns mainGlobals mg → FnOk PySem.Challenge.rw_binround_k08_what_are_loads_and_lines.prog w K mg base CX0 40 fa fd ["script"] (spTop K) := by
  have e := hfa.symm.trans (PySem.W.mg_of X G a20)
  cases e
  have hgl : ∀ x i, (gls : List (Str × Int)).lookup x = some i → ∃ t, mg x = some (.int i t) := (gl_cons X G g1 (gl_cons X G g2 (gl_cons X G g3 gl_nil)))
  have F1 := fd_mk (fd := f_is_from) X G a1 l1 c1 k1 fs_is_from fb_is_from hgl
  have F2 := fd_mk (fd := f_is_name) X G a2 l2 c2 k2 fs_is_name fb_is_name hgl
  have F3 := fd_mk (fd := f_rises) X G a3 l3 c3 k3 fs_rises fb_rises hgl
  have F4 := fd_mk (fd := f_are_rows) X G a4 l4 c4 k4 fs_are_rows fb_are_rows hgl
  have F5 := fd_mk (fd := f_are_pairs) X G a5 l5 c5 k5 fs_are_pairs fb_are_pairs hgl
  have F6 := fd_mk (fd := f_is_load) X G a6 l6 c6 k6 fs_is_load fb_is_load hgl
  have F7 := fd_mk (fd := f_is_line) X G a7 l7 c7 k7 fs_is_line fb_is_line hgl
  have F8 := fd_mk (fd := f_law_bag) X G a8 l8 c8 k8 fs_law_bag fb_law_bag hgl
  have F9 := fd_mk (fd := f_law_take) X G a9 l9 c9 k9 fs_law_take fb_law_take hgl
  have F10 := fd_mk (fd := f_law_of) X G a10 l10 c10 k10 fs_law_of fb_law_of hgl
  have F11 := fd_mk (fd := f_law_load) X G a11 l11 c11 k11 fs_law_load fb_law_load hgl
  have F12 := fd_mk (fd := f_law_steps) X G a12 l12 c12 k12 fs_law_steps fb_law_steps hgl
  have F13 := fd_mk (fd := f_law_from) X G a13 l13 c13 k13 fs_law_from fb_law_from hgl
  have F14 := fd_mk (fd := f_law_is_name) X G a14 l14 c14 k14 fs_law_is_name fb_law_is_name hgl
  have F15 := fd_mk (fd := f_law_are_pairs) X G a15 l15 c15 k15 fs_law_are_pairs fb_law_are_pairs hgl
  have F16 := fd_mk (fd := f_law_odd) X G a16 l16 c16 k16 fs_law_odd fb_law_odd hgl
  have F17 := fd_mk (fd := f_law_spoilt) X G a17 l17 c17 k17 fs_law_spoilt fb_law_spoilt hgl
  have F18 := fd_mk (fd := f_law_is_load) X G a18 l18 c18 k18 fs_law_is_load fb_law_is_load hgl
  have F19 := fd_mk (fd := f_law_is_line) X G a19 l19 c19 k19 fs_law_is_line fb_law_is_line hgl
  have F20 := fd_mk (fd := f_law) X G a20 l20 c20 k20 fs_law fb_law hgl
  have hT : ∀ fd ∈ tab, ∃ f dat, FdOk K mg fd f dat := by
    intro fd h
    simp only [List.mem_cons, List.not_mem_nil, or_false] at h
    rcases h with rfl | rfl | rfl | rfl | rfl | rfl | rfl | rfl | rfl | rfl | rfl | rfl | rfl | rfl | rfl | rfl | rfl | rfl | rfl | rfl
    · exact ⟨_, _, F1⟩
    · exact ⟨_, _, F2⟩
    · exact ⟨_, _, F3⟩
    · exact ⟨_, _, F4⟩
    · exact ⟨_, _, F5⟩
    · exact ⟨_, _, F6⟩
    · exact ⟨_, _, F7⟩
    · exact ⟨_, _, F8⟩
    · exact ⟨_, _, F9⟩
    · exact ⟨_, _, F10⟩
    · exact ⟨_, _, F11⟩
    · exact ⟨_, _, F12⟩
    · exact ⟨_, _, F13⟩
    · exact ⟨_, _, F14⟩
    · exact ⟨_, _, F15⟩
    · exact ⟨_, _, F16⟩
    · exact ⟨_, _, F17⟩
    · exact ⟨_, _, F18⟩
    · exact ⟨_, _, F19⟩
    · exact ⟨_, _, F20⟩
  have hb : ∀ x ∈ bltNames, mg x = none := blt_mk X G z1 z2 z3 z4 z5 z6 z7 z8 z9 z10 z11 z12 z13 z14 z15 z16 z17 z18
  have hu : ∀ fd ∈ tab, findFD tab fd.name = some fd := by
    intro fd h
    simp only [List.mem_cons, List.not_mem_nil, or_false] at h
    rcases h with rfl | rfl | rfl | rfl | rfl | rfl | rfl | rfl | rfl | rfl | rfl | rfl | rfl | rfl | rfl | rfl | rfl | rfl | rfl | rfl <;> rfl
  exact ⟨PySem.W.fnOf "law" "law" (defArgs f_law.st) (defBody f_law.st) (defScope f_law.st) .none kV20 dc20 pm20 an20 cd20 ct20, fun s v => .of_eq rfl, fun base _ _ => top_ok rfl (fn_all hu hT hb 40 f_law (by simp [tab]) _ _ F20) gives⟩
end Bz.K08
open PySem PySem.W PyProof.Rows
set_option maxRecDepth 100000
set_option maxHeartbeats 0 in
theorem PySem.Challenge.cw_binround_k08_what_are_loads_and_lines_holds : PySem.Challenge.rw_binround_k08_what_are_loads_and_lines.Holds := by
  w_on; o_law; k_head; (case hw => w_witness2)
  k_fill
  refine L2.walk_of (l := PySem.Challenge.rw_binround_k08_what_are_loads_and_lines) (n := 63) (k := 40) (x := "script") (CX := fun _ => L2.CX0) (sp := fun w => Bz.spTop _) rfl (by decide) rfl ⟨rfl, by decide, by decide⟩ (fun w h Y => PySem.W.kIn_of Y) ?F (fun _ H a ns hl hO hS => ⟨a, ns, rfl, hl, hO, hS, fun _ => rfl⟩) (fun _ _ _ _ _ h => h)
  case F =>
    intro w mg fa h KX G hmg
    refine' Bz.K08.all_mk KX G hmg ?a1 ?l1 ?c1 ?k1 ?a2 ?l2 ?c2 ?k2 ?a3 ?l3 ?c3 ?k3 ?a4 ?l4 ?c4 ?k4 ?a5 ?l5 ?c5 ?k5 ?a6 ?l6 ?c6 ?k6 ?a7 ?l7 ?c7 ?k7 ?a8 ?l8 ?c8 ?k8 ?a9 ?l9 ?c9 ?k9 ?a10 ?l10 ?c10 ?k10 ?a11 ?l11 ?c11 ?k11 ?a12 ?l12 ?c12 ?k12 ?a13 ?l13 ?c13 ?k13 ?a14 ?l14 ?c14 ?k14 ?a15 ?l15 ?c15 ?k15 ?a16 ?l16 ?c16 ?k16 ?a17 ?l17 ?c17 ?k17 ?a18 ?l18 ?c18 ?k18 ?a19 ?l19 ?c19 ?k19 ?a20 ?l20 ?c20 ?k20 ?g1 ?g2 ?g3 ?z1 ?z2 ?z3 ?z4 ?z5 ?z6 ?z7 ?z8 ?z9 ?z10 ?z11 ?z12 ?z13 ?z14 ?z15 ?z16 ?z17 ?z18
    (case a1 => k_is); (case l1 => k_is); (case c1 => k_is); (case k1 => k_is); (case a2 => k_is); (case l2 => k_is); (case c2 => k_is); (case k2 => k_is); (case a3 => k_is); (case l3 => k_is); (case c3 => k_is); (case k3 => k_is); (case a4 => k_is); (case l4 => k_is); (case c4 => k_is); (case k4 => k_is); (case a5 => k_is); (case l5 => k_is); (case c5 => k_is); (case k5 => k_is); (case a6 => k_is); (case l6 => k_is); (case c6 => k_is); (case k6 => k_is); (case a7 => k_is); (case l7 => k_is); (case c7 => k_is); (case k7 => k_is); (case a8 => k_is); (case l8 => k_is); (case c8 => k_is); (case k8 => k_is); (case a9 => k_is); (case l9 => k_is); (case c9 => k_is); (case k9 => k_is); (case a10 => k_is); (case l10 => k_is); (case c10 => k_is); (case k10 => k_is); (case a11 => k_is); (case l11 => k_is); (case c11 => k_is); (case k11 => k_is); (case a12 => k_is); (case l12 => k_is); (case c12 => k_is); (case k12 => k_is); (case a13 => k_is); (case l13 => k_is); (case c13 => k_is); (case k13 => k_is); (case a14 => k_is); (case l14 => k_is); (case c14 => k_is); (case k14 => k_is); (case a15 => k_is); (case l15 => k_is); (case c15 => k_is); (case k15 => k_is); (case a16 => k_is); (case l16 => k_is); (case c16 => k_is); (case k16 => k_is); (case a17 => k_is); (case l17 => k_is); (case c17 => k_is); (case k17 => k_is); (case a18 => k_is); (case l18 => k_is); (case c18 => k_is); (case k18 => k_is); (case a19 => k_is); (case l19 => k_is); (case c19 => k_is); (case k19 => k_is); (case a20 => k_is); (case l20 => k_is); (case c20 => k_is); (case k20 => k_is); (case g1 => k_is); (case g2 => k_is); (case g3 => k_is); (case z1 => k_is); (case z2 => k_is); (case z3 => k_is); (case z4 => k_is); (case z5 => k_is); (case z6 => k_is); (case z7 => k_is); (case z8 => k_is); (case z9 => k_is); (case z10 => k_is); (case z11 => k_is); (case z12 => k_is); (case z13 => k_is); (case z14 => k_is); (case z15 => k_is); (case z16 => k_is); (case z17 => k_is); (case z18 => k_is)

