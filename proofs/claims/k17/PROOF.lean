import PyProof.Rows.All
import Wide.All
import OpenK.AllK
import Wide.FinOn
import HandS.ForMost
import HandS.ForExc
import HandS.Defaults
import HandS.Flow
import HandS.HeadHook1
import HandS.HeadHook2
import HandS.ExcInit
import HandS.Wide
import HandS.Deep
import HandS.Text
import HandS.IsInst
import PyProof.StrOps2
import HandS.Style
import HandS.WordsDict
import HandS.TupLen
import HandS.Comp
import HandS.Small
import HandS.Property
import HandS.ExcOwn
import HandS.SlotsOwn
import HandS.FStr
import HandS.HeadEnd
import HandS.Codes
import HandS.RaiseMore
import KE.KExcSuper
import HandS.ExcIs
import HandS.ExcField
import HandS.ExcValue
import KE.KExcIs
import HandS.Dict
import PyProof.NeKinds
import KE.KStateDown
import HandS.Head0
import HandS.Head1
import HandS.Head2
import PySem.Challenge.RW_suitedpairs_k17_errors_apart
set_option Elab.async false
set_option linter.all false
set_option maxRecDepth 100000
set_option maxHeartbeats 4000000
/-! Y0: data, the store of mutable things, what represents what. -/
namespace Y
open PySem L2

/-- data: what a value is worth; cell n: the mutable object number n of the store -/
inductive D where
  | non | bl (b : Bool) | int (i : Int) | str (s : Str)
  | lst (xs : List D) | tup (xs : List D)
  | dct (ks : List Key) (vs : List D) | dtt (ks : List (List Key)) (vs : List D)
  | obj (c : Str) (fs : List Str) (vs : List D)
  | cell (n : Nat)
  | scr (xs : List D)
  | xo (a : Addr) (d : Option Addr) (c : Str) (fs : List Str) (vs : List D)
  | exv (c : Str) (fs : List Str) (vs : List D)

abbrev Store := List (Option D)

inductive Res (α : Type) where
  | ok (a : α) (st : Store)
  | ex (c : Str) (fs : List (Str × D)) (st : Store)
  | bad

mutual
inductive Rep (K : PySem.W.Frag) (G : Hp) (la : List Addr) : V → D → Prop
  | non : Rep K G la .non .non
  | bl (b : Bool) : Rep K G la (.bl b) (.bl b)
  | int (i : Int) : Rep K G la (.int i) (.int i)
  | str (s : Str) : Rep K G la (.str s) (.str s)
  | cell {n : Nat} {a : Addr} : la[n]? = some a → Rep K G la (.ref a) (.cell n)
  | lst {a : Addr} {vs : List V} {ds : List D} : G a = some (.lst vs) → RepL K G la vs ds → Rep K G la (.ref a) (.lst ds)
  | tup {a : Addr} {vs : List V} {ds : List D} : G a = some (.tup vs) → RepL K G la vs ds → Rep K G la (.ref a) (.tup ds)
  | scr {a : Addr} {vs : List V} {ds : List D} : SqL K G a vs → RepL K G la vs ds → Rep K G la (.ref a) (.scr ds)
  | dct {a : Addr} {kvs : List (Key × V)} {ks : List Key} {ds : List D} : G a = some (.dK kvs) → kvs.map (·.1) = ks → RepL K G la (kvs.map (·.2)) ds → Rep K G la (.ref a) (.dct ks ds)
  | dtt {a : Addr} {kvs : List (List Key × V)} {ks : List (List Key)} {ds : List D} : G a = some (.dT kvs) → kvs.map (·.1) = ks → RepL K G la (kvs.map (·.2)) ds → Rep K G la (.ref a) (.dtt ks ds)
  | obj {a dx : Addr} {c : Str} {fvs : List (Str × V)} {fs : List Str} {ds : List D} : G a = some (.ins (He.ga K c) dx fvs) → fvs.map (·.1) = fs → RepL K G la (fvs.map (·.2)) ds → Rep K G la (.ref a) (.obj c fs ds)
  | xo0 {a : Addr} {c : Str} : Rep K G la (.ref a) (.xo a none c [] [])
  | xo1 {a dd : Addr} {c : Str} {fvs : List (Str × V)} {fs : List Str} {ds : List D} : G dd = some (.xd fvs) → fvs.map (·.1) = fs → RepL K G la (fvs.map (·.2)) ds → Rep K G la (.ref a) (.xo a (some dd) c fs ds)
  | ev0 {a : Addr} {c : Str} : G a = some (exo a (He.ga K c) none) → Rep K G la (.ref a) (.exv c [] [])
  | ev1 {a dd : Addr} {c : Str} {fvs : List (Str × V)} {fs : List Str} {ds : List D} : G a = some (exo a (He.ga K c) (some dd)) → G dd = some (exd dd fvs) → fvs.map (·.1) = fs → RepL K G la (fvs.map (·.2)) ds → Rep K G la (.ref a) (.exv c fs ds)
inductive RepL (K : PySem.W.Frag) (G : Hp) (la : List Addr) : List V → List D → Prop
  | nil : RepL K G la [] []
  | cons {v : V} {vs : List V} {d : D} {ds : List D} : Rep K G la v d → RepL K G la vs ds → RepL K G la (v :: vs) (d :: ds)
end

/-- a container that stands at a in H, its items represented in G -/
inductive Con (K : PySem.W.Frag) (G : Hp) (la : List Addr) (H : Hp) : Addr → D → Prop
  | lst {a : Addr} {vs : List V} {ds : List D} : H a = some (.lst vs) → RepL K G la vs ds → Con K G la H a (.lst ds)
  | dct {a : Addr} {kvs : List (Key × V)} {ks : List Key} {ds : List D} : H a = some (.dK kvs) → kvs.map (·.1) = ks → RepL K G la (kvs.map (·.2)) ds → Con K G la H a (.dct ks ds)
  | dtt {a : Addr} {kvs : List (List Key × V)} {ks : List (List Key)} {ds : List D} : H a = some (.dT kvs) → kvs.map (·.1) = ks → RepL K G la (kvs.map (·.2)) ds → Con K G la H a (.dtt ks ds)
  | obj {a dx : Addr} {c : Str} {fvs : List (Str × V)} {fs : List Str} {ds : List D} : H a = some (.ins (He.ga K c) dx fvs) → fvs.map (·.1) = fs → RepL K G la (fvs.map (·.2)) ds → Con K G la H a (.obj c fs ds)

theorem sqL_mono {K : PySem.W.Frag} {H H' : Hp} {a : Addr} {xs : List V} (e : Same H H') (h : SqL K H a xs) : SqL K H' a xs := e.seq h
theorem sqT_mono {K : PySem.W.Frag} {H H' : Hp} {a : Addr} {xs : List V} (e : Same H H') (h : SqT K H a xs) : SqT K H' a xs := by
  rcases h with (h | ⟨o, h⟩) | h
  · exact .inl (.inl (e _ _ h))
  · exact .inl (.inr ⟨o, e _ _ h⟩)
  · exact .inr h

def Pre (la la' : List Addr) : Prop := ∀ (n : Nat) (a : Addr), la[n]? = some a → la'[n]? = some a
theorem Pre.refl (la : List Addr) : Pre la la := fun _ _ h => h
theorem Pre.trans {a b c : List Addr} (h : Pre a b) (h' : Pre b c) : Pre a c := fun n x e => h' n x (h n x e)
theorem Pre.app (la m : List Addr) : Pre la (la ++ m) := fun n a e => by
  have hn := (List.getElem?_eq_some_iff.mp e).1
  rw [List.getElem?_append_left hn]
  exact e
theorem Pre.mem {la la' : List Addr} (h : Pre la la') {a : Addr} (m : a ∈ la) : a ∈ la' := by
  obtain ⟨n, hn, e⟩ := List.getElem_of_mem m
  exact List.mem_of_getElem? (h n a (by rw [List.getElem?_eq_getElem hn, e]))

section
variable {K : PySem.W.Frag} {G G' H H' : Hp} {la la' : List Addr}
mutual
theorem Rep.mono (s : Same G G') (p : Pre la la') : ∀ {v : V} {d : D}, Rep K G la v d → Rep K G' la' v d
  | _, _, .non => .non
  | _, _, .bl b => .bl b
  | _, _, .int i => .int i
  | _, _, .str x => .str x
  | _, _, .cell e => .cell (p _ _ e)
  | _, _, .lst h r => .lst (s _ _ h) (RepL.mono s p r)
  | _, _, .tup h r => .tup (s _ _ h) (RepL.mono s p r)
  | _, _, .scr h r => .scr (sqL_mono s h) (RepL.mono s p r)
  | _, _, .dct h e r => .dct (s _ _ h) e (RepL.mono s p r)
  | _, _, .dtt h e r => .dtt (s _ _ h) e (RepL.mono s p r)
  | _, _, .obj h e r => .obj (s _ _ h) e (RepL.mono s p r)
  | _, _, .xo0 => .xo0
  | _, _, .xo1 h e r => .xo1 (s _ _ h) e (RepL.mono s p r)
  | _, _, .ev0 h => .ev0 (s _ _ h)
  | _, _, .ev1 h h2 e r => .ev1 (s _ _ h) (s _ _ h2) e (RepL.mono s p r)
theorem RepL.mono (s : Same G G') (p : Pre la la') : ∀ {vs : List V} {ds : List D}, RepL K G la vs ds → RepL K G' la' vs ds
  | _, _, .nil => .nil
  | _, _, .cons h r => .cons (Rep.mono s p h) (RepL.mono s p r)
end
theorem RepL.length : ∀ {vs : List V} {ds : List D}, RepL K G la vs ds → vs.length = ds.length
  | _, _, .nil => rfl
  | _, _, .cons _ r => by rw [List.length_cons, List.length_cons, RepL.length r]
theorem RepL.get : ∀ {vs : List V} {ds : List D} {i : Nat} {d : D}, RepL K G la vs ds → ds[i]? = some d → ∃ v, vs[i]? = some v ∧ Rep K G la v d
  | _, _, _, _, .nil, e => by simp at e
  | _, _, 0, _, .cons r _, e => by simp at e; subst e; exact ⟨_, rfl, r⟩
  | _, _, i + 1, d, .cons _ t, e => by
    obtain ⟨u, h1, h2⟩ := RepL.get (i := i) (d := d) t (by simpa using e)
    exact ⟨u, by simpa using h1, h2⟩
theorem RepL.getV : ∀ {vs : List V} {ds : List D} {i : Nat} {v : V}, RepL K G la vs ds → vs[i]? = some v → ∃ d, ds[i]? = some d ∧ Rep K G la v d
  | _, _, _, _, .nil, e => by simp at e
  | _, _, 0, _, .cons r _, e => by simp at e; subst e; exact ⟨_, rfl, r⟩
  | _, _, i + 1, v, .cons _ t, e => by
    obtain ⟨u, h1, h2⟩ := RepL.getV (i := i) (v := v) t (by simpa using e)
    exact ⟨u, by simpa using h1, h2⟩
theorem RepL.app : ∀ {vs vs' : List V} {ds ds' : List D}, RepL K G la vs ds → RepL K G la vs' ds' → RepL K G la (vs ++ vs') (ds ++ ds')
  | _, _, _, _, .nil, r => r
  | _, _, _, _, .cons h t, r => .cons h (RepL.app t r)
theorem RepL.one {v : V} {d : D} (h : Rep K G la v d) : RepL K G la [v] [d] := .cons h .nil
theorem RepL.set {v : V} {d : D} (h : Rep K G la v d) : ∀ {vs : List V} {ds : List D} (i : Nat), RepL K G la vs ds → RepL K G la (vs.set i v) (ds.set i d)
  | _, _, _, .nil => .nil
  | _, _, 0, .cons _ t => .cons h t
  | _, _, i + 1, .cons q t => .cons q (RepL.set h i t)
theorem RepL.take : ∀ {vs : List V} {ds : List D} (n : Nat), RepL K G la vs ds → RepL K G la (vs.take n) (ds.take n)
  | _, _, 0, _ => .nil
  | _, _, _ + 1, .nil => .nil
  | _, _, n + 1, .cons r t => .cons r (RepL.take n t)
theorem RepL.drop : ∀ {vs : List V} {ds : List D} (n : Nat), RepL K G la vs ds → RepL K G la (vs.drop n) (ds.drop n)
  | _, _, 0, r => r
  | _, _, _ + 1, .nil => .nil
  | _, _, n + 1, .cons _ t => RepL.drop n t
theorem RepL.erase : ∀ {vs : List V} {ds : List D} (n : Nat), RepL K G la vs ds → RepL K G la (vs.eraseIdx n) (ds.eraseIdx n)
  | _, _, _, .nil => .nil
  | _, _, 0, .cons _ t => t
  | _, _, n + 1, .cons r t => .cons r (RepL.erase n t)
theorem RepL.reverse : ∀ {vs : List V} {ds : List D}, RepL K G la vs ds → RepL K G la vs.reverse ds.reverse
  | _, _, .nil => .nil
  | _, _, .cons h t => by
    rw [List.reverse_cons, List.reverse_cons]
    exact (RepL.reverse t).app (RepL.one h)
theorem Con.mono (s : Same G G') (p : Pre la la') {a : Addr} (e : H' a = H a) : ∀ {d : D}, Con K G la H a d → Con K G' la' H' a d
  | _, .lst h r => .lst (e.trans h) (r.mono s p)
  | _, .dct h q r => .dct (e.trans h) q (r.mono s p)
  | _, .dtt h q r => .dtt (e.trans h) q (r.mono s p)
  | _, .obj h q r => .obj (e.trans h) q (r.mono s p)
theorem Con.there {a : Addr} {d : D} (c : Con K G la H a d) : ∃ o, H a = some o := by
  cases c with
  | lst h _ => exact ⟨_, h⟩
  | dct h _ _ => exact ⟨_, h⟩
  | dtt h _ _ => exact ⟨_, h⟩
  | obj h _ _ => exact ⟨_, h⟩
end

def isDic : HO → Bool
  | .dK _ => true
  | .dT _ => true
  | _ => false
/-- what is frozen stands in the heap; a dict may be locked (walked) -/
def Sub (G H : Hp) : Prop := ∀ a o, G a = some o → H a = some o ∨ (isDic o = true ∧ ∃ ob, H a = some (.frz ob o))

structure Rel (K : PySem.W.Frag) (G : Hp) (la : List Addr) (st : Store) (H : Hp) : Prop where
  sub : Sub G H
  len : la.length = st.length
  nd : la.Nodup
  cell : ∀ (n : Nat) (a : Addr) (d : D), la[n]? = some a → st[n]? = some (some d) → Con K G la H a d ∧ G a = none
  there : ∀ a ∈ la, ∃ o, H a = some o

/-- from (G, la, H) to (G', la', st', H'): what was frozen stands, what is no cell is as it was, what is new is new -/
structure Post (K : PySem.W.Frag) (G : Hp) (la : List Addr) (H : Hp) (G' : Hp) (la' : List Addr) (st' : Store) (H' : Hp) : Prop where
  same : Same G G'
  pre : Pre la la'
  rel : Rel K G' la' st' H'
  keep : ∀ a o, H a = some o → a ∉ la → H' a = some o
  newc : ∀ a, a ∈ la' → a ∉ la → H a = none
  newg : ∀ a o, G' a = some o → G a = some o ∨ H a = none ∨ a ∈ la

theorem nodup_get {la : List Addr} (h : la.Nodup) {i j : Nat} {a : Addr} (h1 : la[i]? = some a) (h2 : la[j]? = some a) : i = j := by
  have hi := (List.getElem?_eq_some_iff.mp h1)
  have hj := (List.getElem?_eq_some_iff.mp h2)
  obtain ⟨hi, ei⟩ := hi
  obtain ⟨hj, ej⟩ := hj
  exact (List.getElem_inj h).mp (ei.trans ej.symm)

section
variable {K : PySem.W.Frag} {G G1 G2 H H1 H2 : Hp} {la la1 la2 : List Addr} {st st1 st2 : Store}
theorem Post.refl (r : Rel K G la st H) : Post K G la H G la st H := ⟨Same.refl _, Pre.refl _, r, fun _ _ h _ => h, fun _ h h' => absurd h h', fun _ _ h => .inl h⟩
theorem Post.trans (a : Post K G la H G1 la1 st1 H1) (b : Post K G1 la1 H1 G2 la2 st2 H2) : Post K G la H G2 la2 st2 H2 where
  same := a.same.trans b.same
  pre := a.pre.trans b.pre
  rel := b.rel
  keep := fun x o h hx => by
    have h1 := a.keep x o h hx
    refine b.keep x o h1 fun hm => ?_
    rw [a.newc x hm hx] at h
    cases h
  newc := fun x hm hx => by
    by_cases h : x ∈ la1
    · exact a.newc x h hx
    · have h1 := b.newc x hm h
      cases q : H x with
      | none => rfl
      | some o =>
        rw [a.keep x o q hx] at h1
        cases h1
  newg := fun x o h => by
    rcases b.newg x o h with h | h | h
    · exact a.newg x o h
    · by_cases hx : x ∈ la
      · exact .inr (.inr hx)
      · refine .inr (.inl ?_)
        cases q : H x with
        | none => rfl
        | some o =>
          rw [a.keep x o q hx] at h
          cases h
    · by_cases hx : x ∈ la
      · exact .inr (.inr hx)
      · exact .inr (.inl (a.newc x h hx))

/-- a new object is laid -/
theorem Rel.new (r : Rel K G la st H) {p : Addr} {o : HO} (hp : H p = none) : Rel K G la st (upd H p o) where
  sub := fun a u h => by
    by_cases e : a = p
    · subst e
      rcases r.sub a u h with h' | ⟨_, ob, h'⟩ <;> (rw [hp] at h'; cases h')
    · rw [upd_ne e]
      exact r.sub a u h
  len := r.len
  nd := r.nd
  cell := fun n a d h1 h2 => by
    obtain ⟨c, g⟩ := r.cell n a d h1 h2
    refine ⟨c.mono (Same.refl _) (Pre.refl _) ?_, g⟩
    obtain ⟨u, hu⟩ := c.there
    exact upd_ne (fun e => by rw [e, hp] at hu; cases hu)
  there := fun a ha => by
    obtain ⟨u, hu⟩ := r.there a ha
    exact ⟨u, by rw [upd_ne (ne_of_none hu hp)]; exact hu⟩
theorem Post.new (r : Rel K G la st H) {p : Addr} {o : HO} (hp : H p = none) : Post K G la H G la st (upd H p o) :=
  ⟨Same.refl _, Pre.refl _, r.new hp, fun a u h _ => by rw [upd_ne (ne_of_none h hp)]; exact h, fun _ h h' => absurd h h', fun _ _ h => .inl h⟩
theorem Sub.none_of (s : Sub G H) {a : Addr} (h : H a = none) : G a = none := by
  cases q : G a with
  | none => rfl
  | some o =>
    rcases s a o q with e | ⟨_, ob, e⟩ <;> (rw [h] at e; cases e)
theorem same_upd {p : Addr} {o : HO} (h : G p = none) : Same G (upd G p o) := fun b u e => by
  rw [upd_ne (ne_of_none e h)]
  exact e
/-- a container that is nobody's is frozen -/
theorem Rel.freeze (r : Rel K G la st H) {a : Addr} {o : HO} (h : H a = some o) (g : G a = none) (hn : a ∉ la) : Rel K (upd G a o) la st H where
  sub := fun b u e => by
    by_cases q : b = a
    · subst q
      rw [upd_same] at e
      cases e
      exact .inl h
    · rw [upd_ne q] at e
      exact r.sub b u e
  len := r.len
  nd := r.nd
  cell := fun n b d h1 h2 => by
    obtain ⟨c, g2⟩ := r.cell n b d h1 h2
    have hb : b ≠ a := fun e => hn (e ▸ List.mem_of_getElem? h1)
    exact ⟨c.mono (same_upd g) (Pre.refl _) rfl, by rw [upd_ne hb]; exact g2⟩
  there := r.there
theorem Rel.free (r : Rel K G la st H) {p : Addr} (hp : H p = none) : p ∉ la := fun h => by
  obtain ⟨o, e⟩ := r.there p h
  rw [hp] at e
  cases e
end
end Y

set_option maxHeartbeats 4000000
/-! Y1: slots, expressions, arguments, tests, statements: the readings by data. -/
namespace Y
open PySem L2

/-- what a slot holds: a value; a container of its own -/
inductive Sl where
  | v (d : D) | o (d : D)
abbrev Env := List (Option Sl)
/-- what an expression gives: a value; a new container that nobody holds; the container of slot i -/
inductive XV where
  | v (d : D) | n (d : D) | s (i : Nat) (d : D)
def XV.fz : XV → XV
  | .n d => .v d
  | x => x
/-- what it is worth now (a cell: what it holds) -/
def XV.con (st : Store) : XV → Option D
  | .v (.cell k) => (st[k]?).join
  | .v d => some d
  | .n d => some d
  | .s _ d => some d
abbrev M (α : Type) := Env → Store → Res α
def Res.bind {α β : Type} (r : Res α) (f : α → Store → Res β) : Res β :=
  match r with
  | .ok a st => f a st
  | .ex c fs st => .ex c fs st
  | .bad => .bad
def lift {α : Type} (o : Option α) (st : Store) : Res α :=
  match o with
  | some a => .ok a st
  | none => .bad

structure Bd (K : PySem.W.Frag) (G : Hp) (la : List Addr) (st : Store) (H : Hp) (env : Env) (σ : L2.St) : Prop where
  rel : Rel K G la st H
  val : ∀ (i : Nat) (d : D), env[i]? = some (some (.v d)) → ∃ v, σ[i]? = some (some v) ∧ Rep K G la v d
  own : ∀ (i : Nat) (d : D), env[i]? = some (some (.o d)) → ∃ a, σ[i]? = some (some (.ref a)) ∧ Con K G la H a d ∧ G a = none ∧ a ∉ la
  apart : ∀ (i j : Nat) (d e : D) (a : Addr), env[i]? = some (some (.o d)) → env[j]? = some (some (.o e)) → σ[i]? = some (some (.ref a)) → σ[j]? = some (some (.ref a)) → i = j
  len : env.length = σ.length

section
variable {K : PySem.W.Frag} {G G' H H' : Hp} {la la' : List Addr} {st st' : Store} {env : Env} {σ : L2.St}
theorem Post.con (p : Post K G la H G' la' st' H') {a : Addr} {d : D} (c : Con K G la H a d) (g : G a = none) (n : a ∉ la) : Con K G' la' H' a d ∧ G' a = none ∧ a ∉ la' := by
  obtain ⟨o, ho⟩ := c.there
  refine ⟨c.mono p.same p.pre ((p.keep a o ho n).trans ho.symm), ?_, fun hm => ?_⟩
  · cases q : G' a with
    | none => rfl
    | some u =>
      rcases p.newg a u q with h | h | h
      · rw [g] at h; cases h
      · rw [ho] at h; cases h
      · exact absurd h n
  · have := p.newc a hm n
    rw [ho] at this
    cases this
theorem Bd.step (b : Bd K G la st H env σ) (p : Post K G la H G' la' st' H') : Bd K G' la' st' H' env σ where
  rel := p.rel
  val := fun i d e => by
    obtain ⟨v, h1, h2⟩ := b.val i d e
    exact ⟨v, h1, h2.mono p.same p.pre⟩
  own := fun i d e => by
    obtain ⟨a, h1, c, g, n⟩ := b.own i d e
    exact ⟨a, h1, p.con c g n⟩
  apart := b.apart
  len := b.len
end

/-- what stands for x -/
def OutX (K : PySem.W.Frag) (G : Hp) (la : List Addr) (H0 H : Hp) (env : Env) (σ : L2.St) (v : V) : XV → Prop
  | .v d => Rep K G la v d
  | .n d => ∃ a, v = .ref a ∧ Con K G la H a d ∧ G a = none ∧ a ∉ la ∧ H0 a = none
  | .s i d => env[i]? = some (some (.o d)) ∧ σ[i]? = some (some v)
inductive OutL (K : PySem.W.Frag) (G : Hp) (la : List Addr) (env : Env) (σ : L2.St) : List V → List XV → Prop
  | nil : OutL K G la env σ [] []
  | v {v : V} {vs : List V} {d : D} {xs : List XV} : Rep K G la v d → OutL K G la env σ vs xs → OutL K G la env σ (v :: vs) (.v d :: xs)
  | s {v : V} {vs : List V} {i : Nat} {d : D} {xs : List XV} : env[i]? = some (some (.o d)) → σ[i]? = some (some v) → OutL K G la env σ vs xs → OutL K G la env σ (v :: vs) (.s i d :: xs)

/-- an exception's own dict -/
def ExAt (K : PySem.W.Frag) (G : Hp) (la : List Addr) (H : Hp) (d : Option Addr) (fs : List (Str × D)) : Prop :=
  (fs = [] ∧ d = none) ∨ ∃ (dd : Addr) (fvs : List (Str × V)), d = some dd ∧ H dd = some (.xd fvs) ∧ fvs.map (·.1) = fs.map (·.1) ∧ RepL K G la (fvs.map (·.2)) (fs.map (·.2))

/-- what is wanted behind a step that gives r -/
def Want {α β : Type} (K : PySem.W.Frag) (W : WX) (O : Hp → List Addr → Hp → Hp → α → β → Prop) (G : Hp) (la : List Addr) (H : Hp) (σ : L2.St) (Q : β → Hp → Prop) : Res α → Prop
  | .ok x st' => ∀ v H' G' la', Post K G la H G' la' st' H' → O G' la' H H' x v → Q v H'
  | .ex c fs st' => ∀ d H' G' la', Post K G la H G' la' st' H' → ExAt K G' la' H' d fs → W (.ref (He.ga K c)) d σ H'
  | .bad => False
abbrev OE (K : PySem.W.Frag) (env : Env) (σ : L2.St) : Hp → List Addr → Hp → Hp → XV → V → Prop := fun G la H0 H x v => OutX K G la H0 H env σ v x
abbrev OA (K : PySem.W.Frag) (env : Env) (σ : L2.St) : Hp → List Addr → Hp → Hp → List XV → List V → Prop := fun G la _ _ xs vs => OutL K G la env σ vs xs
abbrev OT : Hp → List Addr → Hp → Hp → Bool → Bool → Prop := fun _ _ _ _ b c => b = c
def tE (K : PySem.W.Frag) (W : WX) (m : M XV) : TE := fun σ H Q => ∃ G la env st, Bd K G la st H env σ ∧ Want K W (OE K env σ) G la H σ Q (m env st)
def tT (K : PySem.W.Frag) (W : WX) (m : M Bool) : TT := fun σ H Q => ∃ G la env st, Bd K G la st H env σ ∧ Want K W OT G la H σ Q (m env st)
def tA (K : PySem.W.Frag) (W : WX) (m : M (List XV)) : TA := fun σ H Q => ∃ G la env st, Bd K G la st H env σ ∧ Want K W (OA K env σ) G la H σ Q (m env st)
section
variable {K : PySem.W.Frag} {W : WX} {G G1 H H1 : Hp} {la la1 : List Addr} {st1 : Store} {σ : L2.St} {env : Env}
theorem Want.after {α β : Type} {O : Hp → List Addr → Hp → Hp → α → β → Prop} {Q : β → Hp → Prop} {r : Res α} (p : Post K G la H G1 la1 st1 H1)
    (back : ∀ G' la' H' x v, Pre la1 la' → O G' la' H1 H' x v → O G' la' H H' x v) (w : Want K W O G la H σ Q r) : Want K W O G1 la1 H1 σ Q r := by
  cases r with
  | ok x st' => exact fun v H' G' la' p2 o => w v H' G' la' (p.trans p2) (back G' la' H' x v p2.pre o)
  | ex c fs st' => exact fun d H' G' la' p2 x => w d H' G' la' (p.trans p2) x
  | bad => exact w
theorem fresh_back (p : Post K G la H G1 la1 st1 H1) {a : Addr} {la' : List Addr} (q : Pre la1 la') (n : a ∉ la') (f : H1 a = none) : H a = none := by
  cases e : H a with
  | none => rfl
  | some o =>
    rw [p.keep a o e fun hm => n (q.mem (p.pre.mem hm))] at f
    cases f
theorem want_lift {α β : Type} {O : Hp → List Addr → Hp → Hp → α → β → Prop} {Q : β → Hp → Prop} {o : Option α} {st : Store} (w : Want K W O G la H σ Q (lift o st)) : ∃ z, o = some z ∧ Want K W O G la H σ Q (.ok z st) := by
  cases o with
  | none => exact False.elim w
  | some z => exact ⟨z, rfl, w⟩
theorem Want.afterE {Q : VK} {r : Res XV} (p : Post K G la H G1 la1 st1 H1) (w : Want K W (OE K env σ) G la H σ Q r) : Want K W (OE K env σ) G1 la1 H1 σ Q r := by
  refine w.after p fun G' la' H' x v q o => ?_
  cases x with
  | v d => exact o
  | s i d => exact o
  | n d =>
    obtain ⟨a, e, c, g, n, f⟩ := o
    exact ⟨a, e, c, g, n, fresh_back p q n f⟩
theorem Want.afterA {Q : List V → Hp → Prop} {r : Res (List XV)} (p : Post K G la H G1 la1 st1 H1) (w : Want K W (OA K env σ) G la H σ Q r) : Want K W (OA K env σ) G1 la1 H1 σ Q r := w.after p fun _ _ _ _ _ _ o => o
theorem Want.afterT {Q : Bool → Hp → Prop} {r : Res Bool} (p : Post K G la H G1 la1 st1 H1) (w : Want K W OT G la H σ Q r) : Want K W OT G1 la1 H1 σ Q r := w.after p fun _ _ _ _ _ _ o => o
end

section
variable {K : PySem.W.Frag} {G G' H0 H H' : Hp} {la la' : List Addr} {st st' : Store} {env : Env} {σ : L2.St} {W : WX}
theorem Con.rep {a : Addr} {d : D} (g : G a = none) (c : Con K G la H a d) : ∃ o, H a = some o ∧ Rep K (upd G a o) la (.ref a) d := by
  have sm : ∀ {o : HO}, Same G (upd G a o) := fun {o} => same_upd g
  cases c with
  | lst h r => exact ⟨_, h, .lst upd_same (r.mono sm (Pre.refl _))⟩
  | dct h q r => exact ⟨_, h, .dct upd_same q (r.mono sm (Pre.refl _))⟩
  | dtt h q r => exact ⟨_, h, .dtt upd_same q (r.mono sm (Pre.refl _))⟩
  | obj h q r => exact ⟨_, h, .obj upd_same q (r.mono sm (Pre.refl _))⟩
/-- a new container is frozen -/
theorem OutX.freeze {v : V} {x : XV} (p : Post K G la H G' la' st' H') (o : OutX K G' la' H H' env σ v x) : ∃ G'', Post K G la H G'' la' st' H' ∧ OutX K G'' la' H H' env σ v x.fz := by
  cases x with
  | v d => exact ⟨G', p, o⟩
  | s i d => exact ⟨G', p, o⟩
  | n d =>
    obtain ⟨a, rfl, c, g, n, f⟩ := o
    obtain ⟨u, hu, r⟩ := c.rep g
    refine ⟨upd G' a u, ⟨p.same.trans (same_upd g), p.pre, p.rel.freeze hu g n, p.keep, p.newc, fun b w e => ?_⟩, r⟩
    by_cases q : b = a
    · exact .inr (.inl (q ▸ f))
    · rw [upd_ne q] at e
      exact p.newg b w e
theorem OutL.mono {vs : List V} {xs : List XV} (s : Same G G') (p : Pre la la') (o : OutL K G la env σ vs xs) : OutL K G' la' env σ vs xs := by
  induction o with
  | nil => exact .nil
  | v h _ ih => exact .v (h.mono s p) ih
  | s h1 h2 _ ih => exact .s h1 h2 ih
theorem OutL.length {vs : List V} {xs : List XV} (o : OutL K G la env σ vs xs) : vs.length = xs.length := by
  induction o with
  | nil => rfl
  | v h _ ih => simp [ih]
  | s h1 h2 _ ih => simp [ih]
theorem OutX.cons {v : V} {x : XV} {vs : List V} {xs : List XV} (o : OutX K G la H0 H env σ v x.fz) (h : OutL K G la env σ vs xs) : OutL K G la env σ (v :: vs) (x.fz :: xs) := by
  cases x with
  | v d => exact .v o h
  | n d => exact .v o h
  | s i d => exact .s o.1 o.2 h
end

def evNil : M (List XV) := fun _ st => .ok [] st
def evCons (m : M XV) (ms : M (List XV)) : M (List XV) := fun env st => (m env st).bind fun x st1 => (ms env st1).bind fun xs st2 => .ok (x.fz :: xs) st2

theorem peImp {X : Cx} {e : PySem.Expr} {t t' : TE} (h : PE X e t) (i : ∀ σ H Q, t' σ H Q → t σ H Q) : PE X e t' := ⟨fun pins s σ H Q I hq => h.run pins s σ H Q I (i σ H Q hq)⟩
theorem ptImp {X : Cx} {e : PySem.Expr} {t t' : TT} (h : PT X e t) (i : ∀ σ H Q, t' σ H Q → t σ H Q) : PT X e t' := ⟨fun pins s σ H Q I hq => h.run pins s σ H Q I (i σ H Q hq)⟩
theorem pwImp {X : Cx} {e : PySem.Expr} {t t' : TT} (h : PW X e t) (i : ∀ σ H Q, t' σ H Q → t σ H Q) : PW X e t' := ⟨fun wh pins s σ H Q I hq => h.run wh pins s σ H Q I (i σ H Q hq)⟩
theorem paImp {X : Cx} {es : List PySem.Expr} {t t' : TA} (h : PA X es t) (i : ∀ σ H Q, t' σ H Q → t σ H Q) : PA X es t' := ⟨fun pos pins s σ H Q I hq => h.run pos pins s σ H Q I (i σ H Q hq)⟩
theorem psImp {X : Cx} {s : PySem.Stmt} {t t' : TS} (h : PS X s t) (i : ∀ D σ H, t' D σ H → t D σ H) : PS X s t' := ⟨fun pins s σ H D I hq => h.run pins s σ H D I (i D σ H hq)⟩
theorem pssImp {X : Cx} {s : List PySem.Stmt} {t t' : TS} (h : PSs X s t) (i : ∀ D σ H, t' D σ H → t D σ H) : PSs X s t' := ⟨fun pins s σ H D I hq => h.run pins s σ H D I (i D σ H hq)⟩

section
variable {K : PySem.W.Frag} {W : WX}
theorem tA_nil {σ : L2.St} {H : Hp} {Q : List V → Hp → Prop} (h : tA K W evNil σ H Q) : L2.tNil σ H Q := by
  obtain ⟨G, la, env, st, b, h⟩ := h
  exact h [] H G la (Post.refl b.rel) .nil
/-- first m, then k of what it gives -/
theorem tE_bind {α : Type} {m : M XV} {k : XV → Env → Store → Res α} {γ : Type} {O : Env → Hp → List Addr → Hp → Hp → α → γ → Prop} {σ : L2.St} {H : Hp} {Q : γ → Hp → Prop} {R : VK}
    (back : ∀ G la H G1 la1 st1 H1 env, Post K G la H G1 la1 st1 H1 → ∀ G' la' H' x v, Pre la1 la' → O env G' la' H1 H' x v → O env G' la' H H' x v)
    (h : ∃ G la env st, Bd K G la st H env σ ∧ Want K W (O env) G la H σ Q ((m env st).bind fun x st1 => k x env st1))
    (c : ∀ G la env st x v H1, Bd K G la st H1 env σ → OutX K G la H1 H1 env σ v x.fz → Want K W (O env) G la H1 σ Q (k x env st) → R v H1) : tE K W m σ H R := by
  obtain ⟨G, la, env, st, b, h⟩ := h
  refine ⟨G, la, env, st, b, ?_⟩
  cases e : m env st with
  | bad => rw [e] at h; exact h
  | ex c fs st1 => rw [e] at h; exact h
  | ok x st1 =>
    rw [e] at h
    intro v H1 G1 la1 p1 o1
    obtain ⟨G2, p2, o2⟩ := OutX.freeze p1 o1
    refine c G2 la1 env st1 x v H1 (b.step p2) ?_ (Want.after p2 (back _ _ _ _ _ _ _ _ p2) h)
    cases x with
    | v d => exact o2
    | n d => exact o2
    | s i d => exact o2
theorem backE {σ : L2.St} : ∀ G la H G1 la1 st1 H1 env, Post K G la H G1 la1 st1 H1 → ∀ G' la' H' x v, Pre la1 la' → OE K env σ G' la' H1 H' x v → OE K env σ G' la' H H' x v := fun G la H G1 la1 st1 H1 env p G' la' H' x v q o => by
  cases x with
  | v d => exact o
  | s i d => exact o
  | n d =>
    obtain ⟨a, e, c, g, n, f⟩ := o
    exact ⟨a, e, c, g, n, fresh_back p q n f⟩
theorem tA_cons {m : M XV} {ms : M (List XV)} {σ : L2.St} {H : Hp} {Q : List V → Hp → Prop} (h : tA K W (evCons m ms) σ H Q) : L2.tCons (tE K W m) (tA K W ms) σ H Q := by
  refine tE_bind (O := fun env => OA K env σ) (fun _ _ _ _ _ _ _ _ _ _ _ _ _ _ _ o => o) h fun G la env st x v H1 b o w => ⟨G, la, env, st, b, ?_⟩
  cases e : ms env st with
  | bad => rw [e] at w; exact w
  | ex c fs st1 => rw [e] at w; exact w
  | ok xs st1 =>
    rw [e] at w
    intro vs H2 G2 la2 p2 o2
    refine w (v :: vs) H2 G2 la2 p2 ?_
    cases x with
    | v d => exact .v (Rep.mono p2.same p2.pre o) o2
    | n d => exact .v (Rep.mono p2.same p2.pre o) o2
    | s i d => exact .s o.1 o.2 o2
theorem tE_mono {m : M XV} {σ : L2.St} {H : Hp} {Q Q' : VK} (h : tE K W m σ H Q) (i : ∀ v H', Q v H' → Q' v H') : tE K W m σ H Q' := by
  obtain ⟨G, la, env, st, b, h⟩ := h
  refine ⟨G, la, env, st, b, ?_⟩
  cases e : m env st with
  | bad => rw [e] at h; exact h
  | ex c fs st1 => rw [e] at h; exact h
  | ok x st1 =>
    rw [e] at h
    exact fun v H1 G1 la1 p o => i v H1 (h v H1 G1 la1 p o)
theorem tA_one {ma : M XV} {σ : L2.St} {H : Hp} {R : List V → Hp → Prop} (h : tA K W (evCons ma evNil) σ H R) : tE K W ma σ H fun x H1 => R [x] H1 :=
  tE_mono (tA_cons h) fun _ _ q => tA_nil q
/-- two operands -/
theorem tA_two {ma mb : M XV} {σ : L2.St} {H : Hp} {R : List V → Hp → Prop} (h : tA K W (evCons ma (evCons mb evNil)) σ H R) :
    tE K W ma σ H fun x H1 => tE K W mb σ H1 fun y H2 => R [x, y] H2 :=
  tE_mono (tA_cons h) fun _ _ q => tA_one q
/-- first the arguments, then k -/
theorem tA_bind {ms : M (List XV)} {k : List XV → Env → Store → Res XV} {σ : L2.St} {H : Hp} {Q : VK} {R : List V → Hp → Prop}
    (h : tE K W (fun env st => (ms env st).bind fun xs st1 => k xs env st1) σ H Q)
    (c : ∀ G la env st xs vs H1, Bd K G la st H1 env σ → OutL K G la env σ vs xs → Want K W (OE K env σ) G la H1 σ Q (k xs env st) → R vs H1) : tA K W ms σ H R := by
  obtain ⟨G, la, env, st, b, h⟩ := h
  refine ⟨G, la, env, st, b, ?_⟩
  dsimp only at h
  cases e : ms env st with
  | bad => rw [e] at h; exact h
  | ex c fs st1 => rw [e] at h; exact h
  | ok xs st1 =>
    rw [e] at h
    exact fun vs H1 G1 la1 p1 o1 => c G1 la1 env st1 xs vs H1 (b.step p1) o1 (Want.afterE p1 h)
end

section
variable {X : Cx} {W : WX}
theorem ra_nil : PA X [] (tA X.K W evNil) := paImp pa_nil fun _ _ _ h => tA_nil h
theorem ra_cons {e : PySem.Expr} {es : List PySem.Expr} {m : M XV} {ms : M (List XV)} (ha : PE X e (tE X.K W m)) (hr : PA X es (tA X.K W ms)) (hs : starEach (e :: es) X.env = (false, eval e X.env) :: starEach es X.env := by rfl) :
    PA X (e :: es) (tA X.K W (evCons m ms)) := paImp (pa_cons ha hr hs) fun _ _ _ h => tA_cons h
end

/-! ### reading -/
/-- v's content is d, readable in H -/
inductive Rd1 (K : PySem.W.Frag) (G : Hp) (la : List Addr) (H : Hp) : V → D → Prop
  | non : Rd1 K G la H .non .non
  | bl (b : Bool) : Rd1 K G la H (.bl b) (.bl b)
  | int (i : Int) : Rd1 K G la H (.int i) (.int i)
  | str (s : Str) : Rd1 K G la H (.str s) (.str s)
  | lst {a : Addr} {vs : List V} {ds : List D} : H a = some (.lst vs) → RepL K G la vs ds → Rd1 K G la H (.ref a) (.lst ds)
  | tup {a : Addr} {vs : List V} {ds : List D} : H a = some (.tup vs) → RepL K G la vs ds → Rd1 K G la H (.ref a) (.tup ds)
  | scr {a : Addr} {vs : List V} {ds : List D} : SqL K H a vs → RepL K G la vs ds → Rd1 K G la H (.ref a) (.scr ds)
  | dct {a : Addr} {kvs : List (Key × V)} {ks : List Key} {ds : List D} : L2.Rd H a (.dK kvs) → kvs.map (·.1) = ks → RepL K G la (kvs.map (·.2)) ds → Rd1 K G la H (.ref a) (.dct ks ds)
  | dtt {a : Addr} {kvs : List (List Key × V)} {ks : List (List Key)} {ds : List D} : L2.Rd H a (.dT kvs) → kvs.map (·.1) = ks → RepL K G la (kvs.map (·.2)) ds → Rd1 K G la H (.ref a) (.dtt ks ds)
  | obj {a dx : Addr} {c : Str} {fvs : List (Str × V)} {fs : List Str} {ds : List D} : H a = some (.ins (He.ga K c) dx fvs) → fvs.map (·.1) = fs → RepL K G la (fvs.map (·.2)) ds → Rd1 K G la H (.ref a) (.obj c fs ds)
  | xo0 {a : Addr} {c : Str} : Rd1 K G la H (.ref a) (.xo a none c [] [])
  | xo1 {a dd : Addr} {c : Str} {fvs : List (Str × V)} {fs : List Str} {ds : List D} : H dd = some (.xd fvs) → fvs.map (·.1) = fs → RepL K G la (fvs.map (·.2)) ds → Rd1 K G la H (.ref a) (.xo a (some dd) c fs ds)
  | ev0 {a : Addr} {c : Str} : H a = some (exo a (He.ga K c) none) → Rd1 K G la H (.ref a) (.exv c [] [])
  | ev1 {a dd : Addr} {c : Str} {fvs : List (Str × V)} {fs : List Str} {ds : List D} : H a = some (exo a (He.ga K c) (some dd)) → H dd = some (exd dd fvs) → fvs.map (·.1) = fs → RepL K G la (fvs.map (·.2)) ds → Rd1 K G la H (.ref a) (.exv c fs ds)
inductive RdL (K : PySem.W.Frag) (G : Hp) (la : List Addr) (H : Hp) : List V → List D → Prop
  | nil : RdL K G la H [] []
  | cons {v : V} {vs : List V} {d : D} {ds : List D} : Rd1 K G la H v d → RdL K G la H vs ds → RdL K G la H (v :: vs) (d :: ds)
def conL (st : Store) : List XV → Option (List D)
  | [] => some []
  | x :: xs => (x.con st).bind fun d => (conL st xs).bind fun ds => some (d :: ds)

section
variable {K : PySem.W.Frag} {G H H0 : Hp} {la : List Addr} {st : Store} {env : Env} {σ : L2.St}
theorem Sub.sqL (s : Sub G H) {a : Addr} {vs : List V} (h : SqL K G a vs) : SqL K H a vs := by
  rcases h with (h | ⟨o, h⟩) | h
  · rcases s a _ h with q | ⟨q, _⟩
    · exact .inl (.inl q)
    · cases q
  · rcases s a _ h with q | ⟨q, _⟩
    · exact .inl (.inr ⟨o, q⟩)
    · cases q
  · exact .inr h
theorem Sub.sqT (s : Sub G H) {a : Addr} {vs : List V} (h : SqT K G a vs) : SqT K H a vs := by
  rcases h with (h | ⟨o, h⟩) | h
  · rcases s a _ h with q | ⟨q, _⟩
    · exact .inl (.inl q)
    · cases q
  · rcases s a _ h with q | ⟨q, _⟩
    · exact .inl (.inr ⟨o, q⟩)
    · cases q
  · exact .inr h
theorem Sub.rd (s : Sub G H) {a : Addr} {o : HO} (h : G a = some o) : L2.Rd H a o := by
  rcases s a _ h with q | ⟨_, q⟩
  · exact .inl q
  · exact .inr q
def notCell : D → Bool
  | .cell _ => false
  | _ => true
theorem Rep.read (s : Sub G H) {v : V} {d : D} (r : Rep K G la v d) (n : notCell d = true) : Rd1 K G la H v d := by
  cases r with
  | non => exact .non
  | bl b => exact .bl b
  | int i => exact .int i
  | str s => exact .str s
  | cell e => cases n
  | lst h r =>
    rcases s _ _ h with q | ⟨q, _⟩
    · exact .lst q r
    · cases q
  | tup h r =>
    rcases s _ _ h with q | ⟨q, _⟩
    · exact .tup q r
    · cases q
  | scr h r => exact .scr (s.sqL h) r
  | dct h e r => exact .dct (s.rd h) e r
  | dtt h e r => exact .dtt (s.rd h) e r
  | obj h e r =>
    rcases s _ _ h with q | ⟨q, _⟩
    · exact .obj q e r
    · cases q
  | xo0 => exact .xo0
  | xo1 h e r =>
    rcases s _ _ h with q | ⟨q, _⟩
    · exact .xo1 q e r
    · cases q
  | ev0 h =>
    rcases s _ _ h with q | ⟨q, _⟩
    · exact .ev0 q
    · cases q
  | ev1 h h2 e r =>
    rcases s _ _ h with q | ⟨q, _⟩
    · rcases s _ _ h2 with q2 | ⟨q2, _⟩
      · exact .ev1 q q2 e r
      · cases q2
    · cases q
theorem Con.read {a : Addr} {d : D} (c : Con K G la H a d) : Rd1 K G la H (.ref a) d := by
  cases c with
  | lst h r => exact .lst h r
  | dct h e r => exact .dct (.inl h) e r
  | dtt h e r => exact .dtt (.inl h) e r
  | obj h e r => exact .obj h e r
theorem Bd.read (b : Bd K G la st H env σ) {v : V} {x : XV} {d : D} (o : OutX K G la H0 H env σ v x) (e : x.con st = some d) : Rd1 K G la H v d := by
  cases x with
  | v y =>
    cases y with
    | cell n =>
      cases o with
      | cell h =>
        have e1 : (st[n]?).join = some d := e
        have e2 : st[n]? = some (some d) := by
          cases q : st[n]? with
          | none => rw [q] at e1; cases e1
          | some w => rw [q] at e1; exact congrArg some e1
        exact (b.rel.cell n _ d h e2).1.read
    | _ => cases e; exact Rep.read b.rel.sub o rfl
  | n y =>
    cases e
    obtain ⟨a, rfl, c, _⟩ := o
    exact c.read
  | s i y =>
    cases e
    obtain ⟨a, h1, c, _⟩ := b.own i d o.1
    rw [o.2] at h1
    cases h1
    exact c.read
theorem Bd.readL (b : Bd K G la st H env σ) : ∀ {vs : List V} {xs : List XV} {ds : List D}, OutL K G la env σ vs xs → conL st xs = some ds → RdL K G la H vs ds
  | _, _, _, .nil, e => by cases e; exact .nil
  | _, _, ds, .v (d := d) (xs := xs) h t, e => by
    cases q : (XV.v d).con st with
    | none => simp [conL, q] at e
    | some y =>
      cases q2 : conL st xs with
      | none => simp [conL, q, q2] at e
      | some ys =>
        simp [conL, q, q2] at e
        subst e
        exact .cons (b.read (H0 := H) (x := .v d) h q) (b.readL t q2)
  | _, _, ds, .s (i := i) (d := d) (xs := xs) h1 h2 t, e => by
    cases q2 : conL st xs with
    | none => simp [conL, XV.con, q2] at e
    | some ys =>
      simp [conL, XV.con, q2] at e
      subst e
      exact .cons (b.read (H0 := H) (x := .s i d) ⟨h1, h2⟩ rfl) (b.readL t q2)
end

/-! ### operators and built-ins by data -/
/-- what a primitive gives: a value, or a new container -/
def OutZ (K : PySem.W.Frag) (G : Hp) (la : List Addr) (H0 H : Hp) (v : V) : XV → Prop
  | .v d => Rep K G la v d
  | .n d => ∃ a, v = .ref a ∧ Con K G la H a d ∧ G a = none ∧ a ∉ la ∧ H0 a = none
  | .s _ _ => False
theorem OutZ.toX {K : PySem.W.Frag} {G H0 H : Hp} {la : List Addr} {env : Env} {σ : L2.St} {v : V} {z : XV} (o : OutZ K G la H0 H v z) : OutX K G la H0 H env σ v z := by
  cases z with
  | v d => exact o
  | n d => exact o
  | s i d => exact False.elim o
/-- a primitive on contents -/
def rD (K : PySem.W.Frag) (f : List D → Option XV) : List V → Hp → VK → Prop := fun vs H Q => ∃ G la st ds, Rel K G la st H ∧ RdL K G la H vs ds ∧
  match f ds with
  | some z => ∀ v H' G', Post K G la H G' la st H' → OutZ K G' la H H' v z → Q v H'
  | none => False
/-- the arguments, then a primitive -/
def iPrim (f : List D → Option XV) (ms : M (List XV)) : M XV := fun env st => (ms env st).bind fun xs st1 => (lift ((conL st1 xs).bind f) st1)
section
variable {K : PySem.W.Frag} {W : WX} {f : List D → Option XV}
theorem prim_to {ms : M (List XV)} {σ : L2.St} {H : Hp} {Q : VK} (h : tE K W (iPrim f ms) σ H Q) : tA K W ms σ H fun vs H1 => rD K f vs H1 Q := by
  refine tA_bind h fun G la env st xs vs H1 b o w => ?_
  cases e2 : conL st xs with
  | none => rw [e2] at w; exact False.elim w
  | some ds =>
    rw [e2] at w
    refine ⟨G, la, st, ds, b.rel, b.readL o e2, ?_⟩
    simp only [Option.bind] at w
    cases e3 : f ds with
    | none => rw [e3] at w; exact w
    | some z =>
      rw [e3] at w
      exact fun v H' G' p2 o2 => w v H' G' la p2 o2.toX
end
def R2D (K : PySem.W.Frag) (f : List D → Option XV) : L2.R2 := fun x y H Q => rD K f [x, y] H Q
section
variable {X : Cx} {W : WX} {f : List D → Option XV} {a b : PySem.Expr} {ma mb : M XV} {pos : Pos}
theorem re_op {op : Operator} (ho : OpR X (binaryOp op) (R2D X.K f)) (ha : PE X a (tE X.K W ma)) (hb : PE X b (tE X.K W mb)) : PE X (.BinOp a op b pos) (tE X.K W (iPrim f (evCons ma (evCons mb evNil)))) :=
  peImp (pe_op ho ha hb) fun _ _ _ h => tA_two (prim_to h)
theorem re_cmp {op : CmpOp} (ho : OpR X (compareOp op) (R2D X.K f)) (ha : PE X a (tE X.K W ma)) (hb : PE X b (tE X.K W mb)) (hm : behindInMarks op b = false) : PE X (.Compare a [op] [b] pos) (tE X.K W (iPrim f (evCons ma (evCons mb evNil)))) :=
  peImp (pe_cmpR ho ha hb hm) fun _ _ _ h => tA_two (prim_to h)
theorem re_callB {id : String} {x : Str} {p : Pos} {e : PySem.Expr} {es : List PySem.Expr} {ms : M (List XV)} (hc : CallR X (.builtin id) (rD X.K f)) (hg : Gl X x) (hm : X.mg x = none) (hv : bootBuiltins x = some (.builtin id)) (ha : PA X (e :: es) (tA X.K W ms)) (hn : x ≠ "__name__" := by decide) (hdb : (x == ("__debug__" : Str)) = false := by decide)
    (he : starEach (e :: es) X.env = (false, eval e X.env) :: starEach es X.env := by rfl) (hpl : (backTo pos (starEach es X.env)).any (·.1) = false := by rfl) : PE X (.Call (.Name x p) (e :: es) [] pos) (tE X.K W (iPrim f ms)) :=
  peImp (pe_callB hc hg hm hv ha hn hdb he hpl) fun _ _ _ h => prim_to h
end

/-! ### names, constants -/
def iVar (i : Nat) : M XV := fun env st => match env[i]? with
  | some (some (.v d)) => .ok (.v d) st
  | some (some (.o d)) => .ok (.s i d) st
  | _ => .bad
def iCon (d : D) : M XV := fun _ st => .ok (.v d) st
section
variable {X : Cx} {W : WX}
theorem re_var {i : Nat} {x : Str} {pos : Pos} (h : PE X (.Name x pos) (tVar i)) : PE X (.Name x pos) (tE X.K W (iVar i)) := by
  refine peImp h fun σ H Q h => ?_
  obtain ⟨G, la, env, st, b, h⟩ := h
  unfold iVar at h
  cases e : env[i]? with
  | none => rw [e] at h; exact False.elim h
  | some o =>
    cases o with
    | none => rw [e] at h; exact False.elim h
    | some sl =>
      rw [e] at h
      cases sl with
      | v d =>
        obtain ⟨v, h1, h2⟩ := b.val i d e
        exact ⟨v, h1, h v H G la (Post.refl b.rel) h2⟩
      | o d =>
        obtain ⟨a, h1, c⟩ := b.own i d e
        exact ⟨_, h1, h (.ref a) H G la (Post.refl b.rel) ⟨e, h1⟩⟩
theorem con_to {K : PySem.W.Frag} {W : WX} {d : D} {v : V} (r : ∀ G la, Rep K G la v d) {σ : L2.St} {H : Hp} {Q : VK} (h : tE K W (iCon d) σ H Q) : Q v H := by
  obtain ⟨G, la, env, st, b, h⟩ := h
  exact h v H G la (Post.refl b.rel) (r G la)
theorem re_int {i : Int} {j : Nat} {pos : Pos} : PE X (.Constant (.int i) j pos) (tE X.K W (iCon (.int i))) := peImp pe_int fun _ _ _ h => con_to (fun _ _ => .int i) h
theorem re_bl {i : Bool} {j : Nat} {pos : Pos} : PE X (.Constant (.bool i) j pos) (tE X.K W (iCon (.bl i))) := peImp pe_bl fun _ _ _ h => con_to (fun _ _ => .bl i) h
theorem re_non {j : Nat} {pos : Pos} : PE X (.Constant .none j pos) (tE X.K W (iCon .non)) := peImp pe_non fun _ _ _ h => con_to (fun _ _ => .non) h
theorem re_str {i : Str} {j : Nat} {pos : Pos} : PE X (.Constant (.str i) j pos) (tE X.K W (iCon (.str i))) := peImp pe_str fun _ _ _ h => con_to (fun _ _ => .str i) h
theorem re_glob {d : D} {v : V} {x : Str} {u : Value} {pos : Pos} (r : ∀ G la, Rep X.K G la v d) (hg : Gl X x) (hm : X.mg x = some u) (ru : RelV v u) (hd : (x == ("__debug__" : Str)) = false := by decide) : PE X (.Name x pos) (tE X.K W (iCon d)) :=
  peImp (pe_glob hg hm ru hd) fun _ _ _ h => con_to r h
end

/-! ### displays -/
def getD : List XV → Option (List D)
  | [] => some []
  | .v d :: xs => (getD xs).bind fun ds => some (d :: ds)
  | _ => none
theorem OutL.reps {K : PySem.W.Frag} {G : Hp} {la : List Addr} {env : Env} {σ : L2.St} : ∀ {vs : List V} {xs : List XV} {ds : List D}, OutL K G la env σ vs xs → getD xs = some ds → RepL K G la vs ds
  | _, _, _, .nil, e => by cases e; exact .nil
  | _, _, ds, .v (d := d) (xs := xs) h t, e => by
    cases q : getD xs with
    | none => simp [getD, q] at e
    | some ys =>
      simp [getD, q] at e
      subst e
      exact .cons h (t.reps q)
  | _, _, _, .s _ _ _, e => by cases e
/-- the arguments, then f of them as they are -/
def iArgs (f : List XV → Option XV) (ms : M (List XV)) : M XV := fun env st => (ms env st).bind fun xs st1 => lift (f xs) st1
def fLst (xs : List XV) : Option XV := (getD xs).bind fun ds => if ds.length ≤ sizeLine then some (.n (.lst ds)) else none
def fTup (xs : List XV) : Option XV := (getD xs).bind fun ds => if ds.length ≤ sizeLine then some (.v (.tup ds)) else none
theorem Post.newf {K : PySem.W.Frag} {G H : Hp} {la : List Addr} {st : Store} (r : Rel K G la st H) {p : Addr} {o : HO} (hp : H p = none) : Post K G la H (upd G p o) la st (upd H p o) := by
  have pn := Post.new (o := o) r hp
  have g := r.sub.none_of hp
  refine ⟨same_upd g, Pre.refl _, pn.rel.freeze upd_same g (r.free hp), pn.keep, pn.newc, fun a u q => ?_⟩
  by_cases ea : a = p
  · exact .inr (.inl (ea ▸ hp))
  · rw [upd_ne ea] at q
    exact .inl q
section
variable {X : Cx} {W : WX} {es : List PySem.Expr} {ms : M (List XV)} {pos : Pos}
theorem re_lst (h : PA X es (tA X.K W ms)) : PE X (.List es pos) (tE X.K W (iArgs fLst ms)) := by
  refine peImp (pe_lst h) fun σ H Q hq => tA_bind hq fun G la env st xs vs H1 b o w => ?_
  obtain ⟨z, e1, w⟩ := want_lift w
  obtain ⟨ds, e, e1⟩ := Option.bind_eq_some_iff.mp e1
  have r := o.reps e
  by_cases hz : ds.length ≤ sizeLine
  · rw [if_pos hz] at e1
    cases e1
    refine ⟨by rw [r.length]; exact hz, fun p hp => ?_⟩
    exact w (.ref p) _ G la (Post.new b.rel hp) ⟨p, rfl, .lst upd_same r, b.rel.sub.none_of hp, b.rel.free hp, hp⟩
  · rw [if_neg hz] at e1
    cases e1
theorem re_tup {k : Nat} (h : PA X es (tA X.K W ms)) : PE X (.Tuple es k pos) (tE X.K W (iArgs fTup ms)) := by
  refine peImp (pe_tup h) fun σ H Q hq => tA_bind hq fun G la env st xs vs H1 b o w => ?_
  obtain ⟨z, e1, w⟩ := want_lift w
  obtain ⟨ds, e, e1⟩ := Option.bind_eq_some_iff.mp e1
  have r := o.reps e
  by_cases hz : ds.length ≤ sizeLine
  · rw [if_pos hz] at e1
    cases e1
    refine ⟨by rw [r.length]; exact hz, fun p hp => ?_⟩
    exact w (.ref p) _ (upd G p (.tup vs)) la (Post.newf b.rel hp) (.tup upd_same (r.mono (same_upd (b.rel.sub.none_of hp)) (Pre.refl _)))
  · rw [if_neg hz] at e1
    cases e1
end
end Y

set_option maxHeartbeats 4000000
/-! Y2: tests, statements, what a def promises. -/
namespace Y
open PySem L2

/-! ### tests -/
def truD : D → Option Bool
  | .non => some false
  | .bl b => some b
  | .int i => some (i != 0)
  | .str s => if s.length ≤ sizeLine then some ((s.length : Int) != 0) else none
  | .lst xs => some (!xs.isEmpty)
  | .tup xs => some (!xs.isEmpty)
  | _ => none
theorem RepL.isEmpty {K : PySem.W.Frag} {G : Hp} {la : List Addr} {vs : List V} {ds : List D} (r : RepL K G la vs ds) : ds.isEmpty = vs.isEmpty := by
  cases r <;> rfl
theorem Rd1.tru {K : PySem.W.Frag} {G H : Hp} {la : List Addr} {v : V} {d : D} {b : Bool} (r : Rd1 K G la H v d) (e : truD d = some b) : TruV K v H b := by
  cases r with
  | non => cases e; rfl
  | bl b => cases e; rfl
  | int i => cases e; rfl
  | str s =>
    unfold truD at e
    dsimp only at e
    by_cases h : s.length ≤ sizeLine
    · rw [if_pos h] at e
      cases e
      exact ⟨h, rfl⟩
    · rw [if_neg h] at e
      cases e
  | lst h r => cases e; exact .inl ⟨_, SqL.of h, by rw [r.isEmpty]⟩
  | tup h r => cases e; exact .inr (.inl ⟨_, SqT.of h, by rw [r.isEmpty]⟩)
  | scr => cases e
  | dct => cases e
  | dtt => cases e
  | obj => cases e
  | xo0 => cases e
  | xo1 => cases e
  | ev0 => cases e
  | ev1 => cases e
/-- an expression as a test: by truth; one that gives a bool -/
def iTru (m : M XV) : M Bool := fun env st => (m env st).bind fun x st1 => lift ((x.con st1).bind truD) st1
def isB : XV → Option Bool
  | .v (.bl b) => some b
  | _ => none
def iBoo (m : M XV) : M Bool := fun env st => (m env st).bind fun x st1 => lift (isB x) st1
def iNotT (m : M Bool) : M Bool := fun env st => (m env st).bind fun b st1 => .ok (!b) st1
def iAndT (m n : M Bool) : M Bool := fun env st => (m env st).bind fun b st1 => if b = true then n env st1 else .ok false st1
def iOrT (m n : M Bool) : M Bool := fun env st => (m env st).bind fun b st1 => if b = true then .ok true st1 else n env st1
def iIf {α : Type} (c : M Bool) (m n : M α) : M α := fun env st => (c env st).bind fun b st1 => if b = true then m env st1 else n env st1
theorem XV.con_fz {st : Store} {x : XV} {d : D} (e : x.con st = some d) (h : ∀ k, x = .n (.cell k) → False) : x.fz.con st = some d := by
  cases x with
  | v y => exact e
  | s i y => exact e
  | n y =>
    cases y with
    | cell k => exact (h k rfl).elim
    | _ => exact e
section
variable {K : PySem.W.Frag} {W : WX}
/-- a test ahead of a test -/
theorem tT_bind {α γ : Type} {O : Env → Hp → List Addr → Hp → Hp → α → γ → Prop} {m : M Bool} {k : Bool → Env → Store → Res α} {σ : L2.St} {H : Hp} {Q : γ → Hp → Prop} {R : Bool → Hp → Prop}
    (back : ∀ G la H G1 la1 st1 H1 env, Post K G la H G1 la1 st1 H1 → ∀ G' la' H' x v, Pre la1 la' → O env G' la' H1 H' x v → O env G' la' H H' x v)
    (h : ∃ G la env st, Bd K G la st H env σ ∧ Want K W (O env) G la H σ Q ((m env st).bind fun b st1 => k b env st1))
    (c : ∀ G la env st b H1, Bd K G la st H1 env σ → Want K W (O env) G la H1 σ Q (k b env st) → R b H1) : tT K W m σ H R := by
  obtain ⟨G, la, env, st, b, h⟩ := h
  refine ⟨G, la, env, st, b, ?_⟩
  cases e : m env st with
  | bad => rw [e] at h; exact h
  | ex c fs st1 => rw [e] at h; exact h
  | ok x st1 =>
    rw [e] at h
    intro v H1 G1 la1 p1 o1
    have o1 : x = v := o1
    subst o1
    exact c G1 la1 env st1 x H1 (b.step p1) (Want.after p1 (back _ _ _ _ _ _ _ _ p1) h)
theorem backT : ∀ (G : Hp) (la : List Addr) (H G1 : Hp) (la1 : List Addr) (st1 : Store) (H1 : Hp) (env : Env), Post K G la H G1 la1 st1 H1 → ∀ (G' : Hp) (la' : List Addr) (H' : Hp) (x v : Bool), Pre la1 la' → OT G' la' H1 H' x v → OT G' la' H H' x v := fun _ _ _ _ _ _ _ _ _ _ _ _ _ _ _ o => o
end
section
variable {X : Cx} {W : WX} {a b c : PySem.Expr} {pos : Pos}
theorem rt_cmp {op : CmpOp} {r : L2.R2} {ta tb : TE} {m : M XV} (ho : OpR X (compareOp op) r) (ha : PE X a ta) (hb : PE X b tb) (hm : behindInMarks op b = false) (hi : ∀ σ H Q, tE X.K W m σ H Q → tOp r ta tb σ H Q) : PT X (.Compare a [op] [b] pos) (tT X.K W (iBoo m)) := by
  refine ptImp (pt_cmpR ho ha hb hm) fun σ H Q h => hi σ H _ ?_
  refine tE_bind (O := fun _ => OT) backT h fun G la env st x v H1 b o w => ?_
  obtain ⟨k, e, w⟩ := want_lift w
  unfold isB at e
  split at e
  · cases e
    have o : Rep X.K G la v (.bl k) := o
    cases o
    exact ⟨k, rfl, w k H1 G la (Post.refl b.rel) rfl⟩
  · cases e
theorem rt_cmpD {op : CmpOp} {f : List D → Option XV} {ma mb : M XV} (ho : OpR X (compareOp op) (R2D X.K f)) (ha : PE X a (tE X.K W ma)) (hb : PE X b (tE X.K W mb)) (hm : behindInMarks op b = false) : PT X (.Compare a [op] [b] pos) (tT X.K W (iBoo (iPrim f (evCons ma (evCons mb evNil))))) :=
  rt_cmp ho ha hb hm fun _ _ _ h => tA_two (prim_to h)
theorem rt_tru {m : M XV} (ha : PE X a (tE X.K W m)) (he : ∀ whole, isTrue a X.env whole = (do let v ← whole; standAt a.pos; holding [v] (truthy v)) := by intro _; rfl) : PT X a (tT X.K W (iTru m)) := by
  refine ptImp (pt_truth ha he) fun σ H Q h => ?_
  obtain ⟨G, la, env, st, b, h⟩ := h
  refine ⟨G, la, env, st, b, ?_⟩
  unfold iTru at h
  cases e : m env st with
  | bad => rw [e] at h; exact h
  | ex c fs st1 => rw [e] at h; exact h
  | ok x st1 =>
    rw [e] at h
    intro v H1 G1 la1 p1 o1
    obtain ⟨k, e1, w⟩ := want_lift h
    obtain ⟨d, e2, e3⟩ := Option.bind_eq_some_iff.mp e1
    exact ⟨k, ((b.step p1).read o1 e2).tru e3, w k H1 G1 la1 p1 rfl⟩
theorem rt_not {m : M Bool} (ha : PT X a (tT X.K W m)) : PT X (.UnaryOp .Not a pos) (tT X.K W (iNotT m)) := by
  refine ptImp (pt_not ha) fun σ H Q h => ?_
  exact tT_bind (O := fun _ => OT) backT h fun G la env st b H1 B w => w (!b) H1 G la (Post.refl B.rel) rfl
theorem rw_and1 {m : M Bool} (ha : PT X a (tT X.K W m)) : PW X (.BoolOp .And [a] pos) (tT X.K W m) := pw_and1 ha
theorem rw_or1 {m : M Bool} (ha : PT X a (tT X.K W m)) : PW X (.BoolOp .Or [a] pos) (tT X.K W m) := pw_or1 ha
theorem rw_and {rest : List PySem.Expr} {m n : M Bool} (ha : PT X a (tT X.K W m)) (hb : PW X (.BoolOp .And (b :: rest) pos) (tT X.K W n)) : PW X (.BoolOp .And (a :: b :: rest) pos) (tT X.K W (iAndT m n)) := by
  refine pwImp (pw_and ha hb) fun σ H Q h => ?_
  refine tT_bind (O := fun _ => OT) backT h fun G la env st b H1 B w => ?_
  by_cases c : b = true
  · rw [if_pos c] at w ⊢
    exact ⟨G, la, env, st, B, w⟩
  · rw [if_neg c] at w ⊢
    exact w false H1 G la (Post.refl B.rel) rfl
theorem rw_or {rest : List PySem.Expr} {m n : M Bool} (ha : PT X a (tT X.K W m)) (hb : PW X (.BoolOp .Or (b :: rest) pos) (tT X.K W n)) : PW X (.BoolOp .Or (a :: b :: rest) pos) (tT X.K W (iOrT m n)) := by
  refine pwImp (pw_or ha hb) fun σ H Q h => ?_
  refine tT_bind (O := fun _ => OT) backT h fun G la env st b H1 B w => ?_
  by_cases c : b = true
  · rw [if_pos c] at w ⊢
    exact w true H1 G la (Post.refl B.rel) rfl
  · rw [if_neg c] at w ⊢
    exact ⟨G, la, env, st, B, w⟩
theorem re_ifExp {c : PySem.Expr} {mc : M Bool} {ma mb : M XV} (hc : PT X c (tT X.K W mc)) (ha : PE X a (tE X.K W ma)) (hb : PE X b (tE X.K W mb)) : PE X (.IfExp c a b pos) (tE X.K W (iIf mc ma mb)) := by
  refine peImp (pe_ifExp hc ha hb) fun σ H Q h => ?_
  refine tT_bind (O := fun env => OE X.K env σ) backE h fun G la env st b H1 B w => ?_
  by_cases c : b = true
  · rw [if_pos c] at w ⊢
    exact ⟨G, la, env, st, B, w⟩
  · rw [if_neg c] at w ⊢
    exact ⟨G, la, env, st, B, w⟩
/-- a and b, a or b, not a as values, by truth -/
def iAndV (m n : M XV) : M XV := fun env st => (m env st).bind fun x st1 => (lift ((x.fz.con st1).bind truD) st1).bind fun k st2 => if k = true then n env st2 else .ok x.fz st2
def iOrV (m n : M XV) : M XV := fun env st => (m env st).bind fun x st1 => (lift ((x.fz.con st1).bind truD) st1).bind fun k st2 => if k = true then .ok x.fz st2 else n env st2
def iNotV (m : M XV) : M XV := fun env st => (m env st).bind fun x st1 => (lift ((x.fz.con st1).bind truD) st1).bind fun k st2 => .ok (.v (.bl (!k))) st2
theorem want_liftB {α β γ : Type} {K : PySem.W.Frag} {G H : Hp} {la : List Addr} {σ : L2.St} {O : Hp → List Addr → Hp → Hp → α → β → Prop} {Q : β → Hp → Prop} {o : Option γ} {st : Store} {k : γ → Store → Res α} (w : Want K W O G la H σ Q ((lift o st).bind k)) : ∃ z, o = some z ∧ Want K W O G la H σ Q (k z st) := by
  cases o with
  | none => exact False.elim w
  | some z => exact ⟨z, rfl, w⟩
theorem Bd.outFz {K : PySem.W.Frag} {G H0 H : Hp} {la : List Addr} {env : Env} {σ : L2.St} {v : V} {x : XV} (o : OutX K G la H0 H env σ v x.fz) (H' : Hp) : OutX K G la H' H env σ v x.fz := by
  cases x with
  | v d => exact o
  | n d => exact o
  | s i d => exact o
theorem re_andT {rest : List PySem.Expr} {m n : M XV} (ha : PE X a (tE X.K W m)) (hb : PE X (.BoolOp .And (b :: rest) pos) (tE X.K W n)) : PE X (.BoolOp .And (a :: b :: rest) pos) (tE X.K W (iAndV m n)) := by
  refine peImp (pe_andT ha hb) fun σ H Q h => ?_
  refine tE_bind (O := fun env => OE X.K env σ) backE h fun G la env st x v H1 B o w => ?_
  obtain ⟨k, e1, w⟩ := want_liftB w
  obtain ⟨d, e2, e3⟩ := Option.bind_eq_some_iff.mp e1
  refine ⟨k, (B.read o e2).tru e3, ?_⟩
  by_cases c : k = true
  · rw [if_pos c] at w ⊢
    exact ⟨G, la, env, st, B, w⟩
  · rw [if_neg c] at w ⊢
    exact w v H1 G la (Post.refl B.rel) o
theorem re_orT {rest : List PySem.Expr} {m n : M XV} (ha : PE X a (tE X.K W m)) (hb : PE X (.BoolOp .Or (b :: rest) pos) (tE X.K W n)) : PE X (.BoolOp .Or (a :: b :: rest) pos) (tE X.K W (iOrV m n)) := by
  refine peImp (pe_orT ha hb) fun σ H Q h => ?_
  refine tE_bind (O := fun env => OE X.K env σ) backE h fun G la env st x v H1 B o w => ?_
  obtain ⟨k, e1, w⟩ := want_liftB w
  obtain ⟨d, e2, e3⟩ := Option.bind_eq_some_iff.mp e1
  refine ⟨k, (B.read o e2).tru e3, ?_⟩
  by_cases c : k = true
  · rw [if_pos c] at w ⊢
    exact w v H1 G la (Post.refl B.rel) o
  · rw [if_neg c] at w ⊢
    exact ⟨G, la, env, st, B, w⟩
theorem re_notT {m : M XV} (ha : PE X a (tE X.K W m)) : PE X (.UnaryOp .Not a pos) (tE X.K W (iNotV m)) := by
  refine peImp (pe_notT ha) fun σ H Q h => ?_
  refine tE_bind (O := fun env => OE X.K env σ) backE h fun G la env st x v H1 B o w => ?_
  obtain ⟨k, e1, w⟩ := want_liftB w
  obtain ⟨d, e2, e3⟩ := Option.bind_eq_some_iff.mp e1
  exact ⟨k, (B.read o e2).tru e3, w (.bl (!k)) H1 G la (Post.refl B.rel) (.bl _)⟩
theorem re_one {op : BoolOp} {m : M XV} (ha : PE X a (tE X.K W m)) : PE X (.BoolOp op [a] pos) (tE X.K W m) := pe_one ha
end

/-! ### statements -/
inductive Fl where
  | nx (env : Env) (st : Store) | rt (x : XV) (st : Store) | bk (env : Env) (st : Store) | ct (env : Env) (st : Store)
  | ex (c : Str) (fs : List (Str × D)) (env : Env) (st : Store) | bad
abbrev MS := Env → Store → Fl
/-- the def's entry and now -/
structure Fr (K : PySem.W.Frag) (G0 : Hp) (la0 : List Addr) (H0 G : Hp) (la : List Addr) (st : Store) (H : Hp) (env : Env) (σ : L2.St) : Prop where
  bd : Bd K G la st H env σ
  post : Post K G0 la0 H0 G la st H
  fresh : ∀ (i : Nat) (d : D) (a : Addr), env[i]? = some (some (.o d)) → σ[i]? = some (some (.ref a)) → H0 a = none
  len : env.length = σ.length
section
variable {K : PySem.W.Frag} {G0 H0 G H G' H' : Hp} {la0 la la' : List Addr} {st st' : Store} {env : Env} {σ : L2.St}
theorem Fr.step (f : Fr K G0 la0 H0 G la st H env σ) (p : Post K G la H G' la' st' H') : Fr K G0 la0 H0 G' la' st' H' env σ :=
  ⟨f.bd.step p, f.post.trans p, f.fresh, f.len⟩
end
def WantS (K : PySem.W.Frag) (W : WX) (G0 : Hp) (la0 : List Addr) (H0 : Hp) (Gs : Hp) (ls : List Addr) (D : Ends) : Fl → Prop
  | .nx env st => ∀ σ H G la, Fr K G0 la0 H0 G la st H env σ → Same Gs G → Pre ls la → D.nx σ H
  | .bk env st => ∀ σ H G la, Fr K G0 la0 H0 G la st H env σ → Same Gs G → Pre ls la → D.bk σ H
  | .ct env st => ∀ σ H G la, Fr K G0 la0 H0 G la st H env σ → Same Gs G → Pre ls la → D.ct σ H
  | .rt x st => ∀ v H G la, Post K G0 la0 H0 G la st H → OutZ K G la H0 H v x → D.rt v H
  | .ex c fs env st => ∀ d σ H G la, Fr K G0 la0 H0 G la st H env σ → ExAt K G la H d fs → W (.ref (He.ga K c)) d σ H
  | .bad => False
theorem WantS.mono {K : PySem.W.Frag} {W : WX} {G0 H0 Gs Gt : Hp} {la0 ls lt : List Addr} {D : Ends} {f : Fl} (w : WantS K W G0 la0 H0 Gs ls D f) (s : Same Gs Gt) (p : Pre ls lt) : WantS K W G0 la0 H0 Gt lt D f := by
  cases f with
  | nx env st => exact fun σ H G la f s' p' => w σ H G la f (s.trans s') (p.trans p')
  | bk env st => exact fun σ H G la f s' p' => w σ H G la f (s.trans s') (p.trans p')
  | ct env st => exact fun σ H G la f s' p' => w σ H G la f (s.trans s') (p.trans p')
  | rt x st => exact w
  | ex c fs env st => exact w
  | bad => exact w
def tS (K : PySem.W.Frag) (W : WX) (G0 : Hp) (la0 : List Addr) (H0 : Hp) (m : MS) : TS := fun D σ H => ∃ G la env st, Fr K G0 la0 H0 G la st H env σ ∧ WantS K W G0 la0 H0 G la D (m env st)

def Res.fl {α : Type} (r : Res α) (env : Env) (k : α → Store → Fl) : Fl :=
  match r with
  | .ok a st => k a st
  | .ex c fs st => .ex c fs env st
  | .bad => .bad
def Fl.bind (f : Fl) (k : Env → Store → Fl) : Fl :=
  match f with
  | .nx env st => k env st
  | f => f
def sNil : MS := fun env st => .nx env st
def sCons (m n : MS) : MS := fun env st => (m env st).bind n
def sPass : MS := fun env st => .nx env st
def sBreak : MS := fun env st => .bk env st
def sCont : MS := fun env st => .ct env st
def XV.out : XV → XV
  | .s _ d => .n d
  | x => x
def sRet (m : M XV) : MS := fun env st => (m env st).fl env fun x st1 => .rt x.out st1
def sRetN : MS := fun _ st => .rt (.v .non) st
def sExpr (m : M XV) : MS := fun env st => (m env st).fl env fun _ st1 => .nx env st1
def sIf (c : M Bool) (m n : MS) : MS := fun env st => (c env st).fl env fun b st1 => if b = true then m env st1 else n env st1
def asV : XV → Option Sl
  | .v d => some (.v d)
  | .n d => some (.v d)
  | .s _ _ => none
def asO : XV → Option Sl
  | .n d => some (.o d)
  | _ => none
def flLift {α : Type} (o : Option α) (k : α → Fl) : Fl :=
  match o with
  | some a => k a
  | none => .bad
/-- x = e: a value; a container of one's own; a new cell of the store -/
def sSet (i : Nat) (m : M XV) : MS := fun env st => (m env st).fl env fun x st1 => flLift (asV x) fun s => .nx (env.set i (some s)) st1
def sSetO (i : Nat) (m : M XV) : MS := fun env st => (m env st).fl env fun x st1 => flLift (asO x) fun s => .nx (env.set i (some s)) st1
def sSetC (i : Nat) (m : M XV) : MS := fun env st => (m env st).fl env fun x st1 => match x with
  | .n d => .nx (env.set i (some (.v (.cell st1.length)))) (st1 ++ [some d])
  | _ => .bad

section
variable {K : PySem.W.Frag} {G0 H0 G H G' H' : Hp} {la0 la la' : List Addr} {st st' : Store} {env : Env} {σ : L2.St} {W : WX} {D : Ends}
theorem getset {α : Type} {l : List α} {i j : Nat} {a b : α} (h : (l.set i a)[j]? = some b) : (j = i ∧ i < l.length ∧ b = a) ∨ (j ≠ i ∧ l[j]? = some b) := by
  by_cases e : i = j
  · subst e
    by_cases hl : i < l.length
    · rw [List.getElem?_set_self hl] at h
      exact .inl ⟨rfl, hl, (Option.some.inj h).symm⟩
    · rw [List.getElem?_eq_none (by simpa using hl)] at h
      cases h
  · rw [List.getElem?_set_ne e] at h
    exact .inr ⟨fun q => e q.symm, h⟩
theorem set_get {α : Type} {l : List α} {i : Nat} {a : α} (h : i < l.length) : (l.set i a)[i]? = some a := List.getElem?_set_self h
theorem set_ne {α : Type} {l : List α} {i j : Nat} {a : α} (h : j ≠ i) : (l.set i a)[j]? = l[j]? := List.getElem?_set_ne fun e => h e.symm
/-- a slot gets a value -/
theorem Fr.setV (f : Fr K G0 la0 H0 G la st H env σ) (i : Nat) {v : V} {d : Y.D} (r : Rep K G la v d) : Fr K G0 la0 H0 G la st H (env.set i (some (.v d))) (σ.set i (some v)) where
  bd := {
    rel := f.bd.rel
    val := fun j e h => by
      rcases getset h with ⟨rfl, hl, q⟩ | ⟨n, h⟩
      · cases q
        exact ⟨v, set_get (by rw [← f.len]; exact hl), r⟩
      · rw [set_ne n]
        exact f.bd.val j e h
    own := fun j e h => by
      rcases getset h with ⟨rfl, hl, q⟩ | ⟨n, h⟩
      · cases q
      · rw [set_ne n]
        exact f.bd.own j e h
    apart := fun j k e e' a h1 h2 h3 h4 => by
      rcases getset h1 with ⟨rfl, hl, q⟩ | ⟨n1, h1⟩
      · cases q
      · rcases getset h2 with ⟨rfl, hl, q⟩ | ⟨n2, h2⟩
        · cases q
        · rw [set_ne n1] at h3
          rw [set_ne n2] at h4
          exact f.bd.apart j k e e' a h1 h2 h3 h4
    len := by rw [List.length_set, List.length_set]; exact f.len }
  post := f.post
  fresh := fun j e a h1 h2 => by
    rcases getset h1 with ⟨rfl, hl, q⟩ | ⟨n1, h1⟩
    · cases q
    · rw [set_ne n1] at h2
      exact f.fresh j e a h1 h2
  len := by rw [List.length_set, List.length_set]; exact f.len
/-- a slot gets a container of its own -/
theorem Fr.setO (f : Fr K G0 la0 H0 G la st H env σ) (i : Nat) {a : Addr} {d : Y.D} (c : Con K G la H a d) (g : G a = none) (n : a ∉ la) (fr : H0 a = none) (ap : ∀ (j : Nat) (e : Y.D), j ≠ i → env[j]? = some (some (.o e)) → σ[j]? = some (some (.ref a)) → False) :
    Fr K G0 la0 H0 G la st H (env.set i (some (.o d))) (σ.set i (some (.ref a))) where
  bd := {
    rel := f.bd.rel
    val := fun j e h => by
      rcases getset h with ⟨rfl, hl, q⟩ | ⟨n, h⟩
      · cases q
      · rw [set_ne n]
        exact f.bd.val j e h
    own := fun j e h => by
      rcases getset h with ⟨rfl, hl, q⟩ | ⟨n', h⟩
      · cases q
        exact ⟨a, set_get (by rw [← f.len]; exact hl), c, g, n⟩
      · rw [set_ne n']
        exact f.bd.own j e h
    apart := fun j k e e' b h1 h2 h3 h4 => by
      rcases getset h1 with ⟨q0, hl, q⟩ | ⟨n1, g1⟩
      · rcases getset h2 with ⟨q1, hl2, q2⟩ | ⟨n2, g2⟩
        · exact q0.trans q1.symm
        · rw [q0, set_get (by rw [← f.len]; exact hl)] at h3
          cases h3
          rw [set_ne n2] at h4
          exact (ap k e' n2 g2 h4).elim
      · rcases getset h2 with ⟨q1, hl2, q2⟩ | ⟨n2, g2⟩
        · rw [q1, set_get (by rw [← f.len]; exact hl2)] at h4
          cases h4
          rw [set_ne n1] at h3
          exact (ap j e n1 g1 h3).elim
        · rw [set_ne n1] at h3
          rw [set_ne n2] at h4
          exact f.bd.apart j k e e' b g1 g2 h3 h4
    len := by rw [List.length_set, List.length_set]; exact f.len }
  post := f.post
  fresh := fun j e b h1 h2 => by
    rcases getset h1 with ⟨rfl, hl, q⟩ | ⟨n1, h1⟩
    · rw [set_get (by rw [← f.len]; exact hl)] at h2
      cases h2
      exact fr
    · rw [set_ne n1] at h2
      exact f.fresh j e b h1 h2
  len := by rw [List.length_set, List.length_set]; exact f.len
/-- a container that nobody holds becomes a cell -/
theorem Rel.cellOf (r : Rel K G la st H) {a : Addr} {d : Y.D} (c : Con K G la H a d) (g : G a = none) (n : a ∉ la) : Rel K G (la ++ [a]) (st ++ [some d]) H where
  sub := r.sub
  len := by rw [List.length_append, List.length_append, r.len]; rfl
  nd := by
    rw [List.nodup_append]
    refine ⟨r.nd, by simp, fun x hx y hy e => ?_⟩
    simp at hy
    subst hy
    exact n (e ▸ hx)
  cell := fun k b e h1 h2 => by
    by_cases hk : k < la.length
    · rw [List.getElem?_append_left hk] at h1
      rw [List.getElem?_append_left (by rw [← r.len]; exact hk)] at h2
      obtain ⟨q, g'⟩ := r.cell k b e h1 h2
      exact ⟨q.mono (Same.refl _) (Pre.app _ _) rfl, g'⟩
    · rw [List.getElem?_append_right (Nat.le_of_not_lt hk)] at h1
      rw [List.getElem?_append_right (by rw [← r.len]; exact Nat.le_of_not_lt hk)] at h2
      have k0 : k - la.length = 0 := by
        by_cases z : k - la.length = 0
        · exact z
        · rw [List.getElem?_eq_none (by simp; omega)] at h1
          cases h1
      rw [k0] at h1
      rw [← r.len, k0] at h2
      cases h1
      cases h2
      exact ⟨c.mono (Same.refl _) (Pre.app _ _) rfl, g⟩
  there := fun b hb => by
    rcases List.mem_append.mp hb with h | h
    · exact r.there b h
    · simp at h
      subst h
      exact c.there
theorem Post.cellOf (p : Post K G0 la0 H0 G la st H) {a : Addr} {d : Y.D} (c : Con K G la H a d) (g : G a = none) (n : a ∉ la) (f : H0 a = none) : Post K G0 la0 H0 G (la ++ [a]) (st ++ [some d]) H where
  same := p.same
  pre := p.pre.trans (Pre.app _ _)
  rel := p.rel.cellOf c g n
  keep := p.keep
  newc := fun b hb hn => by
    rcases List.mem_append.mp hb with h | h
    · exact p.newc b h hn
    · simp at h
      subst h
      exact f
  newg := p.newg
/-- an expression, then k -/
theorem tE_stmt {m : M XV} {k : XV → Env → Store → Fl} {R : VK} (h : tS K W G0 la0 H0 (fun env st => (m env st).fl env fun x st1 => k x env st1) D σ H)
    (c : ∀ G la env st x v H1 Hs, Fr K G0 la0 H0 G la st H1 env σ → OutX K G la Hs H1 env σ v x → (∀ a, a ∉ la → Hs a = none → H0 a = none) → (∀ a u, Hs a = some u → a ∉ la → H1 a = some u) →
      (∀ (j : Nat) (e : Y.D) (a : Addr), env[j]? = some (some (Sl.o e)) → σ[j]? = some (some (V.ref a)) → ∃ u, Hs a = some u) → WantS K W G0 la0 H0 G la D (k x env st) → R v H1) : tE K W m σ H R := by
  obtain ⟨G, la, env, st, f, h⟩ := h
  refine ⟨G, la, env, st, f.bd, ?_⟩
  dsimp only at h
  cases e : m env st with
  | bad => rw [e] at h; exact h
  | ex c fs st1 =>
    rw [e] at h
    exact fun d H' G' la' p x => h d σ H' G' la' (f.step p) x
  | ok x st1 =>
    rw [e] at h
    intro v H1 G1 la1 p1 o1
    refine c G1 la1 env st1 x v H1 H (f.step p1) o1 (fun a n z => ?_) (fun a u z n => p1.keep a u z fun hm => n (p1.pre.mem hm)) (fun j e a h1 h2 => ?_) (h.mono p1.same p1.pre)
    · exact fresh_back f.post p1.pre n z
    · obtain ⟨b, h3, c, _⟩ := f.bd.own j e h1
      rw [h2] at h3
      cases h3
      exact c.there
theorem tT_stmt {m : M Bool} {k : Bool → Env → Store → Fl} {R : Bool → Hp → Prop} (h : tS K W G0 la0 H0 (fun env st => (m env st).fl env fun x st1 => k x env st1) D σ H)
    (c : ∀ G la env st b H1, Fr K G0 la0 H0 G la st H1 env σ → WantS K W G0 la0 H0 G la D (k b env st) → R b H1) : tT K W m σ H R := by
  obtain ⟨G, la, env, st, f, h⟩ := h
  refine ⟨G, la, env, st, f.bd, ?_⟩
  dsimp only at h
  cases e : m env st with
  | bad => rw [e] at h; exact h
  | ex c fs st1 =>
    rw [e] at h
    exact fun d H' G' la' p x => h d σ H' G' la' (f.step p) x
  | ok x st1 =>
    rw [e] at h
    intro v H1 G1 la1 p1 o1
    have o1 : x = v := o1
    subst o1
    exact c G1 la1 env st1 x H1 (f.step p1) (h.mono p1.same p1.pre)
theorem wantS_lift {α : Type} {o : Option α} {k : α → Fl} {Gs : Hp} {ls : List Addr} (w : WantS K W G0 la0 H0 Gs ls D (flLift o k)) : ∃ z, o = some z ∧ WantS K W G0 la0 H0 Gs ls D (k z) := by
  cases o with
  | none => exact False.elim w
  | some z => exact ⟨z, rfl, w⟩
end

section
variable {X : Cx} {W : WX} {G0 H0 : Hp} {la0 : List Addr} {e c : PySem.Expr} {s : PySem.Stmt} {rest : List PySem.Stmt} {pos : Pos} {m : M XV} {t u : MS}
theorem rss_nil : PSs X [] (tS X.K W G0 la0 H0 sNil) := pssImp pss_nil fun D σ H h => by
  obtain ⟨G, la, env, st, f, h⟩ := h
  exact h σ H G la f (Same.refl _) (Pre.refl _)
theorem wantS_bind {K : PySem.W.Frag} {D : Ends} {f : Fl} {k : MS} {Gs : Hp} {ls : List Addr} (w : WantS K W G0 la0 H0 Gs ls D (f.bind k)) : WantS K W G0 la0 H0 Gs ls { D with nx := fun σ H => tS K W G0 la0 H0 k D σ H } f := by
  cases f with
  | nx env st => exact fun σ H G la q s p => ⟨G, la, env, st, q, w.mono s p⟩
  | rt x st => exact w
  | bk env st => exact w
  | ct env st => exact w
  | ex c fs env st => exact w
  | bad => exact w
theorem rss_cons (h1 : PS X s (tS X.K W G0 la0 H0 t)) (h2 : PSs X rest (tS X.K W G0 la0 H0 u)) : PSs X (s :: rest) (tS X.K W G0 la0 H0 (sCons t u)) := by
  refine pssImp (pss_cons h1 h2) fun D σ H h => ?_
  obtain ⟨G, la, env, st, f, h⟩ := h
  exact ⟨G, la, env, st, f, wantS_bind h⟩
theorem rss_one (h1 : PS X s (tS X.K W G0 la0 H0 t)) : PSs X [s] (tS X.K W G0 la0 H0 t) := pss_one h1
theorem rs_pass : PS X (.Pass pos) (tS X.K W G0 la0 H0 sPass) := psImp ps_pass fun D σ H h => by
  obtain ⟨G, la, env, st, f, h⟩ := h
  exact h σ H G la f (Same.refl _) (Pre.refl _)
theorem rs_break : PS X (.Break pos) (tS X.K W G0 la0 H0 sBreak) := psImp ps_break fun D σ H h => by
  obtain ⟨G, la, env, st, f, h⟩ := h
  exact h σ H G la f (Same.refl _) (Pre.refl _)
theorem rs_cont : PS X (.Continue pos) (tS X.K W G0 la0 H0 sCont) := psImp ps_continue fun D σ H h => by
  obtain ⟨G, la, env, st, f, h⟩ := h
  exact h σ H G la f (Same.refl _) (Pre.refl _)
theorem rs_ret (h : PE X e (tE X.K W m)) : PS X (.Return (some e) pos) (tS X.K W G0 la0 H0 (sRet m)) := by
  refine psImp (ps_ret h) fun D σ H h => ?_
  refine tE_stmt h fun G la env st x v H1 Hs f o fr _ _ w => ?_
  cases x with
  | v d => exact w v H1 G la f.post o
  | n d =>
    obtain ⟨a, e, c, g, n, z⟩ := o
    exact w v H1 G la f.post ⟨a, e, c, g, n, fr a n z⟩
  | s i d =>
    obtain ⟨a, h1, c, g, n⟩ := f.bd.own i d o.1
    have h2 := o.2
    rw [h1] at h2
    cases h2
    exact w (.ref a) H1 G la f.post ⟨a, rfl, c, g, n, f.fresh i d a o.1 h1⟩
theorem rs_retN : PS X (.Return none pos) (tS X.K W G0 la0 H0 sRetN) := psImp ps_retN fun D σ H h => by
  obtain ⟨G, la, env, st, f, h⟩ := h
  exact h .non H G la f.post .non
theorem rs_expr (h : PE X e (tE X.K W m)) (hs : swapsWith e none pos.line X.env = pure false := by rfl) : PS X (.Expr e pos) (tS X.K W G0 la0 H0 (sExpr m)) := by
  refine psImp (ps_expr h hs) fun D σ H h => ?_
  exact tE_stmt h fun G la env st x v H1 Hs f o fr _ _ w => w σ H1 G la f (Same.refl _) (Pre.refl _)
theorem rs_if {mc : M Bool} {a b : List PySem.Stmt} (hc : PT X c (tT X.K W mc)) (ha : PSs X a (tS X.K W G0 la0 H0 t)) (hb : PSs X b (tS X.K W G0 la0 H0 u)) : PS X (.If c a b pos) (tS X.K W G0 la0 H0 (sIf mc t u)) := by
  refine psImp (ps_if hc ha hb) fun D σ H h => ?_
  refine tT_stmt h fun G la env st b H1 f w => ?_
  by_cases z : b = true
  · rw [if_pos z] at w ⊢
    exact ⟨G, la, env, st, f, w⟩
  · rw [if_neg z] at w ⊢
    exact ⟨G, la, env, st, f, w⟩
/-- what stores of a name want -/
theorem OutX.frz {K : PySem.W.Frag} {G H0 H Hs : Hp} {la0 la : List Addr} {G0 : Hp} {st : Store} {env : Env} {σ : L2.St} {v : V} {x : XV} {s : Sl} (f : Fr K G0 la0 H0 G la st H env σ) (o : OutX K G la Hs H env σ v x) (fr : ∀ a, a ∉ la → Hs a = none → H0 a = none)
    (kp : ∀ (j : Nat) (e : Y.D) (a : Addr), env[j]? = some (some (Sl.o e)) → σ[j]? = some (some (V.ref a)) → ∃ u, Hs a = some u) (e : asV x = some s) : ∃ G' d, s = .v d ∧ Fr K G0 la0 H0 G' la st H env σ ∧ Rep K G' la v d ∧ Same G G' := by
  cases x with
  | v d => cases e; exact ⟨G, d, rfl, f, o, Same.refl _⟩
  | s i d => cases e
  | n d =>
    cases e
    obtain ⟨a, rfl, c, g, n, z⟩ := o
    obtain ⟨u, hu, r⟩ := c.rep g
    refine ⟨upd G a u, d, rfl, ⟨⟨f.bd.rel.freeze hu g n, fun i e h => ?_, fun i e h => ?_, f.bd.apart, f.bd.len⟩, ⟨f.post.same.trans (same_upd g), f.post.pre, f.bd.rel.freeze hu g n, f.post.keep, f.post.newc, fun b w q => ?_⟩, f.fresh, f.len⟩, r, same_upd g⟩
    · obtain ⟨v, h1, h2⟩ := f.bd.val i e h
      exact ⟨v, h1, h2.mono (same_upd g) (Pre.refl _)⟩
    · obtain ⟨b, h1, c2, g2, n2⟩ := f.bd.own i e h
      refine ⟨b, h1, c2.mono (same_upd g) (Pre.refl _) rfl, ?_, n2⟩
      by_cases q : b = a
      · subst q
        obtain ⟨u2, hu2⟩ := kp i e b h h1
        rw [z] at hu2
        cases hu2
      · rw [upd_ne q]
        exact g2
    · by_cases q2 : b = a
      · exact .inr (.inl (q2 ▸ fr a n z))
      · rw [upd_ne q2] at q
        exact f.post.newg b w q
theorem rs_setG {i : Nat} {tg : PySem.Expr} (h : PS X (.Assign [tg] e pos) (tAsg (tE X.K W m) (gName i))) : PS X (.Assign [tg] e pos) (tS X.K W G0 la0 H0 (sSet i m)) := by
  refine psImp h fun D σ H h => ?_
  refine tE_stmt h fun G la env st x v H1 Hs f o fr _ kp w => ?_
  obtain ⟨s, e, w⟩ := wantS_lift w
  obtain ⟨G', d, rfl, f', r, sm⟩ := OutX.frz f o fr kp e
  exact w _ H1 G' la (f'.setV i r) sm (Pre.refl _)
theorem rs_setOG {i : Nat} {tg : PySem.Expr} (h : PS X (.Assign [tg] e pos) (tAsg (tE X.K W m) (gName i))) : PS X (.Assign [tg] e pos) (tS X.K W G0 la0 H0 (sSetO i m)) := by
  refine psImp h fun D σ H h => ?_
  refine tE_stmt h fun G la env st x v H1 Hs f o fr _ kp w => ?_
  obtain ⟨s, e, w⟩ := wantS_lift w
  cases x with
  | v d => cases e
  | s i d => cases e
  | n d =>
    cases e
    obtain ⟨a, rfl, c, g, n, z⟩ := o
    refine w _ H1 G la (f.setO i c g n (fr a n z) fun j e hj h1 h2 => ?_) (Same.refl _) (Pre.refl _)
    obtain ⟨u, hu⟩ := kp j e a h1 h2
    rw [z] at hu
    cases hu
theorem rs_setCG {i : Nat} {tg : PySem.Expr} (h : PS X (.Assign [tg] e pos) (tAsg (tE X.K W m) (gName i))) : PS X (.Assign [tg] e pos) (tS X.K W G0 la0 H0 (sSetC i m)) := by
  refine psImp h fun D σ H h => ?_
  refine tE_stmt h fun G la env st x v H1 Hs f o fr _ kp w => ?_
  cases x with
  | v d => exact False.elim w
  | s i d => exact False.elim w
  | n d =>
    obtain ⟨a, rfl, c, g, n, z⟩ := o
    refine w _ H1 G (la ++ [a]) ?_ (Same.refl _) (Pre.app _ _)
    have f' : Fr X.K G0 la0 H0 G (la ++ [a]) (st ++ [some d]) H1 env σ := ⟨⟨f.bd.rel.cellOf c g n, fun i e h => ?_, fun i e h => ?_, f.bd.apart, f.bd.len⟩, f.post.cellOf c g n (fr a n z), f.fresh, f.len⟩
    · have hl : st.length = la.length := f.bd.rel.len.symm
      refine f'.setV i (.cell ?_)
      rw [hl, List.getElem?_append_right (Nat.le_refl _), Nat.sub_self]
      rfl
    · obtain ⟨v, h1, h2⟩ := f.bd.val i e h
      exact ⟨v, h1, h2.mono (Same.refl _) (Pre.app _ _)⟩
    · obtain ⟨b, h1, c2, g2, n2⟩ := f.bd.own i e h
      refine ⟨b, h1, c2.mono (Same.refl _) (Pre.app _ _) rfl, g2, fun hm => ?_⟩
      rcases List.mem_append.mp hm with q | q
      · exact n2 q
      · simp at q
        subst q
        obtain ⟨u2, hu2⟩ := kp i e b h h1
        rw [z] at hu2
        cases hu2
end

/-! ### defs -/
/-- a def by data: f of the arguments' data -/
def spY (K : PySem.W.Frag) (n : Nat) (f : List D → Store → Res XV) : Sp := fun vs H Q E => ∃ G la st ds, ds.length = n ∧ Rel K G la st H ∧ RepL K G la vs ds ∧
  match f ds st with
  | .ok x st' => ∀ v H' G' la', Post K G la H G' la' st' H' → OutZ K G' la' H H' v x → Q v H'
  | .ex c fs st' => ∀ d H' G' la', Post K G la H G' la' st' H' → ExAt K G' la' H' d fs → E (.ref (He.ga K c)) d H'
  | .bad => False
def Fl.res : Fl → Res XV
  | .nx _ st => .ok (.v .non) st
  | .rt x st => .ok x st
  | .ex c fs _ st => .ex c fs st
  | _ => .bad
/-- a def's body run at its arguments; n slots -/
def runF (n : Nat) (body : MS) (ds : List D) (st : Store) : Res XV := (body (ds.map (fun d => some (.v d)) ++ List.replicate (n - ds.length) none) st).res
theorem spY_len {K : PySem.W.Frag} {n : Nat} {f : List D → Store → Res XV} : ∀ vs H Q E, spY K n f vs H Q E → vs.length = n := fun vs H Q E ⟨G, la, st, ds, h1, h2, h3, _⟩ => h3.length.trans h1
theorem start_get {N : List Str} {vs : List V} {i : Nat} {v : V} (h : vs[i]? = some v) : (L2.start N vs)[i]? = some (some v) := by
  unfold L2.start
  have hi := (List.getElem?_eq_some_iff.mp h).1
  rw [List.getElem?_append_left (by simpa using hi), List.getElem?_map, h]
  rfl
theorem fr_start {K : PySem.W.Frag} {G H : Hp} {la : List Addr} {st : Store} {N : List Str} {vs : List V} {ds : List D} (r : Rel K G la st H) (h : RepL K G la vs ds) : Fr K G la H G la st H (ds.map (fun d => some (Sl.v d)) ++ List.replicate (N.length - ds.length) none) (L2.start N vs) where
  bd := {
    rel := r
    val := fun i d e => by
      by_cases hi : i < ds.length
      · rw [List.getElem?_append_left (by simpa using hi), List.getElem?_map] at e
        cases q : ds[i]? with
        | none => rw [q] at e; cases e
        | some y =>
          rw [q] at e
          cases e
          obtain ⟨v, h1, h2⟩ := h.get q
          exact ⟨v, start_get h1, h2⟩
      · rw [List.getElem?_append_right (by simpa using hi), List.getElem?_replicate] at e
        split at e <;> cases e
    own := fun i d e => by
      by_cases hi : i < ds.length
      · rw [List.getElem?_append_left (by simpa using hi), List.getElem?_map] at e
        cases q : ds[i]? with
        | none => rw [q] at e; cases e
        | some y => rw [q] at e; cases e
      · rw [List.getElem?_append_right (by simpa using hi), List.getElem?_replicate] at e
        split at e <;> cases e
    apart := fun i j d e a h1 => by
      by_cases hi : i < ds.length
      · rw [List.getElem?_append_left (by simpa using hi), List.getElem?_map] at h1
        cases q : ds[i]? with
        | none => rw [q] at h1; cases h1
        | some y => rw [q] at h1; cases h1
      · rw [List.getElem?_append_right (by simpa using hi), List.getElem?_replicate] at h1
        split at h1 <;> cases h1
    len := by
      unfold L2.start
      simp [h.length] }
  post := Post.refl r
  fresh := fun i d a h1 => by
    by_cases hi : i < ds.length
    · rw [List.getElem?_append_left (by simpa using hi), List.getElem?_map] at h1
      cases q : ds[i]? with
      | none => rw [q] at h1; cases h1
      | some y => rw [q] at h1; cases h1
    · rw [List.getElem?_append_right (by simpa using hi), List.getElem?_replicate] at h1
      split at h1 <;> cases h1
  len := by
    unfold L2.start
    simp [h.length]
theorem body_to {K : PySem.W.Frag} {N : List Str} {n : Nat} {body : MS} {vs : List V} {H : Hp} {Q : VK} {E : XK} (h : spY K n (runF N.length body) vs H Q E) :
    ∃ G0 la0, tS K (fun cls d _ H => E cls d H) G0 la0 H body { nx := fun _ H' => Q .non H', rt := Q } (L2.start N vs) H := by
  obtain ⟨G, la, st, ds, hl, r, hr, h⟩ := h
  refine ⟨G, la, G, la, _, st, fr_start (N := N) r hr, ?_⟩
  unfold runF at h
  cases e : body (ds.map (fun d => some (Sl.v d)) ++ List.replicate (N.length - ds.length) none) st with
  | nx env st' => rw [e] at h; exact fun σ H' G' la' f _ _ => h .non H' G' la' f.post .non
  | rt x st' => rw [e] at h; exact h
  | ex c fs env st' => rw [e] at h; exact fun d σ H' G' la' f x => h d H' G' la' f.post x
  | bad => rw [e] at h; exact h
  | bk env st' => rw [e] at h; exact False.elim h
  | ct env st' => rw [e] at h; exact False.elim h
end Y

set_option maxHeartbeats 4000000
/-! Y3: operators and built-ins by data. -/
namespace Y
open PySem L2

def f1 (g : D → Option XV) : List D → Option XV
  | [d] => g d
  | _ => none
def f2 (g : D → D → Option XV) : List D → Option XV
  | [d, e] => g d e
  | _ => none
def f3 (g : D → D → D → Option XV) : List D → Option XV
  | [d, e, k] => g d e k
  | _ => none
/-- what follows a primitive -/
def Aft (K : PySem.W.Frag) (G : Hp) (la : List Addr) (st : Store) (H : Hp) (Q : VK) (z : XV) : Prop := ∀ v H' G', Post K G la H G' la st H' → OutZ K G' la H H' v z → Q v H'
section
variable {K : PySem.W.Frag} {G H : Hp} {la : List Addr} {st : Store} {Q : VK}
theorem Aft.val {v : V} {d : D} (h : Aft K G la st H Q (.v d)) (b : Rel K G la st H) (r : Rep K G la v d) : Q v H := h v H G (Post.refl b) r
theorem Aft.lst {vs : List V} {ds : List D} (h : Aft K G la st H Q (.n (.lst ds))) (b : Rel K G la st H) (r : RepL K G la vs ds) : ∀ p, H p = none → Q (.ref p) (upd H p (.lst vs)) := fun p hp =>
  h (.ref p) _ G (Post.new b hp) ⟨p, rfl, .lst upd_same r, b.sub.none_of hp, b.free hp, hp⟩
theorem Aft.tup {vs : List V} {ds : List D} (h : Aft K G la st H Q (.v (.tup ds))) (b : Rel K G la st H) (r : RepL K G la vs ds) : ∀ p, H p = none → Q (.ref p) (upd H p (.tup vs)) := fun p hp =>
  h (.ref p) _ (upd G p (.tup vs)) (Post.newf b hp) (.tup upd_same (r.mono (same_upd (b.sub.none_of hp)) (Pre.refl _)))
end
section
variable {X : Cx}
theorem op2 {f : Value → Value → Sem Value} {r : R2} {g : D → D → Option XV} (h : OpR X f r)
    (i : ∀ G la st x y d e H Q z, Rel X.K G la st H → Rd1 X.K G la H x d → Rd1 X.K G la H y e → g d e = some z → Aft X.K G la st H Q z → r x y H Q) : OpR X f (R2D X.K (f2 g)) := by
  intro pins s σ H x y v u Q I rx ry q
  obtain ⟨G, la, st, ds, b, rd, w⟩ := q
  cases rd with
  | cons h1 t =>
    cases t with
    | cons h2 t =>
      cases t with
      | nil =>
        rename_i d e
        have e1 : f2 g [d, e] = g d e := rfl
        rw [e1] at w
        cases e2 : g d e with
        | none => rw [e2] at w; exact False.elim w
        | some z =>
          rw [e2] at w
          exact h pins s σ H x y v u Q I rx ry (i G la st x y d e H Q z b h1 h2 e2 w)
theorem call_n {f : Value} {r : List V → Hp → VK → Prop} {g : List D → Option XV} (h : CallR X f r)
    (i : ∀ G la st xs ds H Q z, Rel X.K G la st H → RdL X.K G la H xs ds → g ds = some z → Aft X.K G la st H Q z → r xs H Q) : CallR X f (rD X.K g) := by
  intro pins s σ H xs us Q I rs q
  obtain ⟨G, la, st, ds, b, rd, w⟩ := q
  cases e2 : g ds with
  | none => rw [e2] at w; exact False.elim w
  | some z =>
    rw [e2] at w
    exact h pins s σ H xs us Q I rs (i G la st xs ds H Q z b rd e2 w)
theorem call_1 {f : Value} {r : List V → Hp → VK → Prop} {g : D → Option XV} (h : CallR X f r)
    (i : ∀ G la st x d H Q z, Rel X.K G la st H → Rd1 X.K G la H x d → g d = some z → Aft X.K G la st H Q z → r [x] H Q) : CallR X f (rD X.K (f1 g)) :=
  call_n h fun G la st xs ds H Q z b rd e w => by
    cases rd with
    | nil => cases e
    | cons h1 t =>
      cases t with
      | nil => exact i _ _ _ _ _ _ _ _ b h1 e w
      | cons _ _ => cases e
theorem call_2 {f : Value} {r : List V → Hp → VK → Prop} {g : D → D → Option XV} (h : CallR X f r)
    (i : ∀ G la st x y d e H Q z, Rel X.K G la st H → Rd1 X.K G la H x d → Rd1 X.K G la H y e → g d e = some z → Aft X.K G la st H Q z → r [x, y] H Q) : CallR X f (rD X.K (f2 g)) :=
  call_n h fun G la st xs ds H Q z b rd e w => by
    cases rd with
    | nil => cases e
    | cons h1 t =>
      cases t with
      | nil => cases e
      | cons h2 t =>
        cases t with
        | nil => exact i _ _ _ _ _ _ _ _ _ _ b h1 h2 e w
        | cons _ _ => cases e
end

/-! ### arithmetic -/
def addD : D → D → Option XV
  | .int i, .int j => some (.v (.int (i + j)))
  | .str a, .str b => if a.length + b.length ≤ sizeLine then some (.v (.str (a ++ b))) else none
  | .lst xs, .lst ys => if xs.length + ys.length ≤ sizeLine then some (.n (.lst (xs ++ ys))) else none
  | _, _ => none
def subD : D → D → Option XV
  | .int i, .int j => some (.v (.int (i - j)))
  | _, _ => none
def rptS (a : Str) (n : Int) : Str := if n < 1 then Str.empty else if (n == 1 || a.length == 0) = true then a else ⟨(List.replicate n.toNat a.cps).foldl (· ++ ·) #[]⟩
def mulD : D → D → Option XV
  | .int i, .int j => if i.natAbs.log2 + j.natAbs.log2 < 1000000 then some (.v (.int (i * j))) else none
  | .lst xs, .int k => if -(2 ^ 63) ≤ k ∧ k < 2 ^ 63 ∧ xs.length * k.toNat ≤ sizeLine then some (.n (.lst (List.replicate k.toNat xs).flatten)) else none
  | .str a, .int k => if -(2 ^ 62) ≤ k ∧ k ≤ 1000000 ∧ a.length * k.toNat ≤ 1000000 then some (.v (.str (rptS a k))) else none
  | _, _ => none
def modD : D → D → Option XV
  | .int i, .int j => if j ≠ 0 then some (.v (.int (i.fmod j))) else none
  | _, _ => none
def fdivD : D → D → Option XV
  | .int i, .int j => if j ≠ 0 ∧ j.natAbs.log2 < 9000 then some (.v (.int (i.fdiv j))) else none
  | _, _ => none
def powD : D → D → Option XV
  | .int i, .int j => if 0 ≤ j ∧ (Builtin.Int.intBits i : Int) * j ≤ 2 ^ 27 then some (.v (.int (i ^ j.toNat))) else none
  | _, _ => none
theorem RepL.rep {K : PySem.W.Frag} {G : Hp} {la : List Addr} {vs : List V} {ds : List D} (r : RepL K G la vs ds) : ∀ n : Nat, RepL K G la (List.replicate n vs).flatten (List.replicate n ds).flatten
  | 0 => .nil
  | n + 1 => by
    rw [List.replicate_succ, List.replicate_succ, List.flatten_cons, List.flatten_cons]
    exact r.app (RepL.rep r n)
section
variable {X : Cx}
theorem op_str_mul : OpR X (binaryOp .Mult) (fun x y H Q => ∃ a k, x = .str a ∧ y = .int k ∧ (-(2 ^ 62) ≤ k ∧ k ≤ 1000000 ∧ a.length * k.toNat ≤ 1000000) ∧ Q (.str (rptS a k)) H) := by
  intro pins s σ H x y v u Q I rx ry h
  obtain ⟨a, k, rfl, rfl, ⟨h1, h2, h3⟩, q⟩ := h
  obtain ⟨t, rfl⟩ := rx
  obtain ⟨t', rfl⟩ := ry
  refine PySem.P.mul_str ?_ (fun h4 h5 h6 => ?_) (fun h4 h5 => ?_) ?_
  · rw [Bool.or_eq_false_iff]
    exact ⟨decide_eq_false (by omega), decide_eq_false (by omega)⟩
  · have hk : (0 : Int) < k := by omega
    have h7 := Int.lt_iff_add_one_le.mp h6
    have h8 : ((a.length : Int)) * k ≤ 1000000 := by
      have : ((a.length * k.toNat : Nat) : Int) ≤ ((1000000 : Nat) : Int) := Int.ofNat_le.mpr h3
      have e : ((k.toNat : Nat) : Int) = k := Int.toNat_of_nonneg (by omega)
      rw [Int.natCast_mul, e] at this
      exact this
    have h9 : (2 ^ 63 - 1) < (a.length : Int) * k := (Int.ediv_lt_iff_lt_mul hk).mp h6
    omega
  · unfold Builtin.Str.tooLong
    refine decide_eq_false ?_
    have e : sizeLine = 16777216 := by decide
    omega
  · unfold rptS at q
    by_cases h4 : k < 1
    · rw [if_pos h4] at q ⊢
      exact ⟨by decide, .str Str.empty, H, I.tok _, ⟨_, rfl⟩, q⟩
    · rw [if_neg h4] at q ⊢
      by_cases h5 : (k == 1 || a.length == 0) = true
      · rw [if_pos h5] at q ⊢
        exact ⟨.str a, H, I, ⟨_, rfl⟩, q⟩
      · rw [if_neg h5] at q ⊢
        refine ⟨PySem.fits_reps ?_, .str _, H, I.tok _, ⟨_, rfl⟩, q⟩
        unfold Builtin.Str.tooLong
        refine decide_eq_false ?_
        have e : sizeLine = 16777216 := by decide
        omega
theorem op_fdivY : OpR X (binaryOp .FloorDiv) (rI (fun _ j => j ≠ 0 ∧ j.natAbs.log2 < 9000) fun i j => .int (i.fdiv j)) := opI fun i j _ _ _ _ _ hc q => PyProof.Rows.floordiv_int hc.1 q (.inl (PyProof.noPylong_of_log2 hc.2))
theorem op_powY : OpR X (binaryOp .Pow) (rI (fun i j => 0 ≤ j ∧ (Builtin.Int.intBits i : Int) * j ≤ 2 ^ 27) fun i j => .int (i ^ j.toNat)) := opI fun i j _ _ _ _ _ hc q => PyProof.Rows.pow_int hc.1 hc.2 q
theorem y_add : OpR X (binaryOp .Add) (R2D X.K (f2 addD)) := op2 (OpR.or op_add (OpR.or op_add_str op_cat)) fun G la st x y d e H Q z b h1 h2 e1 w => by
  unfold addD at e1
  split at e1
  · cases h1; cases h2; cases e1
    exact .inl ⟨_, _, rfl, rfl, w.val b (.int _)⟩
  · cases h1; cases h2
    split at e1
    · cases e1
      exact .inr (.inl ⟨_, _, rfl, rfl, by assumption, w.val b (.str _)⟩)
    · cases e1
  · split at e1
    · cases e1
      cases h1 with
      | lst h1 r1 =>
        cases h2 with
        | lst h2 r2 => exact .inr (.inr ⟨_, _, _, _, rfl, rfl, h1, h2, by rw [r1.length, r2.length]; assumption, w.lst b (r1.app r2)⟩)
    · cases e1
  · cases e1
theorem y_sub : OpR X (binaryOp .Sub) (R2D X.K (f2 subD)) := op2 op_sub fun G la st x y d e H Q z b h1 h2 e1 w => by
  unfold subD at e1
  split at e1
  · cases h1; cases h2; cases e1
    exact ⟨_, _, rfl, rfl, w.val b (.int _)⟩
  · cases e1
theorem y_mul : OpR X (binaryOp .Mult) (R2D X.K (f2 mulD)) := op2 (OpR.or op_mulW (OpR.or op_rep op_str_mul)) fun G la st x y d e H Q z b h1 h2 e1 w => by
  unfold mulD at e1
  split at e1
  · split at e1
    · cases h1; cases h2; cases e1
      exact .inl ⟨_, _, rfl, rfl, by assumption, w.val b (.int _)⟩
    · cases e1
  · split at e1
    · rename_i c
      cases e1
      cases h2
      cases h1 with
      | lst h1 r1 =>
        exact .inr (.inl ⟨_, _, _, rfl, rfl, h1, c.1, c.2.1, by rw [r1.length]; exact c.2.2, w.lst b (r1.rep _)⟩)
    · cases e1
  · split at e1
    · cases h1; cases h2; cases e1
      exact .inr (.inr ⟨_, _, rfl, rfl, by assumption, w.val b (.str _)⟩)
    · cases e1
  · cases e1
theorem y_mod : OpR X (binaryOp .Mod) (R2D X.K (f2 modD)) := op2 op_modN fun G la st x y d e H Q z b h1 h2 e1 w => by
  unfold modD at e1
  split at e1
  · split at e1
    · cases h1; cases h2; cases e1
      exact ⟨_, _, rfl, rfl, by assumption, w.val b (.int _)⟩
    · cases e1
  · cases e1
theorem y_fdiv : OpR X (binaryOp .FloorDiv) (R2D X.K (f2 fdivD)) := op2 op_fdivY fun G la st x y d e H Q z b h1 h2 e1 w => by
  unfold fdivD at e1
  split at e1
  · split at e1
    · cases h1; cases h2; cases e1
      exact ⟨_, _, rfl, rfl, by assumption, w.val b (.int _)⟩
    · cases e1
  · cases e1
theorem y_pow : OpR X (binaryOp .Pow) (R2D X.K (f2 powD)) := op2 op_powY fun G la st x y d e H Q z b h1 h2 e1 w => by
  unfold powD at e1
  split at e1
  · split at e1
    · cases h1; cases h2; cases e1
      exact ⟨_, _, rfl, rfl, by assumption, w.val b (.int _)⟩
    · cases e1
  · cases e1
end
end Y

set_option maxHeartbeats 4000000
/-! Y4: comparisons, membership, subscripts, slices, built-in functions by data. -/
namespace Y
open PySem L2 PySem.Spec PyProof.Rows

mutual
def toPy : D → Option PyData
  | .non => some .none
  | .bl b => some (.bool b)
  | .int i => some (.int i)
  | .str x => some (.str x)
  | .lst xs => (toPyL xs).map .list
  | .tup xs => (toPyL xs).map .tuple
  | .scr xs => (toPyL xs).map .list
  | .dct _ _ => none
  | .dtt _ _ => none
  | .obj _ _ _ => none
  | .cell _ => none
  | .xo _ _ _ _ _ => none
  | .exv _ _ _ => none
def toPyL : List D → Option (List PyData)
  | [] => some []
  | d :: ds => (toPy d).bind fun p => (toPyL ds).bind fun ps => some (p :: ps)
end
section
variable {K : PySem.W.Frag} {G H : Hp} {la : List Addr}
mutual
theorem Rep.dp (s : Sub G H) : ∀ {v : V} {d : D} {p : PyData}, Rep K G la v d → toPy d = some p → Dp K H v p
  | _, _, _, .non, e => by cases e; exact .non
  | _, _, _, .bl b, e => by cases e; exact .bl b
  | _, _, _, .int i, e => by cases e; exact .int i
  | _, _, _, .str x, e => by cases e; exact .str x
  | _, _, _, .cell _, e => by cases e
  | _, _, _, .dct _ _ _, e => by cases e
  | _, _, _, .dtt _ _ _, e => by cases e
  | _, _, _, .obj _ _ _, e => by cases e
  | _, _, _, .xo0, e => by cases e
  | _, _, _, .xo1 _ _ _, e => by cases e
  | _, _, _, .ev0 _, e => by cases e
  | _, _, _, .ev1 _ _ _ _, e => by cases e
  | _, _, _, .lst h r, e => by
    unfold toPy at e
    obtain ⟨ps, e1, rfl⟩ := Option.map_eq_some_iff.mp e
    exact .lst (s.sqL (SqL.of h)) (RepL.dp s r e1)
  | _, _, _, .tup h r, e => by
    unfold toPy at e
    obtain ⟨ps, e1, rfl⟩ := Option.map_eq_some_iff.mp e
    exact .tup (s.sqT (SqT.of h)) (RepL.dp s r e1)
  | _, _, _, .scr h r, e => by
    unfold toPy at e
    obtain ⟨ps, e1, rfl⟩ := Option.map_eq_some_iff.mp e
    exact .lst (s.sqL h) (RepL.dp s r e1)
theorem RepL.dp (s : Sub G H) : ∀ {vs : List V} {ds : List D} {ps : List PyData}, RepL K G la vs ds → toPyL ds = some ps → DpAll K H vs ps
  | _, _, _, .nil, e => by unfold toPyL at e; cases e; exact .nil
  | _, _, _, .cons (d := d) (ds := ds) h r, e => by
    unfold toPyL at e
    obtain ⟨p, e1, e2⟩ := Option.bind_eq_some_iff.mp e
    obtain ⟨qs, e3, e4⟩ := Option.bind_eq_some_iff.mp e2
    cases e4
    exact .cons (Rep.dp s h e1) (RepL.dp s r e3)
end
theorem Rd1.dp (s : Sub G H) {v : V} {d : D} {p : PyData} (r : Rd1 K G la H v d) (e : toPy d = some p) : Dp K H v p := by
  cases r with
  | non => cases e; exact .non
  | bl b => cases e; exact .bl b
  | int i => cases e; exact .int i
  | str x => cases e; exact .str x
  | dct _ _ _ => cases e
  | dtt _ _ _ => cases e
  | obj _ _ _ => cases e
  | xo0 => cases e
  | xo1 _ _ _ => cases e
  | ev0 _ => cases e
  | ev1 _ _ _ _ => cases e
  | lst h r =>
    unfold toPy at e
    obtain ⟨ps, e1, rfl⟩ := Option.map_eq_some_iff.mp e
    exact .lst (SqL.of h) (RepL.dp s r e1)
  | tup h r =>
    unfold toPy at e
    obtain ⟨ps, e1, rfl⟩ := Option.map_eq_some_iff.mp e
    exact .tup (SqT.of h) (RepL.dp s r e1)
  | scr h r =>
    unfold toPy at e
    obtain ⟨ps, e1, rfl⟩ := Option.map_eq_some_iff.mp e
    exact .lst h (RepL.dp s r e1)
end
/-- d == e, of data -/
def eqQ : D → D → Option Bool
  | .int i, .int j => some (decide (i = j))
  | .str i, .str j => some (decide (i = j))
  | .bl i, .bl j => some (decide (i = j))
  | d, e => (toPy d).bind fun x => (toPy e).bind fun y => if (SeqAt.shaped x && SeqAt.shaped y) = true then some (PyData.eqv x y) else none
def eqD (d e : D) : Option XV := (eqQ d e).map fun b => .v (.bl b)
def neD (d e : D) : Option XV := (eqQ d e).map fun b => .v (.bl (!b))
section
variable {X : Cx}
theorem eq_to {K : PySem.W.Frag} {G H : Hp} {la : List Addr} (s : Sub G H) {x y : V} {d e : D} {b : Bool} (h1 : Rd1 K G la H x d) (h2 : Rd1 K G la H y e) (h : eqQ d e = some b) :
    (scal x y = true ∧ b = decide (x = y)) ∨ ∃ p q, Dp K H x p ∧ Dp K H y q ∧ SeqAt.shaped p = true ∧ SeqAt.shaped q = true ∧ b = PyData.eqv p q := by
  unfold eqQ at h
  split at h
  · cases h1; cases h2; cases h
    exact .inl ⟨rfl, decide_eq_decide.mpr ⟨fun q => by rw [q], fun q => by cases q; rfl⟩⟩
  · cases h1; cases h2; cases h
    exact .inl ⟨rfl, decide_eq_decide.mpr ⟨fun q => by rw [q], fun q => by cases q; rfl⟩⟩
  · cases h1; cases h2; cases h
    exact .inl ⟨rfl, decide_eq_decide.mpr ⟨fun q => by rw [q], fun q => by cases q; rfl⟩⟩
  · obtain ⟨p, e1, h⟩ := Option.bind_eq_some_iff.mp h
    obtain ⟨q, e2, h⟩ := Option.bind_eq_some_iff.mp h
    split at h
    · rename_i c
      rw [Bool.and_eq_true] at c
      cases h
      exact .inr ⟨p, q, h1.dp s e1, h2.dp s e2, c.1, c.2, rfl⟩
    · cases h
theorem y_eq (hu : X.A.units + 64 < cLine) : OpR X (compareOp .Eq) (R2D X.K (f2 eqD)) := op2 (OpR.or op_eq (op_eqD hu)) fun G la st x y d e H Q z b h1 h2 e1 w => by
  unfold eqD at e1
  obtain ⟨k, e0, e2⟩ := Option.map_eq_some_iff.mp e1
  clear e1
  have e1 := e0
  clear e0
  subst e2
  rcases eq_to b.sub h1 h2 e1 with ⟨h, e⟩ | ⟨p, q, h3, h4, h5, h6, e⟩
  · exact .inl ⟨h, e ▸ w.val b (.bl _)⟩
  · exact .inr ⟨p, q, h3, h4, h5, h6, e ▸ w.val b (.bl _)⟩
theorem y_ne (hu : X.A.units + 64 < cLine) : OpR X (compareOp .NotEq) (R2D X.K (f2 neD)) := op2 (OpR.or op_ne (op_neD hu)) fun G la st x y d e H Q z b h1 h2 e1 w => by
  unfold neD at e1
  obtain ⟨k, e0, e2⟩ := Option.map_eq_some_iff.mp e1
  clear e1
  have e1 := e0
  clear e0
  subst e2
  rcases eq_to b.sub h1 h2 e1 with ⟨h, e⟩ | ⟨p, q, h3, h4, h5, h6, e⟩
  · exact .inl ⟨h, by rw [← e]; exact w.val b (.bl _)⟩
  · exact .inr ⟨p, q, h3, h4, h5, h6, by rw [← e]; exact w.val b (.bl _)⟩
/-- <, <=, >, >= of ints and of texts -/
def ltS (a b : Str) : Bool := decide (a.cps.toList < b.cps.toList)
def ltD : D → D → Option XV
  | .int i, .int j => some (.v (.bl (decide (i < j))))
  | .str i, .str j => some (.v (.bl (ltS i j)))
  | _, _ => none
def leD : D → D → Option XV
  | .int i, .int j => some (.v (.bl (decide (i ≤ j))))
  | .str i, .str j => some (.v (.bl (!ltS j i)))
  | _, _ => none
def gtD : D → D → Option XV
  | .int i, .int j => some (.v (.bl (decide (j < i))))
  | .str i, .str j => some (.v (.bl (ltS j i)))
  | _, _ => none
def geD : D → D → Option XV
  | .int i, .int j => some (.v (.bl (decide (j ≤ i))))
  | .str i, .str j => some (.v (.bl (!ltS i j)))
  | _, _ => none
theorem y_lt : OpR X (compareOp .Lt) (R2D X.K (f2 ltD)) := op2 (OpR.or op_lt op_lt_str) fun G la st x y d e H Q z b h1 h2 e1 w => by
  unfold ltD at e1
  split at e1
  · cases h1; cases h2; cases e1; exact .inl ⟨_, _, rfl, rfl, w.val b (.bl _)⟩
  · cases h1; cases h2; cases e1; exact .inr ⟨_, _, rfl, rfl, w.val b (.bl _)⟩
  · cases e1
theorem y_le : OpR X (compareOp .LtE) (R2D X.K (f2 leD)) := op2 (OpR.or op_le op_le_str) fun G la st x y d e H Q z b h1 h2 e1 w => by
  unfold leD at e1
  split at e1
  · cases h1; cases h2; cases e1; exact .inl ⟨_, _, rfl, rfl, w.val b (.bl _)⟩
  · cases h1; cases h2; cases e1; exact .inr ⟨_, _, rfl, rfl, w.val b (.bl _)⟩
  · cases e1
theorem y_gt : OpR X (compareOp .Gt) (R2D X.K (f2 gtD)) := op2 (OpR.or op_gt op_gt_str) fun G la st x y d e H Q z b h1 h2 e1 w => by
  unfold gtD at e1
  split at e1
  · cases h1; cases h2; cases e1; exact .inl ⟨_, _, rfl, rfl, w.val b (.bl _)⟩
  · cases h1; cases h2; cases e1; exact .inr ⟨_, _, rfl, rfl, w.val b (.bl _)⟩
  · cases e1
theorem y_ge : OpR X (compareOp .GtE) (R2D X.K (f2 geD)) := op2 (OpR.or op_ge op_ge_str) fun G la st x y d e H Q z b h1 h2 e1 w => by
  unfold geD at e1
  split at e1
  · cases h1; cases h2; cases e1; exact .inl ⟨_, _, rfl, rfl, w.val b (.bl _)⟩
  · cases h1; cases h2; cases e1; exact .inr ⟨_, _, rfl, rfl, w.val b (.bl _)⟩
  · cases e1
/-- is None -/
def isNon : D → Bool
  | .non => true
  | _ => false
def isND : D → D → Option XV
  | d, .non => some (.v (.bl (isNon d)))
  | _, _ => none
def noND : D → D → Option XV
  | d, .non => some (.v (.bl (!isNon d)))
  | _, _ => none
theorem Rd1.isNon {K : PySem.W.Frag} {G H : Hp} {la : List Addr} {x : V} {d : D} (h : Rd1 K G la H x d) : decide (x = .non) = Y.isNon d := by
  cases h <;> first | rfl | exact decide_eq_false (fun e => by cases e)
theorem y_is : OpR X (compareOp .Is) (R2D X.K (f2 isND)) := op2 op_isN fun G la st x y d e H Q z b h1 h2 e1 w => by
  unfold isND at e1
  split at e1
  · cases h2; cases e1; exact ⟨rfl, by rw [h1.isNon]; exact w.val b (.bl _)⟩
  · cases e1
theorem y_isnot : OpR X (compareOp .IsNot) (R2D X.K (f2 noND)) := op2 op_notN fun G la st x y d e H Q z b h1 h2 e1 w => by
  unfold noND at e1
  split at e1
  · cases h2; cases e1; exact ⟨rfl, by rw [h1.isNon]; exact w.val b (.bl _)⟩
  · cases e1
/-! ### in -/
def keyD : D → Option Key
  | .int i => some (.inl i)
  | .str x => some (.inr x)
  | _ => none
def keysD : List D → Option (List Key)
  | [] => some []
  | d :: ds => (keyD d).bind fun k => (keysD ds).bind fun ks => some (k :: ks)
theorem Rep.key {K : PySem.W.Frag} {G : Hp} {la : List Addr} {v : V} {d : D} {k : Key} (h : Rep K G la v d) (e : keyD d = some k) : v = kV k := by
  cases h <;> cases e <;> rfl
theorem Rd1.key {K : PySem.W.Frag} {G H : Hp} {la : List Addr} {v : V} {d : D} {k : Key} (h : Rd1 K G la H v d) (e : keyD d = some k) : v = kV k := by
  cases h <;> cases e <;> rfl
theorem RepL.keys {K : PySem.W.Frag} {G : Hp} {la : List Addr} {vs : List V} {ds : List D} (h : RepL K G la vs ds) : ∀ {ks : List Key}, keysD ds = some ks → vs = ks.map kV := by
  intro ks e
  induction vs generalizing ds ks with
  | nil => cases h; cases e; rfl
  | cons v vs ih =>
    cases h with
    | cons h t =>
      unfold keysD at e
      obtain ⟨k, e1, e⟩ := Option.bind_eq_some_iff.mp e
      obtain ⟨ks', e2, e⟩ := Option.bind_eq_some_iff.mp e
      cases e
      rw [h.key e1, ih t e2]
      rfl
/-- what a dict holds at k -/
def valD {κ : Type} [DecidableEq κ] : List κ → List D → κ → Option D
  | k' :: ks, d :: ds, k => if k' = k then some d else valD ks ds k
  | _, _, _ => none
def getQ : D → D → Option (Option D)
  | .dct ks vs, k => (keyD k).map fun k => valD ks vs k
  | .dtt ks vs, .tup k => (keysD k).map fun k => valD ks vs k
  | _, _ => none
theorem valV_rep {κ : Type} [DecidableEq κ] {K : PySem.W.Frag} {G : Hp} {la : List Addr} {k : κ} : ∀ {kvs : List (κ × V)} {ds : List D}, RepL K G la (kvs.map (·.2)) ds →
    (∃ v d, valV kvs k = some v ∧ valD (kvs.map (·.1)) ds k = some d ∧ Rep K G la v d) ∨ (valV kvs k = none ∧ valD (kvs.map (·.1)) ds k = none)
  | [], _, h => by cases h; exact .inr ⟨rfl, rfl⟩
  | (k', v) :: kvs, _, .cons (d := d) (ds := ds) h t => by
    by_cases e : k' = k
    · refine .inl ⟨v, d, ?_, ?_, h⟩
      · unfold valV
        rw [List.find?_cons_of_pos (by simpa using e)]
        rfl
      · show (if k' = k then some d else _) = _
        rw [if_pos e]
    · have e1 : valV ((k', v) :: kvs) k = valV kvs k := by
        unfold valV
        rw [List.find?_cons_of_neg (by simpa using e)]
      have e2 : valD (((k', v) :: kvs).map (·.1)) (d :: ds) k = valD (kvs.map (·.1)) ds k := by
        show (if k' = k then some d else _) = _
        rw [if_neg e]
      rw [e1, e2]
      exact valV_rep t
theorem dget_to {K : PySem.W.Frag} {G H : Hp} {la : List Addr} {x y : V} {d e : D} {o : Option D} (h1 : Rd1 K G la H x d) (h2 : Rd1 K G la H y e) (h : getQ d e = some o) :
    ∃ a r, x = .ref a ∧ DGet H a y r ∧ r.isSome = o.isSome ∧ ∀ z, o = some z → ∃ v, r = some v ∧ Rep K G la v z := by
  unfold getQ at h
  split at h
  · obtain ⟨k, e1, rfl⟩ := Option.map_eq_some_iff.mp h
    cases h1 with
    | dct h1 q r =>
      refine ⟨_, _, rfl, .inl ⟨_, k, h1, h2.key e1, rfl⟩, ?_, ?_⟩
      · subst q
        rcases valV_rep (k := k) r with ⟨v, d, a1, a2, a3⟩ | ⟨a1, a2⟩ <;> (rw [a1, a2]; rfl)
      · intro z hz
        subst q
        rcases valV_rep (k := k) r with ⟨v, d, a1, a2, a3⟩ | ⟨a1, a2⟩
        · rw [a2] at hz; cases hz; exact ⟨v, a1, a3⟩
        · rw [a2] at hz; cases hz
  · obtain ⟨k, e1, rfl⟩ := Option.map_eq_some_iff.mp h
    cases h1 with
    | dtt h1 q r =>
      cases h2 with
      | tup h2 r2 =>
        have ek := r2.keys e1
        subst ek
        refine ⟨_, _, rfl, .inr ⟨_, k, _, h1, rfl, h2, rfl⟩, ?_, ?_⟩
        · subst q
          rcases valV_rep (k := k) r with ⟨v, d, a1, a2, a3⟩ | ⟨a1, a2⟩ <;> (rw [a1, a2]; rfl)
        · intro z hz
          subst q
          rcases valV_rep (k := k) r with ⟨v, d, a1, a2, a3⟩ | ⟨a1, a2⟩
          · rw [a2] at hz; cases hz; exact ⟨v, a1, a3⟩
          · rw [a2] at hz; cases hz
  · cases h
/-- x in y -/
def anyEq (d : D) : List D → Option Bool
  | [] => some false
  | e :: es => (eqQ e d).bind fun b => (anyEq d es).map fun c => b || c
def inQ : D → D → Option Bool
  | .str i, .str j => some (!(Builtin.Str.occurrences j i 0 j.length 1).isEmpty)
  | d, .lst es => (toPy d).bind fun p => (toPyL es).bind fun ps => if (SeqAt.shaped p && SeqAt.shaped (.list ps)) = true then some (ps.any fun z => PyData.eqv z p) else none
  | d, .dct ks vs => (getQ (.dct ks vs) d).map (·.isSome)
  | d, .dtt ks vs => (getQ (.dtt ks vs) d).map (·.isSome)
  | _, _ => none
def inD (d e : D) : Option XV := (inQ d e).map fun b => .v (.bl b)
def ninD (d e : D) : Option XV := (inQ d e).map fun b => .v (.bl (!b))
theorem op_inDict (hu : X.A.units + 1 < cLine) : OpR X (compareOp .In) (fun y x H Q => ∃ a o, x = .ref a ∧ DGet H a y o ∧ Q (.bl o.isSome) H) := by
  intro pins s σ H x y v u Q I rx ry h
  obtain ⟨a, o, rfl, g, q⟩ := h
  obtain rfl : u = Value.ref a := ry
  exact d_in hu I g rx fun s3 I3 => ⟨.bl o.isSome, H, I3, rfl, q⟩
theorem op_ninDict (hu : X.A.units + 1 < cLine) : OpR X (compareOp .NotIn) (fun y x H Q => ∃ a o, x = .ref a ∧ DGet H a y o ∧ Q (.bl (!o.isSome)) H) := by
  intro pins s σ H x y v u Q I rx ry h
  obtain ⟨a, o, rfl, g, q⟩ := h
  obtain rfl : u = Value.ref a := ry
  exact d_notIn hu I g rx fun s3 I3 => ⟨.bl (!o.isSome), H, I3, rfl, q⟩
theorem y_in (hu : X.A.units + 65 < cLine) : OpR X (compareOp .In) (R2D X.K (f2 inD)) := op2 (OpR.or op_in_str (OpR.or (op_inD hu) (op_inDict (by omega)))) fun G la st x y d e H Q z b h1 h2 e1 w => by
  unfold inD at e1
  obtain ⟨k, e0, e2⟩ := Option.map_eq_some_iff.mp e1
  clear e1
  have e1 := e0
  clear e0
  subst e2
  unfold inQ at e1
  split at e1
  · cases h1; cases h2; cases e1; exact .inl ⟨_, _, rfl, rfl, w.val b (.bl _)⟩
  · obtain ⟨p, e2, e1⟩ := Option.bind_eq_some_iff.mp e1
    obtain ⟨ps, e3, e1⟩ := Option.bind_eq_some_iff.mp e1
    split at e1
    · rename_i c
      rw [Bool.and_eq_true] at c
      cases e1
      exact .inr (.inl ⟨p, ps, h1.dp b.sub e2, h2.dp b.sub (by unfold toPy; rw [e3]; rfl), c.1, c.2, w.val b (.bl _)⟩)
    · cases e1
  · obtain ⟨o, e9, rfl⟩ := Option.map_eq_some_iff.mp e1
    obtain ⟨a, r, e2, e3, e4, _⟩ := dget_to h2 h1 e9
    exact .inr (.inr ⟨a, r, e2, e3, by rw [e4]; exact w.val b (.bl _)⟩)
  · obtain ⟨o, e9, rfl⟩ := Option.map_eq_some_iff.mp e1
    obtain ⟨a, r, e2, e3, e4, _⟩ := dget_to h2 h1 e9
    exact .inr (.inr ⟨a, r, e2, e3, by rw [e4]; exact w.val b (.bl _)⟩)
  · cases e1
theorem y_nin (hu : X.A.units + 65 < cLine) : OpR X (compareOp .NotIn) (R2D X.K (f2 ninD)) := op2 (OpR.or op_notin_str (OpR.or (op_notInD hu) (op_ninDict (by omega)))) fun G la st x y d e H Q z b h1 h2 e1 w => by
  unfold ninD at e1
  obtain ⟨k, e0, e2⟩ := Option.map_eq_some_iff.mp e1
  clear e1
  have e1 := e0
  clear e0
  subst e2
  unfold inQ at e1
  split at e1
  · cases h1; cases h2; cases e1; exact .inl ⟨_, _, rfl, rfl, w.val b (.bl _)⟩
  · obtain ⟨p, e2, e1⟩ := Option.bind_eq_some_iff.mp e1
    obtain ⟨ps, e3, e1⟩ := Option.bind_eq_some_iff.mp e1
    split at e1
    · rename_i c
      rw [Bool.and_eq_true] at c
      cases e1
      exact .inr (.inl ⟨p, ps, h1.dp b.sub e2, h2.dp b.sub (by unfold toPy; rw [e3]; rfl), c.1, c.2, w.val b (.bl _)⟩)
    · cases e1
  · obtain ⟨o, e9, rfl⟩ := Option.map_eq_some_iff.mp e1
    obtain ⟨a, r, e2, e3, e4, _⟩ := dget_to h2 h1 e9
    exact .inr (.inr ⟨a, r, e2, e3, by rw [e4]; exact w.val b (.bl _)⟩)
  · obtain ⟨o, e9, rfl⟩ := Option.map_eq_some_iff.mp e1
    obtain ⟨a, r, e2, e3, e4, _⟩ := dget_to h2 h1 e9
    exact .inr (.inr ⟨a, r, e2, e3, by rw [e4]; exact w.val b (.bl _)⟩)
  · cases e1
/-! ### subscripts, slices -/
def ixD : D → D → Option XV
  | .lst xs, .int i => (atI xs i).map .v
  | .tup xs, .int i => (atI xs i).map .v
  | .scr xs, .int i => (atI xs i).map .v
  | .str z, .int i => if z.length ≤ sizeLine then (atI z.cps.toList i).map fun c => .v (.str ⟨#[c]⟩) else none
  | .dct ks vs, k => (getQ (.dct ks vs) k).join.map .v
  | .dtt ks vs, k => (getQ (.dtt ks vs) k).join.map .v
  | _, _ => none
theorem RepL.at {K : PySem.W.Frag} {G : Hp} {la : List Addr} {vs : List V} {ds : List D} {i : Int} {d : D} (r : RepL K G la vs ds) (e : atI ds i = some d) : ∃ v, atI vs i = some v ∧ Rep K G la v d := by
  unfold atI at e ⊢
  rw [r.length]
  obtain ⟨j, e1, e2⟩ := Option.bind_eq_some_iff.mp e
  obtain ⟨v, e3, e4⟩ := r.get e2
  exact ⟨v, by rw [e1]; exact e3, e4⟩
def rIxDc : R2 := fun x y H Q => ∃ a v, x = .ref a ∧ DGet H a y (some v) ∧ Q v H
theorem ix_dict (hu : X.A.units + 1 < cLine) : IxR X rIxDc := by
  intro value slice pins s σ H x y v u Q I rx ry h hs
  obtain ⟨a, z, rfl, g, q⟩ := h
  obtain rfl : v = Value.ref a := rx
  have hT := dict_typeIs I g
  unfold PyProof.Rows.subscriptTail
  refine wpAny_bind ?_
  rw [getitemInPython_of_ne hT.not_modules]
  refine wpAny_bind (wpAny_specialOf hT PySem.F.slot_dict_getitem.lookup ?_)
  have fin : wpAny (model X.prog X.w) X.A (subscripted slice false (.ref a) u) (fun r s₃ => wpAny (model X.prog X.w) X.A (letTemporaryGo value (.ref a) r >>= fun _ => pure r) (EP X pins σ Q) X.xe s₃) X.xe s := by
    rw [hs]
    exact wpAny_operating (wpAny_mono (d_getItem (Q := EP X pins σ Q) hu I g ry fun w' s3 I3 rw' => ⟨z, H, I3, rw', q⟩) (fun r s₃ h₃ => wpAny_bind (wpAny_letTemporaryGo (wpAny_pure h₃))) fun _ _ x => x)
  first
    | exact wpAny_pure (wpAny_bind fin)
    | exact wpAny_bind (wpAny_pure (wpAny_bind fin))
    | exact wpAny_bind fin
theorem y_ix (hu : X.A.units + 1 < cLine) : IxR X (R2D X.K (f2 ixD)) := by
  intro value slice pins s σ H x y v u Q I rx ry q hs
  obtain ⟨G, la, st, ds, b, rd, w⟩ := q
  cases rd with
  | cons h1 t =>
    cases t with
    | cons h2 t =>
      cases t with
      | nil =>
        rename_i d e
        have e1 : f2 ixD [d, e] = ixD d e := rfl
        rw [e1] at w
        cases e2 : ixD d e with
        | none => rw [e2] at w; exact False.elim w
        | some z =>
          rw [e2] at w
          have w : Aft X.K G la st H Q z := w
          refine IxR.or (ix_seq (X := X)) (ix_dict hu) value slice pins s σ H x y v u Q I rx ry ?_ hs
          unfold ixD at e2
          split at e2
          · obtain ⟨k, e3, rfl⟩ := Option.map_eq_some_iff.mp e2
            cases h2
            cases h1 with
            | lst h1 r =>
              obtain ⟨v', e4, e5⟩ := r.at e3
              exact .inl (.inl ⟨_, _, _, _, rfl, rfl, SqL.of h1, e4, w.val b e5⟩)
          · obtain ⟨k, e3, rfl⟩ := Option.map_eq_some_iff.mp e2
            cases h2
            cases h1 with
            | tup h1 r =>
              obtain ⟨v', e4, e5⟩ := r.at e3
              exact .inl (.inr (.inl ⟨_, _, _, _, rfl, rfl, SqT.of h1, e4, w.val b e5⟩))
          · obtain ⟨k, e3, rfl⟩ := Option.map_eq_some_iff.mp e2
            cases h2
            cases h1 with
            | scr h1 r =>
              obtain ⟨v', e4, e5⟩ := r.at e3
              exact .inl (.inl ⟨_, _, _, _, rfl, rfl, h1, e4, w.val b e5⟩)
          · split at e2
            · obtain ⟨k, e3, rfl⟩ := Option.map_eq_some_iff.mp e2
              cases h1; cases h2
              exact .inl (.inr (.inr ⟨_, _, _, rfl, rfl, by assumption, e3, w.val b (.str _)⟩))
            · cases e2
          · obtain ⟨k, e3, rfl⟩ := Option.map_eq_some_iff.mp e2
            have e4 := Option.join_eq_some_iff.mp e3
            obtain ⟨a, r, e5, e6, _, e8⟩ := dget_to h1 h2 e4
            obtain ⟨v', rfl, e9⟩ := e8 k rfl
            exact .inr ⟨a, v', e5, e6, w.val b e9⟩
          · obtain ⟨k, e3, rfl⟩ := Option.map_eq_some_iff.mp e2
            have e4 := Option.join_eq_some_iff.mp e3
            obtain ⟨a, r, e5, e6, _, e8⟩ := dget_to h1 h2 e4
            obtain ⟨v', rfl, e9⟩ := e8 k rfl
            exact .inr ⟨a, v', e5, e6, w.val b e9⟩
          · cases e2
theorem re_ix {W : WX} {a b : PySem.Expr} {ma mb : M XV} {pos : Pos} (hu : X.A.units + 1 < cLine) (ha : PE X a (tE X.K W ma)) (hb : PE X b (tE X.K W mb)) (hs : PlainIx b) : PE X (.Subscript a b pos) (tE X.K W (iPrim (f2 ixD) (evCons ma (evCons mb evNil)))) :=
  peImp (pe_ix (y_ix hu) ha hb hs) fun _ _ _ h => tA_two (prim_to h)
/-- a slice's parts -/
def cutL {α : Type} (xs : List α) (lo hi : Option Int) : List α := (xs.drop (HT.sIx xs.length 0 lo)).take (HT.sIx xs.length xs.length hi - HT.sIx xs.length 0 lo)
def slD (lo hi : Option Int) : D → Option XV
  | .lst xs => some (.n (.lst (cutL xs lo hi)))
  | .scr xs => some (.n (.lst (cutL xs lo hi)))
  | .str z => if z.length ≤ sizeLine then some (.v (.str (cutS z lo hi))) else none
  | _ => none
end
end Y

set_option maxHeartbeats 4000000
/-! Y5: slices, built-in functions by data. -/
namespace Y
open PySem L2 PySem.Spec PyProof.Rows

/-! ### slices -/
abbrev OP {α : Type} : Hp → List Addr → Hp → Hp → α → α → Prop := fun _ _ _ _ b c => b = c
def tP (K : PySem.W.Frag) (W : WX) (m : M (Option Int)) : TO := fun σ H Q => ∃ G la env st, Bd K G la st H env σ ∧ Want K W OP G la H σ Q (m env st)
def isI : XV → Option (Option Int)
  | .v (.int i) => some (some i)
  | _ => none
def iNo : M (Option Int) := fun _ st => .ok none st
def iPt (m : M XV) : M (Option Int) := fun env st => (m env st).bind fun x st1 => lift (isI x) st1
def iSl (m : M XV) (lo hi : M (Option Int)) : M XV := fun env st => (m env st).bind fun x st1 => (lo env st1).bind fun l st2 => (hi env st2).bind fun u st3 => lift ((x.fz.con st3).bind (slD l u)) st3
section
variable {X : Cx} {W : WX} {a b : PySem.Expr} {pos p2 : Pos}
theorem ro_none : PO X none (tP X.K W iNo) := ⟨fun pins s σ H Q I h => po_none.run pins s σ H Q I (by
  obtain ⟨G, la, env, st, b, h⟩ := h
  exact h none H G la (Post.refl b.rel) rfl)⟩
theorem ro_some {e : PySem.Expr} {m : M XV} (h : PE X e (tE X.K W m)) : PO X (some e) (tP X.K W (iPt m)) := ⟨fun pins s σ H Q I q => (po_some h).run pins s σ H Q I (by
  refine tE_bind (O := fun _ => OP) (fun _ _ _ _ _ _ _ _ _ _ _ _ _ _ _ o => o) q fun G la env st x v H1 b o w => ?_
  obtain ⟨z, e, w⟩ := want_lift w
  unfold isI at e
  split at e
  · cases e
    cases o
    exact ⟨_, rfl, w _ H1 G la (Post.refl b.rel) rfl⟩
  · cases e)⟩
theorem tP_bind {K : PySem.W.Frag} {m : M (Option Int)} {k : Option Int → Env → Store → Res XV} {σ : L2.St} {H : Hp} {Q : VK} {R : Option Int → Hp → Prop} {G : Hp} {la : List Addr} {env : Env} {st : Store} (b : Bd K G la st H env σ)
    (h : Want K W (OE K env σ) G la H σ Q ((m env st).bind fun x st1 => k x env st1))
    (c : ∀ G1 la1 st1 x H1, Bd K G1 la1 st1 H1 env σ → Post K G la H G1 la1 st1 H1 → Want K W (OE K env σ) G1 la1 H1 σ Q (k x env st1) → R x H1) : tP K W m σ H R := by
  refine ⟨G, la, env, st, b, ?_⟩
  cases e : m env st with
  | bad => rw [e] at h; exact h
  | ex c fs st1 => rw [e] at h; exact h
  | ok x st1 =>
    rw [e] at h
    intro v H1 G1 la1 p1 o1
    have o1 : x = v := o1
    subst o1
    exact c G1 la1 st1 x H1 (b.step p1) p1 (Want.afterE p1 h)
theorem OutX.step {K : PySem.W.Frag} {G G1 H0 H H1 : Hp} {la la1 : List Addr} {st1 : Store} {env : Env} {σ : L2.St} {v : V} {x : XV} (o : OutX K G la H0 H env σ v x.fz) (p : Post K G la H G1 la1 st1 H1) : OutX K G1 la1 H1 H1 env σ v x.fz := by
  cases x with
  | v d => exact Rep.mono p.same p.pre o
  | n d => exact Rep.mono p.same p.pre o
  | s i d => exact o
def rSlY (K : PySem.W.Frag) (x : V) (lo hi : Option Int) (H : Hp) (Q : VK) : Prop := ∃ G la st d z, Rel K G la st H ∧ Rd1 K G la H x d ∧ slD lo hi d = some z ∧ Aft K G la st H Q z
theorem RepL.cut {K : PySem.W.Frag} {G : Hp} {la : List Addr} {vs : List V} {ds : List D} (r : RepL K G la vs ds) (lo hi : Option Int) : RepL K G la (cutV vs lo hi) (cutL ds lo hi) := by
  unfold cutV cutL
  rw [r.length]
  exact (r.drop _).take _
theorem y_sl : SlR X (rSlY X.K) := by
  intro pins s σ H x v vl vu lo hi sl Q I rx hs pl pu q
  refine SlR.or (sl_list (X := X)) sl_str pins s σ H x v vl vu lo hi sl Q I rx hs pl pu ?_
  obtain ⟨G, la, st, d, z, b, h1, e, w⟩ := q
  unfold slD at e
  split at e
  · cases e
    cases h1 with
    | lst h1 r => exact .inl ⟨_, _, rfl, SqL.of h1, w.lst b (r.cut lo hi)⟩
  · cases e
    cases h1 with
    | scr h1 r => exact .inl ⟨_, _, rfl, h1, w.lst b (r.cut lo hi)⟩
  · split at e
    · cases e
      cases h1
      exact .inr ⟨_, rfl, by assumption, w.val b (.str _)⟩
    · cases e
  · cases e
theorem re_slice {m : M XV} {ml mh : M (Option Int)} {lo hi : Option PySem.Expr} (he : PE X a (tE X.K W m)) (hl : PO X lo (tP X.K W ml)) (hu : PO X hi (tP X.K W mh)) : PE X (.Subscript a (.Slice lo hi none p2) pos) (tE X.K W (iSl m ml mh)) := by
  refine peImp (pe_slice y_sl he hl hu) fun σ H Q h => ?_
  refine tE_bind (O := fun env => OE X.K env σ) backE h fun G la env st x v H1 b o w => ?_
  refine tP_bind (k := fun l env st2 => (mh env st2).bind fun u st3 => lift ((x.fz.con st3).bind (slD l u)) st3) b w fun G1 la1 st1 l H2 b1 p1 w1 => ?_
  refine tP_bind (k := fun u env st3 => lift ((x.fz.con st3).bind (slD l u)) st3) b1 w1 fun G2 la2 st2 u H3 b2 p2 w2 => ?_
  obtain ⟨z, e, w3⟩ := want_lift w2
  obtain ⟨d, e1, e2⟩ := Option.bind_eq_some_iff.mp e
  refine ⟨G2, la2, st2, d, z, b2.rel, b2.read (H0 := H3) ((o.step p1).step p2) e1, e2, fun v' H' G' p o' => w3 v' H' G' la2 p o'.toX⟩
/-- xs[::-1] -/
def revD : D → Option XV
  | .lst xs => some (.n (.lst xs.reverse))
  | .scr xs => some (.n (.lst xs.reverse))
  | _ => none
theorem re_rev {m : M XV} {k : Nat} {p1 p3 : Pos} (he : PE X a (tE X.K W m)) : PE X (.Subscript a (.Slice none none (some (.UnaryOp .USub (.Constant (.int 1) k p1) p2)) p3) pos) (tE X.K W (iPrim (f1 revD) (evCons m evNil))) := by
  refine peImp (pe_revL he) fun σ H Q h => ?_
  refine tE_mono (tA_one (prim_to h)) fun x H1 q => ?_
  obtain ⟨G, la, st, ds, b, rd, w⟩ := q
  cases rd with
  | cons h1 t =>
    cases t
    rename_i d
    have e1 : f1 revD [d] = revD d := rfl
    rw [e1] at w
    unfold revD at w
    cases h1 with
    | lst h1 r => exact ⟨_, _, rfl, SqL.of h1, Aft.lst w b r.reverse⟩
    | scr h1 r => exact ⟨_, _, rfl, h1, Aft.lst w b r.reverse⟩
    | _ => exact False.elim w
/-- -x -/
def negD : D → Option XV
  | .int i => some (.v (.int (-i)))
  | _ => none
theorem re_neg {m : M XV} (he : PE X a (tE X.K W m)) : PE X (.UnaryOp .USub a pos) (tE X.K W (iPrim (f1 negD) (evCons m evNil))) := by
  refine peImp (pe_un un_neg he) fun σ H Q h => ?_
  refine tE_mono (tA_one (prim_to h)) fun x H1 q => ?_
  obtain ⟨G, la, st, ds, b, rd, w⟩ := q
  cases rd with
  | cons h1 t =>
    cases t
    rename_i d
    have e1 : f1 negD [d] = negD d := rfl
    rw [e1] at w
    unfold negD at w
    cases h1 with
    | int i => exact ⟨_, rfl, Aft.val w b (.int _)⟩
    | _ => exact False.elim w
/-! ### built-ins -/
def lenD : D → Option XV
  | .str z => if z.length ≤ sizeLine then some (.v (.int z.length)) else none
  | .lst xs => some (.v (.int xs.length))
  | .tup xs => some (.v (.int xs.length))
  | .scr xs => some (.v (.int xs.length))
  | _ => none
def absD : D → Option XV
  | .int i => some (.v (.int (if i < 0 then -i else i)))
  | _ => none
theorem c_abs : CallR X (.builtin "abs") (rD X.K (f1 absD)) := call_1 call_abs fun G la st x d H Q z b h1 e w => by
  unfold absD at e
  split at e
  · cases e; cases h1; exact ⟨_, rfl, w.val b (.int _)⟩
  · cases e
def strD : D → Option XV
  | .int i => if i.natAbs.log2 < 1920 then some (.v (.str (toString i))) else none
  | _ => none
theorem c_str : CallR X (.type "str") (rD X.K (f1 strD)) := call_1 call_str_int fun G la st x d H Q z b h1 e w => by
  unfold strD at e
  split at e
  · split at e
    · cases e; cases h1; exact ⟨_, rfl, by assumption, w.val b (.str _)⟩
    · cases e
  · cases e
def listD : D → Option XV
  | .lst xs => some (.n (.lst xs))
  | .tup xs => some (.n (.lst xs))
  | .scr xs => some (.n (.lst xs))
  | _ => none
theorem c_list : CallR X (.type "list") (rD X.K (f1 listD)) := call_1 call_list_of fun G la st x d H Q z b h1 e w => by
  unfold listD at e
  split at e
  · cases e
    cases h1 with
    | lst h1 r => exact ⟨_, _, rfl, .inl (SqL.of h1), w.lst b r⟩
  · cases e
    cases h1 with
    | tup h1 r => exact ⟨_, _, rfl, .inr (SqT.of h1), w.lst b r⟩
  · cases e
    cases h1 with
    | scr h1 r => exact ⟨_, _, rfl, .inl h1, w.lst b r⟩
  · cases e
def boolsD : List D → Option (List Bool)
  | [] => some []
  | .bl b :: ds => (boolsD ds).map fun bs => b :: bs
  | _ => none
theorem RepL.bools {K : PySem.W.Frag} {G : Hp} {la : List Addr} : ∀ {ds : List D} {vs : List V} {bs : List Bool}, RepL K G la vs ds → boolsD ds = some bs → vs = bs.map V.bl
  | [], _, _, .nil, e => by cases e; rfl
  | .bl b :: ds, _, _, .cons h t, e => by
    unfold boolsD at e
    obtain ⟨bs, e1, rfl⟩ := Option.map_eq_some_iff.mp e
    cases h
    rw [t.bools e1]
    rfl
  | .non :: _, _, _, _, e => by cases e
  | .int _ :: _, _, _, _, e => by cases e
  | .str _ :: _, _, _, _, e => by cases e
  | .lst _ :: _, _, _, _, e => by cases e
  | .tup _ :: _, _, _, _, e => by cases e
  | .scr _ :: _, _, _, _, e => by cases e
  | .dct _ _ :: _, _, _, _, e => by cases e
  | .dtt _ _ :: _, _, _, _, e => by cases e
  | .obj _ _ _ :: _, _, _, _, e => by cases e
  | .cell _ :: _, _, _, _, e => by cases e
  | .xo _ _ _ _ _ :: _, _, _, _, e => by cases e
  | .exv _ _ _ :: _, _, _, _, e => by cases e
def allD : D → Option XV
  | .lst xs => (boolsD xs).map fun bs => .v (.bl (bs.all id))
  | _ => none
def anyD : D → Option XV
  | .lst xs => (boolsD xs).map fun bs => .v (.bl (bs.any id))
  | _ => none
theorem c_all (hc : X.calm = true) : CallR X (.builtin "all") (rD X.K (f1 allD)) := call_1 (cr_all hc) fun G la st x d H Q z b h1 e w => by
  unfold allD at e
  split at e
  · obtain ⟨bs, e1, rfl⟩ := Option.map_eq_some_iff.mp e
    cases h1 with
    | lst h1 r => exact ⟨_, bs, rfl, by rw [← r.bools e1]; exact SqL.of h1, w.val b (.bl _)⟩
  · cases e
theorem c_any (hc : X.calm = true) : CallR X (.builtin "any") (rD X.K (f1 anyD)) := call_1 (cr_any hc) fun G la st x d H Q z b h1 e w => by
  unfold anyD at e
  split at e
  · obtain ⟨bs, e1, rfl⟩ := Option.map_eq_some_iff.mp e
    cases h1 with
    | lst h1 r => exact ⟨_, bs, rfl, by rw [← r.bools e1]; exact SqL.of h1, w.val b (.bl _)⟩
  · cases e
theorem c_len : CallR X (.builtin "len") (rD X.K (f1 lenD)) := call_1 call_len fun G la st x d H Q z b h1 e w => by
  unfold lenD at e
  split at e
  · split at e
    · cases e; cases h1; exact ⟨_, _, rfl, ⟨by assumption, rfl⟩, w.val b (.int _)⟩
    · cases e
  · cases e
    cases h1 with
    | lst h1 r => exact ⟨_, _, rfl, .inl ⟨_, SqL.of h1, rfl⟩, by rw [r.length]; exact w.val b (.int _)⟩
  · cases e
    cases h1 with
    | tup h1 r => exact ⟨_, _, rfl, .inr ⟨_, SqT.of h1, rfl⟩, by rw [r.length]; exact w.val b (.int _)⟩
  · cases e
    cases h1 with
    | scr h1 r => exact ⟨_, _, rfl, .inl ⟨_, h1, rfl⟩, by rw [r.length]; exact w.val b (.int _)⟩
  · cases e
/-! ### isinstance -/
/-- a class: a built-in type; an own one by its name -/
abbrev Ty := Sum String Str
def tyVal (K : PySem.W.Frag) : Ty → Value
  | .inl n => .type n
  | .inr x => .ref (He.ga K x)
def tyV (K : PySem.W.Frag) : Ty → V
  | .inl n => .ty n
  | .inr x => .ref (He.ga K x)
/-- who is of which class -/
abbrev Kit := List ((Ty × Ty) × Bool)
def Kit.ok (K : PySem.W.Frag) (T : Kit) : Bool := T.all fun q => decide (PySem.W.kitOne K (tyVal K q.1.1) (tyVal K q.1.2) = some q.2)
def Kit.find : Kit → Ty → Ty → Option Bool
  | [], _, _ => none
  | ((a, b), r) :: T, x, y => if a = x ∧ b = y then some r else Kit.find T x y
theorem Kit.get {K : PySem.W.Frag} {a b : Ty} {r : Bool} : ∀ {T : Kit}, T.ok K = true → T.find a b = some r → PySem.W.kitOne K (tyVal K a) (tyVal K b) = some r
  | [], _, e => by cases e
  | ((x, y), z) :: T, h, e => by
    unfold Kit.ok at h
    rw [List.all_cons, Bool.and_eq_true] at h
    unfold Kit.find at e
    split at e
    · rename_i c
      cases e
      rw [← c.1, ← c.2]
      exact of_decide_eq_true h.1
    · exact Kit.get (T := T) h.2 e
/-- what an own class of plain objects must say to be asked for its type -/
def insB (K : PySem.W.Frag) (x : Str) : Bool := (He.Fa.cls x).ok K && (decide (PySem.W.findIn K (.ref (He.ga K x)) "__class__" = some (some (.builtin "object.__class__"))) && (decide (PySem.W.specialIn K (.builtin "object.__class__") "__get__" = some (some (.builtin "getset_descriptor.__get__"))) &&
  (decide (PySem.W.takesIn K (.builtin "object.__class__") = some true) && decide (PySem.W.mroIn K (He.ga K x) (.type "object") = some true))))
/-- a value's type; ow: the own classes of plain objects -/
def tyD (ow : List Str) : D → Option Ty
  | .non => some (.inl "NoneType")
  | .bl _ => some (.inl "bool")
  | .int _ => some (.inl "int")
  | .str _ => some (.inl "str")
  | .lst _ => some (.inl "list")
  | .tup _ => some (.inl "tuple")
  | .dct _ _ => some (.inl "dict")
  | .obj c _ _ => if c ∈ ow then some (.inr c) else none
  | _ => none
theorem Rd1.ty {K : PySem.W.Frag} {G H : Hp} {la : List Addr} {x : V} {d : D} {t : Ty} {ow : List Str} (ho : ow.all (insB K) = true) (h : Rd1 K G la H x d) (e : tyD ow d = some t) : TyX K H x (tyVal K t) := by
  cases h with
  | non => cases e; exact .base .non
  | bl b => cases e; exact .base (.bl _)
  | int b => cases e; exact .base (.int _)
  | str b => cases e; exact .base (.str _)
  | lst h r => cases e; exact .base (.lst h)
  | tup h r => cases e; exact .base (.tup h)
  | scr h r => cases e
  | dct h q r =>
    cases e
    rcases h with h | ⟨o, h⟩
    · exact .base (.dK h)
    · exact .fDict h
  | dtt h q r => cases e
  | obj h q r =>
    rename_i cn _ _ _
    have e : (if cn ∈ ow then some (Sum.inr cn) else none) = some t := e
    by_cases hm : cn ∈ ow
    · rw [if_pos hm] at e
      cases e
      have c := List.all_eq_true.mp ho _ hm
      unfold insB at c
      obtain ⟨c1, c⟩ := He.ba c
      obtain ⟨c2, c⟩ := He.ba c
      obtain ⟨c3, c⟩ := He.ba c
      obtain ⟨c4, c5⟩ := He.ba c
      exact .base (.ins h (He.cls_ok c1) (of_decide_eq_true c2) (of_decide_eq_true c3) (of_decide_eq_true c4) (of_decide_eq_true c5))
    · rw [if_neg hm] at e
      cases e
  | xo0 => cases e
  | xo1 => cases e
  | ev0 => cases e
  | ev1 => cases e
def isiD (ow : List Str) (T : Kit) (c : Ty) (d : D) : Option XV := (tyD ow d).bind fun t => (T.find t c).map fun b => .v (.bl b)
theorem re_isi {a b : PySem.Expr} {m : M XV} {W : WX} {c : Ty} {ow : List Str} {T : Kit} {p pos : Pos} (ho : ow.all (insB X.K) = true) (hT : T.ok X.K = true) (hg : Gl X "isinstance") (hm : X.mg "isinstance" = none) (ha : PE X a (tE X.K W m)) (hb : PE X b (tC (tyV X.K c)))
    (h1 : starEach (b :: []) X.env = (false, eval b X.env) :: starEach [] X.env := by rfl) (h2 : starEach (a :: [b]) X.env = (false, eval a X.env) :: starEach [b] X.env := by rfl) (hpl : (backTo pos (starEach [b] X.env)).any (·.1) = false := by rfl) :
    PE X (.Call (.Name "isinstance" p) [a, b] [] pos) (tE X.K W (iPrim (f1 (isiD ow T c)) (evCons m evNil))) := by
  refine peImp (pe_callB call_isi hg hm rfl (pa_cons ha (pa_cons hb pa_nil h1) h2) (by decide) (by decide) h2 hpl) fun σ H Q h => ?_
  refine tE_mono (tA_one (prim_to h)) fun x H1 q => ?_
  obtain ⟨G, la, st, ds, bb, rd, w⟩ := q
  cases rd with
  | cons h1 t =>
    cases t
    rename_i d
    have e1 : f1 (isiD ow T c) [d] = isiD ow T c d := rfl
    rw [e1] at w
    cases e2 : isiD ow T c d with
    | none => rw [e2] at w; exact False.elim w
    | some z =>
      rw [e2] at w
      unfold isiD at e2
      obtain ⟨t, e3, e2⟩ := Option.bind_eq_some_iff.mp e2
      obtain ⟨k, e4, rfl⟩ := Option.map_eq_some_iff.mp e2
      exact ⟨x, tyV X.K c, tyVal X.K t, tyVal X.K c, k, rfl, by cases c <;> constructor, h1.ty ho e3, Kit.get hT e4, Aft.val w bb (.bl _)⟩
end
end Y

set_option maxHeartbeats 4000000
/-! Y6: walks, loops, comprehensions. -/
namespace Y
open PySem L2

section
variable {K : PySem.W.Frag} {G0 H0 G H G' H' : Hp} {la0 la la' : List Addr} {st st' : Store} {env : Env} {σ : L2.St} {W : WX} {D : Ends}
/-- an expression, then k; the road from before it is kept -/
theorem tE_stmtF {m : M XV} {k : XV → Store → Fl} {R : VK} (f : Fr K G0 la0 H0 G la st H env σ) (h : WantS K W G0 la0 H0 G la D ((m env st).fl env k))
    (c : ∀ G1 la1 st1 x v H1, Post K G la H G1 la1 st1 H1 → Fr K G0 la0 H0 G1 la1 st1 H1 env σ → OutX K G1 la1 H H1 env σ v x → WantS K W G0 la0 H0 G1 la1 D (k x st1) → R v H1) : tE K W m σ H R := by
  refine ⟨G, la, env, st, f.bd, ?_⟩
  cases e : m env st with
  | bad => rw [e] at h; exact h
  | ex c fs st1 =>
    rw [e] at h
    exact fun d H' G' la' p x => h d σ H' G' la' (f.step p) x
  | ok x st1 =>
    rw [e] at h
    exact fun v H1 G1 la1 p1 o1 => c G1 la1 st1 x v H1 p1 (f.step p1) o1 (h.mono p1.same p1.pre)
theorem tA_stmtF {m : M (List XV)} {k : List XV → Store → Fl} {R : List V → Hp → Prop} (f : Fr K G0 la0 H0 G la st H env σ) (h : WantS K W G0 la0 H0 G la D ((m env st).fl env k))
    (c : ∀ G1 la1 st1 xs vs H1, Post K G la H G1 la1 st1 H1 → Fr K G0 la0 H0 G1 la1 st1 H1 env σ → OutL K G1 la1 env σ vs xs → WantS K W G0 la0 H0 G1 la1 D (k xs st1) → R vs H1) : tA K W m σ H R := by
  refine ⟨G, la, env, st, f.bd, ?_⟩
  cases e : m env st with
  | bad => rw [e] at h; exact h
  | ex c fs st1 =>
    rw [e] at h
    exact fun d H' G' la' p x => h d σ H' G' la' (f.step p) x
  | ok x st1 =>
    rw [e] at h
    exact fun v H1 G1 la1 p1 o1 => c G1 la1 st1 x v H1 p1 (f.step p1) o1 (h.mono p1.same p1.pre)
theorem tT_stmtF {m : M Bool} {k : Bool → Store → Fl} {R : Bool → Hp → Prop} (f : Fr K G0 la0 H0 G la st H env σ) (h : WantS K W G0 la0 H0 G la D ((m env st).fl env k))
    (c : ∀ G1 la1 st1 b H1, Post K G la H G1 la1 st1 H1 → Fr K G0 la0 H0 G1 la1 st1 H1 env σ → WantS K W G0 la0 H0 G1 la1 D (k b st1) → R b H1) : tT K W m σ H R := by
  refine ⟨G, la, env, st, f.bd, ?_⟩
  cases e : m env st with
  | bad => rw [e] at h; exact h
  | ex c fs st1 =>
    rw [e] at h
    exact fun d H' G' la' p x => h d σ H' G' la' (f.step p) x
  | ok x st1 =>
    rw [e] at h
    intro v H1 G1 la1 p1 o1
    have o1 : x = v := o1
    subst o1
    exact c G1 la1 st1 x H1 p1 (f.step p1) (h.mono p1.same p1.pre)
end

/-! ### a, b = x, y -/
def sPar (i j : Nat) (ms : M (List XV)) : MS := fun env st => (ms env st).fl env fun xs st1 => match getD xs with
  | some [d, e] => .nx ((env.set i (some (.v d))).set j (some (.v e))) st1
  | _ => .bad
section
variable {X : Cx} {W : WX} {G0 H0 : Hp} {la0 : List Addr} {s : PySem.Stmt}
theorem rs_par {i j : Nat} {ms : M (List XV)} (h : PS X s (tPar i j (tA X.K W ms))) : PS X s (tS X.K W G0 la0 H0 (sPar i j ms)) := by
  refine psImp h fun D σ H h => ?_
  obtain ⟨G, la, env, st, f, h⟩ := h
  unfold sPar at h
  refine tA_stmtF f h fun G1 la1 st1 xs vs H1 p f1 o w => ?_
  cases e : getD xs with
  | none => rw [e] at w; exact False.elim w
  | some ds =>
    rw [e] at w
    have r := o.reps e
    match ds, w, r with
    | [], w, _ => exact False.elim w
    | [_], w, _ => exact False.elim w
    | _ :: _ :: _ :: _, w, _ => exact False.elim w
    | [d, e], w, .cons h1 (.cons h2 .nil) => exact ⟨_, _, rfl, w _ H1 G1 la1 ((f1.setV i h1).setV j h2) (Same.refl _) (Pre.refl _)⟩
end

/-! ### while -/
def wIter (c : M Bool) (b : MS) : Nat → MS
  | 0 => fun _ _ => .bad
  | n + 1 => fun env st => (c env st).fl env fun k st1 => if k = true then (match b env st1 with
    | .nx e s => wIter c b n e s
    | .ct e s => wIter c b n e s
    | .bk e s => .nx e s
    | f => f) else .nx env st1
open Classical in
noncomputable def sWhile (c : M Bool) (b : MS) : MS := fun env st => if h : ∃ n, wIter c b n env st ≠ .bad then wIter c b (Classical.choose h) env st else .bad
theorem wIter_succ {c : M Bool} {b : MS} : ∀ (n : Nat) (env : Env) (st : Store), wIter c b n env st ≠ .bad → wIter c b (n + 1) env st = wIter c b n env st
  | 0, _, _, h => (h rfl).elim
  | n + 1, env, st, h => by
    have e1 : ∀ m, wIter c b (m + 1) env st = (c env st).fl env fun k st1 => if k = true then (match b env st1 with
      | .nx e s => wIter c b m e s
      | .ct e s => wIter c b m e s
      | .bk e s => .nx e s
      | f => f) else .nx env st1 := fun _ => rfl
    rw [e1] at h
    rw [e1, e1]
    cases ec : c env st with
    | bad => rfl
    | ex _ _ _ => rfl
    | ok k st1 =>
      rw [ec] at h
      have h : (if k = true then (match b env st1 with
        | .nx e s => wIter c b n e s
        | .ct e s => wIter c b n e s
        | .bk e s => .nx e s
        | f => f) else .nx env st1) ≠ .bad := h
      show (if k = true then (match b env st1 with
        | .nx e s => wIter c b (n + 1) e s
        | .ct e s => wIter c b (n + 1) e s
        | .bk e s => .nx e s
        | f => f) else .nx env st1) = (if k = true then (match b env st1 with
        | .nx e s => wIter c b n e s
        | .ct e s => wIter c b n e s
        | .bk e s => .nx e s
        | f => f) else .nx env st1)
      by_cases hk : k = true
      · rw [if_pos hk] at h
        rw [if_pos hk, if_pos hk]
        cases eb : b env st1 with
        | nx e s => rw [eb] at h; exact wIter_succ n e s h
        | ct e s => rw [eb] at h; exact wIter_succ n e s h
        | _ => rfl
      · rw [if_neg hk, if_neg hk]
theorem wIter_add {c : M Bool} {b : MS} {n : Nat} {env : Env} {st : Store} (h : wIter c b n env st ≠ .bad) : ∀ k, wIter c b (n + k) env st = wIter c b n env st
  | 0 => rfl
  | k + 1 => by
    have e := wIter_add h k
    rw [← Nat.add_assoc, wIter_succ _ _ _ (by rw [e]; exact h), e]
theorem sWhile_eq {c : M Bool} {b : MS} {n : Nat} {env : Env} {st : Store} (h : wIter c b n env st ≠ .bad) : sWhile c b env st = wIter c b n env st := by
  have hx : ∃ n, wIter c b n env st ≠ .bad := ⟨n, h⟩
  unfold sWhile
  rw [dif_pos hx]
  have h2 := Classical.choose_spec hx
  rcases Nat.le_total (Classical.choose hx) n with q | q
  · obtain ⟨k, e⟩ := Nat.exists_eq_add_of_le q
    rw [e, wIter_add h2 k]
  · obtain ⟨k, e⟩ := Nat.exists_eq_add_of_le q
    rw [e, wIter_add h k]
section
variable {X : Cx} {W : WX} {G0 H0 : Hp} {la0 : List Addr}
theorem rs_while {c : PySem.Expr} {body : List PySem.Stmt} {mc : M Bool} {mb : MS} {pos : Pos} (hp : PassesOwn (model X.prog X.w) X.A X.env X.xe) (hc : PT X c (tT X.K W mc)) (hb : PSs X body (tS X.K W G0 la0 H0 mb)) :
    PS X (.While c body [] pos) (tS X.K W G0 la0 H0 (sWhile mc mb)) := by
  refine psImp (ps_while hp hc hb) fun D σ H h => ?_
  obtain ⟨G, la, env, st, f, h⟩ := h
  refine ⟨fun m σ H => ∃ G la env st, Fr X.K G0 la0 H0 G la st H env σ ∧ WantS X.K W G0 la0 H0 G la D (wIter mc mb m env st), ?_, ?_⟩
  · unfold sWhile at h
    split at h
    · exact ⟨_, G, la, env, st, f, h⟩
    · exact False.elim h
  · rintro m σ H ⟨G, la, env, st, f, h⟩
    cases m with
    | zero => exact False.elim h
    | succ n =>
      unfold wIter at h
      refine tT_stmtF f h fun G1 la1 st1 b H1 p f1 w => ?_
      by_cases hb : b = true
      · rw [if_pos hb] at w ⊢
        refine ⟨fun σ H => ∃ G la env st, Fr X.K G0 la0 H0 G la st H env σ ∧ WantS X.K W G0 la0 H0 G la D (wIter mc mb n env st), fun σ' H' q => ⟨n, Nat.lt_succ_self n, q⟩, G1, la1, env, st1, f1, ?_⟩
        cases e : mb env st1 with
        | nx e2 s2 => rw [e] at w; exact fun σ H G la q s p => ⟨G, la, _, _, q, w.mono s p⟩
        | ct e2 s2 => rw [e] at w; exact fun σ H G la q s p => ⟨G, la, _, _, q, w.mono s p⟩
        | bk e2 s2 => rw [e] at w; exact w
        | rt x s2 => rw [e] at w; exact w
        | ex c fs e2 s2 => rw [e] at w; exact w
        | bad => rw [e] at w; exact w
      · rw [if_neg hb] at w ⊢
        exact w σ H1 G1 la1 f1 (Same.refl _) (Pre.refl _)
end

/-! ### what a for walks -/
/-- J gives ds, whatever has come since -/
def Walk (K : PySem.W.Frag) (G : Hp) (la : List Addr) (J : It) (ds : List D) : Prop := ∀ (G2 : Hp) (la2 : List Addr) (st2 : Store) (H2 : Hp), Same G G2 → Pre la la2 → Rel K G2 la2 st2 H2 →
  (∀ (i : Nat) (d : D), ds[i]? = some d → J.go i H2 ∧ ∀ x H', J.yld i H2 x H' → ∃ G3, Post K G2 la2 H2 G3 la2 st2 H' ∧ Rep K G3 la2 x d) ∧ J.stop ds.length H2
theorem Walk.mono {K : PySem.W.Frag} {G G' : Hp} {la la' : List Addr} {J : It} {ds : List D} (w : Walk K G la J ds) (s : Same G G') (p : Pre la la') : Walk K G' la' J ds := fun G2 la2 st2 H2 s2 p2 r => w G2 la2 st2 H2 (s.trans s2) (p.trans p2) r
abbrev OI (K : PySem.W.Frag) : Hp → List Addr → Hp → Hp → List D → It → Prop := fun G la _ _ ds J => Walk K G la J ds
def tI (K : PySem.W.Frag) (W : WX) (m : M (List D)) : TI := fun σ H R => ∃ G la env st, Bd K G la st H env σ ∧ Want K W (OI K) G la H σ R (m env st)
theorem piImp {X : Cx} {tg e : PySem.Expr} {t t' : TI} (h : PI X tg e t) (i : ∀ σ H R, t' σ H R → t σ H R) : PI X tg e t' := ⟨fun pins s σ H R I hq => h.run pins s σ H R I (i σ H R hq)⟩
def chrD (c : Nat) : D := .str ⟨#[c]⟩
def seqD : D → Option (List D)
  | .lst xs => some xs
  | .tup xs => some xs
  | .scr xs => some xs
  | .str z => some (z.cps.toList.map chrD)
  | _ => none
def valX : XV → Option D
  | .v d => some d
  | .n d => some d
  | .s _ _ => none
def lstQ : D → Option (List D)
  | .lst xs => some xs
  | .scr xs => some xs
  | _ => none
def tupQ : D → Option (List D)
  | .tup xs => some xs
  | _ => none
def iSrc (q : D → Option (List D)) (m : M XV) : M (List D) := fun env st => (m env st).bind fun x st1 => lift ((valX x).bind q) st1
section
variable {K : PySem.W.Frag} {G H : Hp} {la : List Addr}
theorem Rep.seqL {v : V} {d : D} {ds : List D} (r : Rep K G la v d) (e : lstQ d = some ds) : ∃ a vs, v = .ref a ∧ SqL K G a vs ∧ RepL K G la vs ds := by
  cases r <;> first | (cases e; done) | skip
  · cases e; rename_i h r; exact ⟨_, _, rfl, SqL.of h, r⟩
  · cases e; rename_i h r; exact ⟨_, _, rfl, h, r⟩
theorem Rep.seqT {v : V} {d : D} {ds : List D} (r : Rep K G la v d) (e : tupQ d = some ds) : ∃ a vs, v = .ref a ∧ SqT K G a vs ∧ RepL K G la vs ds := by
  cases r <;> first | (cases e; done) | skip
  · cases e; rename_i h r; exact ⟨_, _, rfl, SqT.of h, r⟩
theorem walk_list {a : Addr} {vs : List V} {ds : List D} (h : SqL K G a vs) (r : RepL K G la vs ds) : Walk K G la (Itl K a) ds := fun G2 la2 st2 H2 s p rl => by
  have hq : SqL K H2 a vs := rl.sub.sqL (sqL_mono s h)
  refine ⟨fun i d e => ?_, vs, hq, Nat.le_of_eq r.length⟩
  obtain ⟨v, e1, r1⟩ := r.get e
  refine ⟨⟨vs, v, hq, e1⟩, fun x H' y => ?_⟩
  obtain ⟨rfl, y⟩ := y
  have e2 := y vs hq
  rw [e1] at e2
  cases e2
  exact ⟨G2, Post.refl rl, r1.mono s p⟩
theorem walk_tup {a : Addr} {vs : List V} {ds : List D} (h : SqT K G a vs) (r : RepL K G la vs ds) : Walk K G la (Itt K a) ds := fun G2 la2 st2 H2 s p rl => by
  have hq : SqT K H2 a vs := rl.sub.sqT (sqT_mono s h)
  refine ⟨fun i d e => ?_, vs, hq, Nat.le_of_eq r.length⟩
  obtain ⟨v, e1, r1⟩ := r.get e
  refine ⟨⟨vs, v, hq, e1⟩, fun x H' y => ?_⟩
  obtain ⟨rfl, y⟩ := y
  have e2 := y vs hq
  rw [e1] at e2
  cases e2
  exact ⟨G2, Post.refl rl, r1.mono s p⟩
def rngD (lo : Int) : Nat → List D
  | 0 => []
  | n + 1 => .int lo :: rngD (lo + 1) n
theorem rngD_get : ∀ (n : Nat) (lo : Int) (i : Nat), (rngD lo n)[i]? = if i < n then some (.int (lo + i)) else none
  | 0, lo, i => by simp [rngD]
  | n + 1, lo, 0 => by simp [rngD]
  | n + 1, lo, i + 1 => by
    rw [show rngD lo (n + 1) = .int lo :: rngD (lo + 1) n from rfl, List.getElem?_cons_succ, rngD_get n (lo + 1) i]
    by_cases h : i < n
    · rw [if_pos h, if_pos (by omega)]
      have e : lo + 1 + (i : Int) = lo + ((i + 1 : Nat) : Int) := by omega
      rw [e]
    · rw [if_neg h, if_neg (by omega)]
theorem rngD_len : ∀ (n : Nat) (lo : Int), (rngD lo n).length = n
  | 0, _ => rfl
  | n + 1, lo => by rw [show rngD lo (n + 1) = .int lo :: rngD (lo + 1) n from rfl, List.length_cons, rngD_len n]
theorem walk_rng (lo : Int) (n : Nat) : Walk K G la (Itr lo n) (rngD lo n) := fun G2 la2 st2 H2 s p rl => by
  refine ⟨fun i d e => ?_, by rw [rngD_len]; exact Nat.le_refl n⟩
  rw [rngD_get] at e
  split at e
  · rename_i h
    cases e
    refine ⟨h, fun x H' y => ?_⟩
    obtain ⟨rfl, rfl⟩ := y
    exact ⟨G2, Post.refl rl, .int _⟩
  · cases e
end
section
variable {X : Cx} {W : WX} {tg a b : PySem.Expr} {m ma mb : M XV} {p pos : Pos}
theorem src_bind {K : PySem.W.Frag} {q : D → Option (List D)} {σ : L2.St} {H : Hp} {R : It → Hp → Prop} {R2 : VK} (h : tI K W (iSrc q m) σ H R)
    (c : ∀ G la env st v d ds H1, Bd K G la st H1 env σ → Rep K G la v d → q d = some ds → (∀ J, Walk K G la J ds → R J H1) → R2 v H1) : tE K W m σ H R2 := by
  refine tE_bind (O := fun _ => OI K) (fun _ _ _ _ _ _ _ _ _ _ _ _ _ _ _ o => o) h fun G la env st x v H1 b o w => ?_
  obtain ⟨ds, e, w2⟩ := want_lift w
  obtain ⟨d, e1, e2⟩ := Option.bind_eq_some_iff.mp e
  cases x with
  | s i d => cases e1
  | v d => cases e1; exact c G la env st v _ ds H1 b o e2 fun J hJ => w2 J H1 G la (Post.refl b.rel) hJ
  | n d => cases e1; exact c G la env st v _ ds H1 b o e2 fun J hJ => w2 J H1 G la (Post.refl b.rel) hJ
theorem ri_list (he : PE X a (tE X.K W m)) : PI X tg a (tI X.K W (iSrc lstQ m)) := piImp (pi_list he) fun σ H R h =>
  src_bind h fun G la env st v d ds H1 b r e k => by
    obtain ⟨a, vs, rfl, hs, r⟩ := r.seqL e
    exact ⟨a, rfl, ⟨vs, b.rel.sub.sqL hs⟩, k _ (walk_list hs r)⟩
theorem ri_tup (he : PE X a (tE X.K W m)) : PI X tg a (tI X.K W (iSrc tupQ m)) := piImp (pi_tup he) fun σ H R h =>
  src_bind h fun G la env st v d ds H1 b r e k => by
    obtain ⟨a, vs, rfl, hs, r⟩ := r.seqT e
    exact ⟨a, rfl, ⟨vs, b.rel.sub.sqT hs⟩, k _ (walk_tup hs r)⟩
def rng1Q : List XV → Option (List D)
  | [.v (.int j)] => if -(2 ^ 62) ≤ j ∧ j < 2 ^ 62 then some (rngD 0 j.toNat) else none
  | _ => none
def rng2Q : List XV → Option (List D)
  | [.v (.int i), .v (.int j)] => if -(2 ^ 62) ≤ i ∧ i < 2 ^ 62 ∧ -(2 ^ 62) ≤ j ∧ j < 2 ^ 62 then some (rngD i (j - i).toNat) else none
  | _ => none
def iRng (q : List XV → Option (List D)) (ms : M (List XV)) : M (List D) := fun env st => (ms env st).bind fun xs st1 => lift (q xs) st1
theorem tA_bindI {K : PySem.W.Frag} {ms : M (List XV)} {k : List XV → Env → Store → Res (List D)} {σ : L2.St} {H : Hp} {Q : It → Hp → Prop} {R : List V → Hp → Prop}
    (h : tI K W (fun env st => (ms env st).bind fun xs st1 => k xs env st1) σ H Q)
    (c : ∀ G la env st xs vs H1, Bd K G la st H1 env σ → OutL K G la env σ vs xs → Want K W (OI K) G la H1 σ Q (k xs env st) → R vs H1) : tA K W ms σ H R := by
  obtain ⟨G, la, env, st, b, h⟩ := h
  refine ⟨G, la, env, st, b, ?_⟩
  dsimp only at h
  cases e : ms env st with
  | bad => rw [e] at h; exact h
  | ex c fs st1 => rw [e] at h; exact h
  | ok xs st1 =>
    rw [e] at h
    exact fun vs H1 G1 la1 p1 o1 => c G1 la1 env st1 xs vs H1 (b.step p1) o1 (Want.after p1 (fun _ _ _ _ _ _ o => o) h)
theorem ri_range1 (hg : Gl X "range") (hm : X.mg "range" = none) (ha : PE X a (tE X.K W ma)) (hs : starEach (a :: []) X.env = (false, eval a X.env) :: starEach [] X.env := by rfl) (hs3 : starEach [a] X.env = [(false, eval a X.env)] := by rfl) :
    PI X tg (.Call (.Name "range" p) [a] [] pos) (tI X.K W (iRng rng1Q (evCons ma evNil))) :=
  piImp (pi_range1 hg hm (ra_cons ha ra_nil hs) hs3) fun σ H R h => by
    refine tA_bindI h fun G la env st xs vs H1 b o w => ?_
    obtain ⟨ds, e, w⟩ := want_lift w
    unfold rng1Q at e
    split at e
    · split at e
      · rename_i c
        cases e
        cases o with
        | v h t =>
          cases t
          cases h
          exact ⟨_, rfl, c.1, c.2, w _ H1 G la (Post.refl b.rel) (walk_rng _ _)⟩
      · cases e
    · cases e
theorem ri_range2 (hg : Gl X "range") (hm : X.mg "range" = none) (ha : PE X a (tE X.K W ma)) (hb : PE X b (tE X.K W mb)) (hs : starEach (b :: []) X.env = (false, eval b X.env) :: starEach [] X.env := by rfl) (hs2 : starEach (a :: [b]) X.env = (false, eval a X.env) :: starEach [b] X.env := by rfl) (hs3 : starEach [a, b] X.env = [(false, eval a X.env), (false, eval b X.env)] := by rfl) :
    PI X tg (.Call (.Name "range" p) [a, b] [] pos) (tI X.K W (iRng rng2Q (evCons ma (evCons mb evNil)))) :=
  piImp (pi_range2 hg hm (ra_cons ha (ra_cons hb ra_nil hs) hs2) hs3 hs) fun σ H R h => by
    refine tA_bindI h fun G la env st xs vs H1 b o w => ?_
    obtain ⟨ds, e, w⟩ := want_lift w
    unfold rng2Q at e
    split at e
    · split at e
      · rename_i c
        cases e
        cases o with
        | v h t =>
          cases t with
          | v h2 t =>
            cases t
            cases h
            cases h2
            exact ⟨_, _, rfl, c, w _ H1 G la (Post.refl b.rel) (walk_rng _ _)⟩
      · cases e
    · cases e
end

/-! ### targets -/
abbrev Pat := D → Env → Option Env
/-- only the slots sl have changed -/
def Only (σ σ' : L2.St) (sl : List Nat) : Prop := ∀ ws : List Nat, (∀ i ∈ sl, i ∈ ws) → wipe σ' ws = wipe σ ws
theorem set_set_comm {α : Type} {l : List α} {i j : Nat} {a b : α} (h : i ≠ j) : (l.set i a).set j b = (l.set j b).set i a := List.set_comm a b h
theorem wipe_set {i : Nat} {x : Option V} : ∀ {ws : List Nat} {σ : L2.St}, i ∈ ws → wipe (σ.set i x) ws = wipe σ ws
  | [], _, h => nomatch h
  | w :: ws, σ, h => by
    show (wipe (σ.set i x) ws).set w none = (wipe σ ws).set w none
    by_cases q : i ∈ ws
    · rw [wipe_set q]
    · have e : i = w := by
        rcases List.mem_cons.mp h with e | e
        · exact e
        · exact (q e).elim
      subst e
      have key : ∀ {ws : List Nat} {σ : L2.St}, i ∉ ws → wipe (σ.set i x) ws = (wipe σ ws).set i x := by
        intro ws
        induction ws with
        | nil => intro σ _; rfl
        | cons v vs ih =>
          intro σ hn
          rw [List.mem_cons, not_or] at hn
          show (wipe (σ.set i x) vs).set v none = ((wipe σ vs).set v none).set i x
          rw [ih hn.2, set_set_comm hn.1]
      rw [key q, List.set_set]
theorem wipe_wipe : ∀ {vs ws : List Nat} {σ : L2.St}, (∀ i ∈ vs, i ∈ ws) → wipe (wipe σ vs) ws = wipe σ ws
  | [], _, _, _ => rfl
  | v :: vs, ws, σ, h => by
    show wipe ((wipe σ vs).set v none) ws = wipe σ ws
    rw [wipe_set (h v List.mem_cons_self), wipe_wipe fun i hi => h i (List.mem_cons_of_mem _ hi)]
def TgOk (K : PySem.W.Frag) (g : TG) (p : Pat) (sl : List Nat) : Prop := ∀ (G0 : Hp) (la0 : List Addr) (H0 G : Hp) (la : List Addr) (st : Store) (H : Hp) (env : Env) (σ : L2.St) (v : V) (d : D) (env' : Env) (Q : L2.St → Hp → Prop),
  Fr K G0 la0 H0 G la st H env σ → Rep K G la v d → p d env = some env' → (∀ σ', Fr K G0 la0 H0 G la st H env' σ' → Only σ σ' sl → Q σ' H) → g v σ H Q
def TgsOk (K : PySem.W.Frag) (g : TGs) (p : List D → Env → Option Env) (sl : List Nat) : Prop := ∀ (G0 : Hp) (la0 : List Addr) (H0 G : Hp) (la : List Addr) (st : Store) (H : Hp) (env : Env) (σ : L2.St) (vs : List V) (ds : List D) (env' : Env) (Q : L2.St → Hp → Prop),
  Fr K G0 la0 H0 G la st H env σ → RepL K G la vs ds → p ds env = some env' → (∀ σ', Fr K G0 la0 H0 G la st H env' σ' → Only σ σ' sl → Q σ' H) → g vs σ H Q
def pNm (i : Nat) : Pat := fun d env => some (env.set i (some (.v d)))
def psNil : List D → Env → Option Env
  | [], env => some env
  | _, _ => none
def psCons (p : Pat) (q : List D → Env → Option Env) : List D → Env → Option Env
  | d :: ds, env => (p d env).bind fun e => q ds e
  | _, _ => none
def pTup (q : List D → Env → Option Env) : Pat := fun d env => match d with
  | .tup ds => q ds env
  | _ => none
theorem tg_nm {K : PySem.W.Frag} {i : Nat} : TgOk K (gName i) (pNm i) [i] := fun G0 la0 H0 G la st H env σ v d env' Q f r e k => by
  cases e
  exact k _ (f.setV i r) fun ws h => wipe_set (h i List.mem_cons_self)
theorem tgs_nil {K : PySem.W.Frag} : TgsOk K gNil psNil [] := fun G0 la0 H0 G la st H env σ vs ds env' Q f r e k => by
  cases r with
  | nil => cases e; exact ⟨rfl, k σ f fun _ _ => rfl⟩
  | cons _ _ => cases e
theorem tgs_cons {K : PySem.W.Frag} {g : TG} {u : TGs} {p : Pat} {q : List D → Env → Option Env} {sl tl : List Nat} (h1 : TgOk K g p sl) (h2 : TgsOk K u q tl) : TgsOk K (gCons g u) (psCons p q) (sl ++ tl) := fun G0 la0 H0 G la st H env σ vs ds env' Q f r e k => by
  cases r with
  | nil => cases e
  | cons h t =>
    obtain ⟨e1, e2, e3⟩ := Option.bind_eq_some_iff.mp e
    exact ⟨_, _, rfl, h1 _ _ _ _ _ _ _ _ _ _ _ _ _ f h e2 fun σ' f' o1 => h2 _ _ _ _ _ _ _ _ _ _ _ _ _ f' t e3 fun σ2 f2 o2 => k σ2 f2 fun ws hw =>
      (o2 ws fun i hi => hw i (List.mem_append.mpr (.inr hi))).trans (o1 ws fun i hi => hw i (List.mem_append.mpr (.inl hi)))⟩
/-- n names -/
theorem tg_tup {K : PySem.W.Frag} {u : TGs} {q : List D → Env → Option Env} {n : Nat} {sl : List Nat} (h : TgsOk K u q sl) (hn : ∀ ds env e, q ds env = some e → ds.length = n) : TgOk K (gTup K n u) (pTup q) sl := fun G0 la0 H0 G la st H env σ v d env' Q f r e k => by
  unfold pTup at e
  split at e
  · cases r with
    | tup h1 r => exact ⟨_, _, rfl, f.bd.rel.sub.sqT (SqT.of h1), by rw [r.length]; exact hn _ _ _ e, h _ _ _ _ _ _ _ _ _ _ _ _ _ f r e k⟩
  · cases e
theorem len_nil : ∀ ds env e, psNil ds env = some e → ds.length = 0 := fun ds env e h => by
  cases ds with
  | nil => rfl
  | cons _ _ => cases h
theorem len_cons {p : Pat} {q : List D → Env → Option Env} {n : Nat} (h : ∀ ds env e, q ds env = some e → ds.length = n) : ∀ ds env e, psCons p q ds env = some e → ds.length = n + 1 := fun ds env e z => by
  cases ds with
  | nil => cases z
  | cons d ds =>
    obtain ⟨e1, e2, e3⟩ := Option.bind_eq_some_iff.mp z
    rw [List.length_cons, h _ _ _ e3]

/-! ### for -/
def fIter (p : Pat) (b : MS) : List D → MS
  | [] => fun env st => .nx env st
  | d :: ds => fun env st => match p d env with
    | none => .bad
    | some env1 => match b env1 st with
      | .nx e s => fIter p b ds e s
      | .ct e s => fIter p b ds e s
      | .bk e s => .nx e s
      | f => f
def Res.flD (r : Res (List D)) (env : Env) (k : List D → Store → Fl) : Fl :=
  match r with
  | .ok a st => k a st
  | .ex c fs st => .ex c fs env st
  | .bad => .bad
def sFor (src : M (List D)) (p : Pat) (b : MS) : MS := fun env st => (src env st).flD env fun ds st1 => fIter p b ds env st1
section
variable {X : Cx} {W : WX} {G0 H0 : Hp} {la0 : List Addr}
theorem rs_for {tg it : PySem.Expr} {body : List PySem.Stmt} {src : M (List D)} {g : TG} {p : Pat} {mb : MS} {pos : Pos} (hp : PassesOwn (model X.prog X.w) X.A X.env X.xe) (hc : X.calm = true) (hi : PI X tg it (tI X.K W src)) (hg : PG X tg g) {sl : List Nat} (tk : TgOk X.K g p sl) (hb : PSs X body (tS X.K W G0 la0 H0 mb))
    (hs : ∀ x, foldedSetIterable it X.env x = pure x := by intro _; rfl) : PS X (.For tg it body [] pos) (tS X.K W G0 la0 H0 (sFor src p mb)) := by
  refine psImp (ps_for hp hc hi hg hb hs) fun D σ H h => ?_
  obtain ⟨G, la, env, st, f, h⟩ := h
  refine ⟨G, la, env, st, f.bd, ?_⟩
  unfold sFor at h
  cases e : src env st with
  | bad => rw [e] at h; exact h
  | ex c fs st1 =>
    rw [e] at h
    exact fun d H' G' la' p x => h d σ H' G' la' (f.step p) x
  | ok ds st1 =>
    rw [e] at h
    have h : WantS X.K W G0 la0 H0 G la D (fIter p mb ds env st1) := h
    intro J H1 G1 la1 p1 hw
    have hw : Walk X.K G1 la1 J ds := hw
    refine ⟨fun i m σ H => ∃ G la env st, Fr X.K G0 la0 H0 G la st H env σ ∧ Same G1 G ∧ Pre la1 la ∧ m + i = ds.length ∧ WantS X.K W G0 la0 H0 G la D (fIter p mb (ds.drop i) env st), ⟨ds.length, G1, la1, env, st1, f.step p1, Same.refl _, Pre.refl _, rfl, h.mono p1.same p1.pre⟩, ?_⟩
    rintro i m σ H ⟨G, la, env, st, f, s, pr, hm, h⟩
    obtain ⟨w1, w2⟩ := hw G la st H s pr f.bd.rel
    cases q : ds[i]? with
    | none =>
      have hl : ds.length ≤ i := List.getElem?_eq_none_iff.mp q
      have ei : i = ds.length := by omega
      rw [List.drop_eq_nil_of_le hl] at h
      exact .inl ⟨ei ▸ w2, h σ H G la f (Same.refl _) (Pre.refl _)⟩
    | some d =>
      obtain ⟨hi, ed⟩ := List.getElem?_eq_some_iff.mp q
      obtain ⟨g1, g2⟩ := w1 i d q
      rw [List.drop_eq_getElem_cons hi, ed] at h
      refine .inr ⟨g1, fun σ H => ∃ G la env st, Fr X.K G0 la0 H0 G la st H env σ ∧ Same G1 G ∧ Pre la1 la ∧ (m - 1) + (i + 1) = ds.length ∧ WantS X.K W G0 la0 H0 G la D (fIter p mb (ds.drop (i + 1)) env st), fun σ' H' q => ⟨m - 1, by omega, q⟩, fun x H' y => ?_⟩
      obtain ⟨G3, p3, r3⟩ := g2 x H' y
      have f3 := f.step p3
      unfold fIter at h
      cases ep : p d env with
      | none => rw [ep] at h; exact False.elim h
      | some env1 =>
        rw [ep] at h
        dsimp only at h
        refine tk _ _ _ _ _ _ _ _ _ _ _ _ _ f3 r3 ep fun σ4 f4 _ => ⟨G3, la, env1, st, f4, ?_⟩
        have h := h.mono p3.same p3.pre
        cases eb : mb env1 st with
        | nx e2 s2 =>
          rw [eb] at h
          exact fun σ H G' la' f' s' pr' => ⟨G', la', e2, s2, f', (s.trans p3.same).trans s', pr.trans pr', by omega, h.mono s' pr'⟩
        | ct e2 s2 =>
          rw [eb] at h
          exact fun σ H G' la' f' s' pr' => ⟨G', la', e2, s2, f', (s.trans p3.same).trans s', pr.trans pr', by omega, h.mono s' pr'⟩
        | bk e2 s2 => rw [eb] at h; exact h
        | rt x s2 => rw [eb] at h; exact h
        | ex c fs e2 s2 => rw [eb] at h; exact h
        | bad => rw [eb] at h; exact h
end
end Y

set_option maxHeartbeats 4000000
/-! Y7: stores into containers. -/
namespace Y
open PySem L2 PySem.Spec PyProof.Rows

def putQ : D → D → D → Option D
  | .lst xs, .int k, v => (ixN xs.length k).map fun j => .lst (xs.set j v)
  | _, _, _ => none
section
variable {K : PySem.W.Frag} {G0 H0 G H G' H' : Hp} {la0 la la' : List Addr} {st st' : Store} {env : Env} {σ : L2.St} {W : WX} {D : Ends}
theorem Sub.other (s : Sub G H) {a : Addr} {o : HO} (g : G a = none) : Sub G (upd H a o) := fun b u e => by
  have hb : b ≠ a := fun q => by rw [q, g] at e; cases e
  rw [upd_ne hb]
  exact s b u e
theorem Con.other {a b : Addr} {o : HO} {d : Y.D} (c : Con K G la H b d) (h : b ≠ a) : Con K G la (upd H a o) b d := c.mono (Same.refl _) (Pre.refl _) (upd_ne h)
/-- a cell is written -/
theorem Rel.putC (r : Rel K G la st H) {n : Nat} {a : Addr} {d d' : Y.D} {o : HO} (h1 : la[n]? = some a) (h2 : st[n]? = some (some d)) (c : Con K G la (upd H a o) a d') : Rel K G la (st.set n (some d')) (upd H a o) where
  sub := r.sub.other (r.cell n a d h1 h2).2
  len := by rw [List.length_set]; exact r.len
  nd := r.nd
  cell := fun k b e q1 q2 => by
    rcases getset q2 with ⟨rfl, hl, q⟩ | ⟨hk, q2⟩
    · cases q
      rw [h1] at q1
      cases q1
      exact ⟨c, (r.cell k a d h1 h2).2⟩
    · obtain ⟨c2, g2⟩ := r.cell k b e q1 q2
      exact ⟨c2.other fun q => hk (nodup_get r.nd (q ▸ q1) h1), g2⟩
  there := fun b hb => by
    by_cases q : b = a
    · exact ⟨o, by rw [q, upd_same]⟩
    · obtain ⟨u, hu⟩ := r.there b hb
      exact ⟨u, by rw [upd_ne q]; exact hu⟩
theorem Post.putC (p : Post K G0 la0 H0 G la st H) {n : Nat} {a : Addr} {d d' : Y.D} {o : HO} (h1 : la[n]? = some a) (h2 : st[n]? = some (some d)) (c : Con K G la (upd H a o) a d') : Post K G0 la0 H0 G la (st.set n (some d')) (upd H a o) where
  same := p.same
  pre := p.pre
  rel := p.rel.putC h1 h2 c
  keep := fun b u e hb => by
    by_cases q : b = a
    · subst q
      have := p.newc b (List.mem_of_getElem? h1) hb
      rw [e] at this
      cases this
    · rw [upd_ne q]
      exact p.keep b u e hb
  newc := p.newc
  newg := p.newg
theorem Fr.putC (f : Fr K G0 la0 H0 G la st H env σ) {n : Nat} {a : Addr} {d d' : Y.D} {o : HO} (h1 : la[n]? = some a) (h2 : st[n]? = some (some d)) (c : Con K G la (upd H a o) a d') : Fr K G0 la0 H0 G la (st.set n (some d')) (upd H a o) env σ where
  bd := {
    rel := f.bd.rel.putC h1 h2 c
    val := f.bd.val
    own := fun i e h => by
      obtain ⟨b, q1, q2, q3, q4⟩ := f.bd.own i e h
      exact ⟨b, q1, q2.other fun q => q4 (q ▸ List.mem_of_getElem? h1), q3, q4⟩
    apart := f.bd.apart
    len := f.bd.len }
  post := f.post.putC h1 h2 c
  fresh := f.fresh
  len := f.len
/-- what nobody else holds is written -/
theorem Rel.putO (r : Rel K G la st H) {a : Addr} {o : HO} (g : G a = none) (n : a ∉ la) : Rel K G la st (upd H a o) where
  sub := r.sub.other g
  len := r.len
  nd := r.nd
  cell := fun k b e q1 q2 => by
    obtain ⟨c2, g2⟩ := r.cell k b e q1 q2
    exact ⟨c2.other fun q => n (q ▸ List.mem_of_getElem? q1), g2⟩
  there := fun b hb => by
    obtain ⟨u, hu⟩ := r.there b hb
    have q : b ≠ a := fun e => n (e ▸ hb)
    exact ⟨u, by rw [upd_ne q]; exact hu⟩
theorem Post.putO (p : Post K G0 la0 H0 G la st H) {a : Addr} {o : HO} (g : G a = none) (n : a ∉ la) (z : H0 a = none) : Post K G0 la0 H0 G la st (upd H a o) where
  same := p.same
  pre := p.pre
  rel := p.rel.putO g n
  keep := fun b u e hb => by
    have q : b ≠ a := fun q => by rw [q, z] at e; cases e
    rw [upd_ne q]
    exact p.keep b u e hb
  newc := p.newc
  newg := p.newg
theorem Fr.putO (f : Fr K G0 la0 H0 G la st H env σ) {j : Nat} {a : Addr} {d d' : Y.D} {o : HO} (h1 : env[j]? = some (some (.o d))) (h2 : σ[j]? = some (some (.ref a))) (c : Con K G la (upd H a o) a d') : Fr K G0 la0 H0 G la st (upd H a o) (env.set j (some (.o d'))) σ := by
  obtain ⟨b, q1, q2, g, n⟩ := f.bd.own j d h1
  rw [h2] at q1
  cases q1
  have hj : j < env.length := (List.getElem?_eq_some_iff.mp h1).1
  exact {
    bd := {
      rel := f.bd.rel.putO g n
      val := fun i e h => by
        rcases getset h with ⟨rfl, hl, q⟩ | ⟨hk, h⟩
        · cases q
        · exact f.bd.val i e h
      own := fun i e h => by
        rcases getset h with ⟨rfl, hl, q⟩ | ⟨hk, h⟩
        · cases q
          exact ⟨a, h2, c, g, n⟩
        · obtain ⟨b, w1, w2, w3, w4⟩ := f.bd.own i e h
          refine ⟨b, w1, w2.other fun q => ?_, w3, w4⟩
          exact hk (f.bd.apart i j e d b h h1 w1 (q ▸ h2))
      apart := fun i k e e' b w1 w2 w3 w4 => by
        have back : ∀ {i : Nat} {e : Y.D}, (env.set j (some (.o d')))[i]? = some (some (.o e)) → ∃ e, env[i]? = some (some (.o e)) := fun {i e} w => by
          rcases getset w with ⟨rfl, hl, q⟩ | ⟨hk, w⟩
          · exact ⟨d, h1⟩
          · exact ⟨_, w⟩
        obtain ⟨e1, w1⟩ := back w1
        obtain ⟨e2, w2⟩ := back w2
        exact f.bd.apart i k e1 e2 b w1 w2 w3 w4
      len := by rw [List.length_set]; exact f.len }
    post := f.post.putO g n (f.fresh j d a h1 h2)
    fresh := fun i e b w1 w2 => by
      rcases getset w1 with ⟨rfl, hl, q⟩ | ⟨hk, w1⟩
      · exact f.fresh i d b h1 w2
      · exact f.fresh i e b w1 w2
    len := by rw [List.length_set]; exact f.len }
/-- the store into what o is -/
def stF (f : Y.D → Option Y.D) (o : XV) (env : Env) (st : Store) : Fl := match o with
  | .v (.cell n) => flLift ((st[n]?).join.bind f) fun c' => .nx env (st.set n (some c'))
  | .s j c => flLift (f c) fun c' => .nx (env.set j (some (.o c'))) st
  | _ => .bad
/-- the write itself: at a stands c, behind it c' -/
theorem stF_ok {f : Y.D → Option Y.D} {o : XV} {v : V} {Hs : Hp} {R : Prop} (fr : Fr K G0 la0 H0 G la st H env σ) (ho : OutX K G la Hs H env σ v o) (w : WantS K W G0 la0 H0 G la D (stF f o env st))
    (c : ∀ a d d', v = .ref a → Con K G la H a d → f d = some d' → (∀ u, Con K G la (upd H a u) a d' → D.nx σ (upd H a u)) → R) : R := by
  cases o with
  | n d => exact False.elim w
  | s j d =>
    obtain ⟨d', e, w⟩ := wantS_lift w
    obtain ⟨a, h1, hc, _⟩ := fr.bd.own j d ho.1
    have h2 := ho.2
    rw [h1] at h2
    cases h2
    exact c a d d' rfl hc e fun u hu => w σ _ G la (fr.putO ho.1 h1 hu) (Same.refl _) (Pre.refl _)
  | v d =>
    cases d with
    | cell n =>
      obtain ⟨d', e, w⟩ := wantS_lift w
      obtain ⟨d, e1, e2⟩ := Option.bind_eq_some_iff.mp e
      have e3 : st[n]? = some (some d) := Option.join_eq_some_iff.mp e1
      cases ho with
      | cell h =>
        exact c _ d d' rfl (fr.bd.rel.cell n _ d h e3).1 e2 fun u hu => w σ _ G la (fr.putC h e3 hu) (Same.refl _) (Pre.refl _)
    | _ => exact False.elim w
theorem put_to {a : Addr} {d d' di dv : Y.D} {i v : V} {Q : Hp → Prop} (c : Con K G la H a d) (hi : Rd1 K G la H i di) (hv : Rep K G la v dv) (e : putQ d di dv = some d') (k : ∀ u, Con K G la (upd H a u) a d' → Q (upd H a u)) : rSetL (.ref a) i v H Q := by
  unfold putQ at e
  split at e
  · obtain ⟨j, e1, rfl⟩ := Option.map_eq_some_iff.mp e
    cases hi
    cases c with
    | lst h r => exact ⟨a, _, _, j, rfl, rfl, h, by rw [r.length]; exact e1, k _ (.lst upd_same (RepL.set hv j r))⟩
  · cases e
end
/-- o[i] = e -/
def sStore (m mo mi : M XV) : MS := fun env st => (m env st).fl env fun x st1 => (mo env st1).fl env fun o st2 => (mi env st2).fl env fun i st3 => flLift (valX x) fun v => flLift (i.con st3) fun k => stF (fun c => putQ c k v) o env st3
def noN : XV → Bool
  | .n _ => false
  | _ => true
def vOf : XV → Option D
  | .v d => some d
  | _ => none
theorem OutX.stepN {K : PySem.W.Frag} {G G1 Hs Ht H H1 : Hp} {la la1 : List Addr} {st1 : Store} {env : Env} {σ : L2.St} {v : V} {x : XV} (o : OutX K G la Hs H env σ v x) (h : noN x = true) (p : Post K G la H G1 la1 st1 H1) : OutX K G1 la1 Ht H1 env σ v x := by
  cases x with
  | v d => exact Rep.mono p.same p.pre o
  | s i d => exact o
  | n d => cases h
def getI : D → D → Option XV
  | .lst xs, .int i => if 0 ≤ i then (atI xs i).map .v else none
  | _, _ => none
/-- o[i] op= e -/
def sAugS (f : D → D → Option XV) (m mo mi : M XV) : MS := fun env st => (mo env st).fl env fun o st1 => (mi env st1).fl env fun i st2 =>
  flLift (if (noN o && noN i) = true then ((o.con st2).bind fun c => (i.con st2).bind fun k => getI c k).bind vOf else none) fun x =>
  (m env st2).fl env fun y st3 => flLift ((((XV.v x).con st3).bind fun dx => (y.con st3).bind fun dy => f dx dy).bind vOf) fun z => flLift (i.con st3) fun k => stF (fun c => putQ c k z) o env st3
section
variable {X : Cx} {W : WX} {G0 H0 : Hp} {la0 : List Addr} {o i e : PySem.Expr} {m mo mi : M XV} {pos pos' : Pos}
theorem OutX.froze {K : PySem.W.Frag} {G H Hs : Hp} {la : List Addr} {st : Store} {env : Env} {σ : L2.St} {v : V} {x : XV} {d : D} (f : Fr K G0 la0 H0 G la st H env σ) (o : OutX K G la Hs H env σ v x) (fr : ∀ a, a ∉ la → Hs a = none → H0 a = none)
    (kp : ∀ (j : Nat) (e : Y.D) (a : Addr), env[j]? = some (some (Sl.o e)) → σ[j]? = some (some (V.ref a)) → ∃ u, Hs a = some u) (e : valX x = some d) : ∃ G', Fr K G0 la0 H0 G' la st H env σ ∧ Rep K G' la v d ∧ Same G G' := by
  cases x with
  | s i d => cases e
  | v d => cases e; exact ⟨G, f, o, Same.refl _⟩
  | n d =>
    cases e
    obtain ⟨G', d', e1, f', r, s⟩ := OutX.frz f o fr kp (s := .v d) rfl
    cases e1
    exact ⟨G', f', r, s⟩
theorem fr_low {K : PySem.W.Frag} {G G1 H H1 : Hp} {la la1 : List Addr} {st st1 : Store} {env : Env} {σ : L2.St} (f : Fr K G0 la0 H0 G la st H env σ) (p : Post K G la H G1 la1 st1 H1) : (∀ a, a ∉ la1 → H a = none → H0 a = none) ∧ (∀ (j : Nat) (e : Y.D) (a : Addr), env[j]? = some (some (Sl.o e)) → σ[j]? = some (some (V.ref a)) → ∃ u, H a = some u) := by
  refine ⟨fun a n z => fresh_back f.post p.pre n z, fun j e a h1 h2 => ?_⟩
  obtain ⟨b, h3, c, _⟩ := f.bd.own j e h1
  rw [h2] at h3
  cases h3
  exact c.there
theorem rs_store (he : PE X e (tE X.K W m)) (ho : PE X o (tE X.K W mo)) (hi : PE X i (tE X.K W mi)) (hs : swapsWithSole [.Subscript o i pos'] e pos.line X.env = pure false := by rfl) (hw : swappedStores [.Subscript o i pos'] e X.env = pure none := by rfl)
    (h1 : (assignEach [.Subscript o i pos'] X.env).map (·.2) = [assign (.Subscript o i pos') X.env] := by rfl) (ha : ∀ v, assign (.Subscript o i pos') X.env v = (do
      let ov ← holding [v] (eval o X.env)
      let iv ← holding [v, ov] (eval i X.env)
      standAt pos'
      holding [v, ov, iv] (setItem ov iv v)
      release [v, ov, iv] []) := by intro _; rfl) : PS X (.Assign [.Subscript o i pos'] e pos) (tS X.K W G0 la0 H0 (sStore m mo mi)) := by
  refine psImp (ps_asg he (pg_sub ho hi set_list ha) hs hw h1) fun D σ H h => ?_
  obtain ⟨G, la, env, st, f, h⟩ := h
  unfold sStore at h
  refine tE_stmtF f h fun G1 la1 st1 x v H1 p1 f1 o1 w => ?_
  cases ev : valX x with
  | none =>
    -- the value is nobody's own: refused behind o and i
    refine tE_stmtF f1 w fun G2 la2 st2 y b H2 p2 f2 o2 w => ?_
    refine tE_stmtF f2 w fun G3 la3 st3 z c H3 p3 f3 o3 w => ?_
    rw [ev] at w
    exact False.elim w
  | some dv =>
    obtain ⟨l1, l2⟩ := fr_low f p1
    obtain ⟨G1', f1', r1, s1⟩ := OutX.froze f1 o1 l1 l2 ev
    refine tE_stmtF f1' (w.mono s1 (Pre.refl _)) fun G2 la2 st2 y b H2 p2 f2 o2 w => ?_
    refine tE_stmtF f2 w fun G3 la3 st3 z c H3 p3 f3 o3 w => ?_
    rw [ev] at w
    obtain ⟨_, e0, w⟩ := wantS_lift w
    cases e0
    obtain ⟨dk, ek, w⟩ := wantS_lift w
    have r3 := (r1.mono p2.same p2.pre).mono p3.same p3.pre
    have hk := f3.bd.read o3 ek
    cases y with
    | n d => exact False.elim w
    | v d =>
      have o2 : Rep X.K G2 la2 b d := o2
      refine stF_ok (Hs := H3) f3 (o := .v d) (v := b) (o2.mono p3.same p3.pre) w fun a d d' ea c e k => ?_
      subst ea
      exact put_to c hk r3 e k
    | s j d =>
      refine stF_ok (Hs := H3) f3 (o := .s j d) (v := b) o2 w fun a d d' ea c e k => ?_
      subst ea
      exact put_to c hk r3 e k
theorem y_get : PGet X (R2D X.K (f2 getI)) := by
  intro pins s σ H o i ov iv Q I ro ri q
  obtain ⟨G, la, st, ds, b, rd, w⟩ := q
  cases rd with
  | cons h1 t =>
    cases t with
    | cons h2 t =>
      cases t with
      | nil =>
        rename_i d e
        have e1 : f2 getI [d, e] = getI d e := rfl
        rw [e1] at w
        cases e2 : getI d e with
        | none => rw [e2] at w; exact False.elim w
        | some z =>
          rw [e2] at w
          unfold getI at e2
          split at e2
          · rename_i xs n
            split at e2
            · rename_i h0
              obtain ⟨k, e3, rfl⟩ := Option.map_eq_some_iff.mp e2
              cases h2
              cases h1 with
              | lst h1 r =>
                obtain ⟨v', e4, e5⟩ := r.at e3
                have q : Q v' H := Aft.val w b e5
                cases ro
                obtain ⟨t, rfl⟩ := ri
                obtain ⟨its, rr, pl, hz⟩ := I.list (SqL.of h1)
                obtain ⟨j, g1, g2, g3, g4, g5⟩ := atI_get e4
                obtain ⟨u, ew, rw'⟩ := rr.get g2
                have hl := rr.length
                have hn := line63
                have hj : n.toNat = j := by
                  rw [seqIndex_of h0 g5] at g1
                  exact Option.some.inj g1
                exact wpAny_getItem_list pl.isList h0 (by omega) (by rw [hj]; simpa using ew) ⟨v', H, I, rw', q⟩
            · cases e2
          · cases e2
/-- in place: ints, texts -/
def iadD : D → D → Option XV
  | .int i, .int j => some (.v (.int (i + j)))
  | _, _ => none
def isbD : D → D → Option XV
  | .int i, .int j => some (.v (.int (i - j)))
  | _, _ => none
theorem y_iadd : PIp X .Add (R2D X.K (f2 iadD)) := op2 (f := inplaceOp .Add) iop_add fun G la st x y d e H Q z b h1 h2 e1 w => by
  unfold iadD at e1
  split at e1
  · cases h1; cases h2; cases e1
    exact ⟨_, _, rfl, rfl, w.val b (.int _)⟩
  · cases e1
theorem y_isub : PIp X .Sub (R2D X.K (f2 isbD)) := op2 (f := inplaceOp .Sub) iop_sub fun G la st x y d e H Q z b h1 h2 e1 w => by
  unfold isbD at e1
  split at e1
  · cases h1; cases h2; cases e1
    exact ⟨_, _, rfl, rfl, w.val b (.int _)⟩
  · cases e1
theorem WantZ {K : PySem.W.Frag} {f : List Y.D → Option XV} {G H : Hp} {la : List Addr} {st : Store} {vs : List V} {ds : List Y.D} {z : XV} {Q : VK} (b : Rel K G la st H) (r : RdL K G la H vs ds) (e : f ds = some z) (k : Aft K G la st H Q z) : rD K f vs H Q :=
  ⟨G, la, st, ds, b, r, by rw [e]; exact k⟩
/-- what an in-place step gives is a value -/
theorem rs_augS {op : Operator} {f : Y.D → Y.D → Option XV} (hp : PIp X op (R2D X.K (f2 f))) (he : PE X e (tE X.K W m)) (ho : PE X o (tE X.K W mo)) (hi : PE X i (tE X.K W mi))
    (ha : ∀ ov iv new, augStore i ov iv new = (do holding [new, ov, iv] (setItem ov iv new); release [new, ov, iv] []; pure .next) := by intros; rfl) : PS X (.AugAssign (.Subscript o i pos') op e pos) (tS X.K W G0 la0 H0 (sAugS f m mo mi)) := by
  refine psImp (ps_augS ho hi y_get he hp set_list ha) fun D σ H h => ?_
  obtain ⟨G, la, env, st, fr, h⟩ := h
  unfold sAugS at h
  refine tE_stmtF fr h fun G1 la1 st1 y b H1 p1 f1 o1 w => ?_
  refine tE_stmtF f1 w fun G2 la2 st2 z c H2 p2 fr2 o2 w => ?_
  obtain ⟨dx, e1, w⟩ := wantS_lift w
  split at e1
  · rename_i hn
    rw [Bool.and_eq_true] at hn
    obtain ⟨zx, e2, e3⟩ := Option.bind_eq_some_iff.mp e1
    obtain ⟨dc, e4, e5⟩ := Option.bind_eq_some_iff.mp e2
    obtain ⟨dk, e6, e7⟩ := Option.bind_eq_some_iff.mp e5
    have ez : zx = .v dx := by
      cases zx <;> first | (cases e3; rfl) | (cases e3)
    subst ez
    have ob := o1.stepN (Ht := H2) hn.1 p2
    refine WantZ (f := f2 getI) (ds := [dc, dk]) (z := .v dx) fr2.bd.rel (.cons (fr2.bd.read ob e4) (.cons (fr2.bd.read o2 e6) .nil)) e7 fun vx H3 G3 p3 r3 => ?_
    have r3 : Rep X.K G3 la2 vx dx := r3
    have fr3 := fr2.step p3
    refine tE_stmtF fr3 (w.mono p3.same p3.pre) fun G4 la4 st4 y d H4 p4 fr4 o4 w => ?_
    obtain ⟨dz, g1, w⟩ := wantS_lift w
    obtain ⟨zz, g2, g3⟩ := Option.bind_eq_some_iff.mp g1
    obtain ⟨dxx, g4, g5⟩ := Option.bind_eq_some_iff.mp g2
    obtain ⟨dy, g6, g7⟩ := Option.bind_eq_some_iff.mp g5
    have ez : zz = .v dz := by
      cases zz <;> first | (cases g3; rfl) | (cases g3)
    subst ez
    obtain ⟨dk2, g8, w⟩ := wantS_lift w
    refine WantZ (f := f2 f) (ds := [dxx, dy]) (z := .v dz) fr4.bd.rel (.cons (fr4.bd.read (H0 := H4) (x := .v dx) (r3.mono p4.same p4.pre) g4) (.cons (fr4.bd.read o4 g6) .nil)) g7 fun vz H5 G5 p5 r5 => ?_
    have r5 : Rep X.K G5 la4 vz dz := r5
    have fr5 := fr4.step p5
    have oi := ((o2.stepN (Ht := H3) hn.2 p3).stepN (Ht := H4) hn.2 p4).stepN (Ht := H5) hn.2 p5
    have oo := ((ob.stepN (Ht := H3) hn.1 p3).stepN (Ht := H4) hn.1 p4).stepN (Ht := H5) hn.1 p5
    refine stF_ok fr5 oo (w.mono p5.same p5.pre) fun a d d' ea cc ee k => ?_
    subst ea
    exact put_to cc (fr5.bd.read oi g8) r5 ee k
  · cases e1
end
end Y

set_option maxHeartbeats 4000000
/-! Y8: comprehensions. -/
namespace Y
open PySem L2

def wipeE (env : Env) : List Nat → Env
  | [] => env
  | v :: vs => (wipeE env vs).set v none
theorem wipeE_some {env : Env} {i : Nat} {x : Sl} : ∀ {vs : List Nat}, (wipeE env vs)[i]? = some (some x) → env[i]? = some (some x) ∧ i ∉ vs
  | [], h => ⟨h, by simp⟩
  | v :: vs, h => by
    rcases getset (show ((wipeE env vs).set v none)[i]? = some (some x) from h) with ⟨rfl, hl, q⟩ | ⟨n, h⟩
    · cases q
    · obtain ⟨h1, h2⟩ := wipeE_some h
      exact ⟨h1, by simp only [List.mem_cons, not_or]; exact ⟨n, h2⟩⟩
theorem wipeE_length (env : Env) : ∀ vs : List Nat, (wipeE env vs).length = env.length
  | [] => rfl
  | v :: vs => by unfold wipeE; rw [List.length_set, wipeE_length env vs]
section
variable {K : PySem.W.Frag} {G H : Hp} {la : List Addr} {st : Store} {env : Env} {σ : L2.St}
/-- in a block: the own names forgotten; no bound to what was ahead of it -/
theorem Bd.wipe (b : Bd K G la st H env σ) (vs : List Nat) : Fr K G la (fun _ => none) G la st H (wipeE env vs) (wipe σ vs) where
  bd := {
    rel := b.rel
    val := fun i d e => by
      obtain ⟨h1, h2⟩ := wipeE_some e
      obtain ⟨v, h3, h4⟩ := b.val i d h1
      exact ⟨v, (wipe_out h2).trans h3, h4⟩
    own := fun i d e => by
      obtain ⟨h1, h2⟩ := wipeE_some e
      obtain ⟨a, h3, h4⟩ := b.own i d h1
      exact ⟨a, (wipe_out h2).trans h3, h4⟩
    apart := fun i j d e a h1 h2 h3 h4 => by
      obtain ⟨g1, g2⟩ := wipeE_some h1
      obtain ⟨g3, g4⟩ := wipeE_some h2
      rw [wipe_out g2] at h3
      rw [wipe_out g4] at h4
      exact b.apart i j d e a g1 g3 h3 h4
    len := by rw [wipeE_length, wipe_length, b.len] }
  post := ⟨Same.refl _, Pre.refl _, b.rel, (fun _ _ h _ => nomatch h), fun _ h h' => absurd h h', fun _ _ h => .inl h⟩
  fresh := fun _ _ _ _ _ => rfl
  len := by rw [wipeE_length, wipe_length, b.len]
end
/-- the turns of a comprehension -/
def cIter (p : Pat) (t : M Bool) (e : M XV) (env : Env) : List D → List D → Store → Option (List D × Store)
  | [], acc, st => some (acc, st)
  | d :: ds, acc, st => match p d env with
    | none => none
    | some env1 => match t env1 st with
      | .ok b st1 => if b = true then (match e env1 st1 with
        | .ok x st2 => (valX x).bind fun y => if acc.length < sizeLine then cIter p t e env ds (acc ++ [y]) st2 else none
        | _ => none) else cIter p t e env ds acc st1
      | _ => none
def iLc (vs : List Nat) (src : M (List D)) (p : Pat) (t : M Bool) (e : M XV) : M XV := fun env st => (src env st).bind fun ds st1 => match cIter p t e (wipeE env vs) ds [] st1 with
  | some (acc, st2) => .ok (.n (.lst acc)) st2
  | none => .bad
def W0 : WX := fun _ _ _ _ => False
def iYes : M Bool := fun _ st => .ok true st
section
variable {X : Cx} {c : PySem.Expr} {m : M Bool}
theorem ptsImp {es : List PySem.Expr} {t t' : TT} (h : PTs X es t) (i : ∀ σ H Q, t' σ H Q → t σ H Q) : PTs X es t' := ⟨fun pins s σ H Q I hq => h.run pins s σ H Q I (i σ H Q hq)⟩
theorem rts_nil : PTs X [] (tT X.K W0 iYes) := ptsImp pts_nil fun σ H Q h => by
  obtain ⟨G, la, env, st, b, h⟩ := h
  exact h true H G la (Post.refl b.rel) rfl
theorem rts_one (h : PT X c (tT X.K W0 m)) : PTs X [c] (tT X.K W0 m) := pts_one h
end
/-- lengths agree: kept beside Bd by the reading itself -/
theorem Post.beside {K : PySem.W.Frag} {G1 H1 G H : Hp} {la1 la : List Addr} {st : Store} (p : Post K G1 la1 H1 G la st H) {D : Addr} {o : HO} (hD : H1 D = none) (g : G D = none) (n : D ∉ la) : Post K G1 la1 H1 G la st (upd H D o) := p.putO g n hD
section
variable {X : Cx} {W : WX} {elt tg iter : PySem.Expr} {ifs : List PySem.Expr} {scope : PySem.Scope} {own : List (Str × Nat)} {pos : Pos} {src : M (List D)} {g : TG} {p : Pat} {sl : List Nat} {t : M Bool} {e : M XV}
theorem lc_to {K : PySem.W.Frag} {vs : List Nat} (tk : TgOk K g p sl) (hsl : ∀ i ∈ sl, i ∈ vs) {σ : L2.St} {H : Hp} {Q : VK}
    (h : tE K W (iLc vs src p t e) σ H Q) : tLc (tI K W src) g (tT K W0 t) (tE K W0 e) vs σ H Q := by
  obtain ⟨G, la, env, st, b, h⟩ := h
  refine ⟨G, la, env, st, b, ?_⟩
  unfold iLc at h
  cases es : src env st with
  | bad => rw [es] at h; exact h
  | ex c fs st1 => rw [es] at h; exact h
  | ok ds st1 =>
    rw [es] at h
    intro J H1 G1 la1 p1 hw D hD
    have hw : Walk K G1 la1 J ds := hw
    have b1 := b.step p1
    have h : Want K W (OE K env σ) G la H σ Q (match cIter p t e (wipeE env vs) ds [] st1 with
      | some (acc, st2) => .ok (.n (.lst acc)) st2
      | none => .bad) := h
    cases ec : cIter p t e (wipeE env vs) ds [] st1 with
    | none => rw [ec] at h; exact False.elim h
    | some r =>
      obtain ⟨acc', stf⟩ := r
      rw [ec] at h
      refine ⟨fun i m H2 => ∃ G2 la2 st2 vs2 acc, Post K G1 la1 H1 G2 la2 st2 H2 ∧ H2 D = some (.lst vs2) ∧ RepL K G2 la2 vs2 acc ∧ G2 D = none ∧ D ∉ la2 ∧ m + i = ds.length ∧ cIter p t e (wipeE env vs) (ds.drop i) acc st2 = some (acc', stf),
        ⟨ds.length, G1, la1, st1, [], [], Post.new b1.rel hD, upd_same, .nil, b1.rel.sub.none_of hD, b1.rel.free hD, rfl, ec⟩, ?_⟩
      rintro i m H2 ⟨G2, la2, st2, vs2, acc, p2, hD2, r2, g2, n2, hm, hc⟩
      have b2 := b1.step p2
      obtain ⟨w1, w2⟩ := hw G2 la2 st2 H2 p2.same p2.pre p2.rel
      cases q : ds[i]? with
      | none =>
        have hle : ds.length ≤ i := List.getElem?_eq_none_iff.mp q
        have ei : i = ds.length := by omega
        rw [List.drop_eq_nil_of_le hle] at hc
        cases hc
        refine .inl ⟨ei ▸ w2, h (.ref D) H2 G2 la2 (p1.trans p2) ⟨D, rfl, .lst hD2 r2, g2, n2, ?_⟩⟩
        exact fresh_back p1 p2.pre n2 hD
      | some d =>
        obtain ⟨hi, ed⟩ := List.getElem?_eq_some_iff.mp q
        obtain ⟨go, yl⟩ := w1 i d q
        rw [List.drop_eq_getElem_cons hi, ed] at hc
        unfold cIter at hc
        refine .inr ⟨go, fun H2 => ∃ G2 la2 st2 vs2 acc, Post K G1 la1 H1 G2 la2 st2 H2 ∧ H2 D = some (.lst vs2) ∧ RepL K G2 la2 vs2 acc ∧ G2 D = none ∧ D ∉ la2 ∧ (m - 1) + (i + 1) = ds.length ∧ cIter p t e (wipeE env vs) (ds.drop (i + 1)) acc st2 = some (acc', stf),
          fun H' q => ⟨m - 1, by omega, q⟩, fun x H3 y => ?_⟩
        obtain ⟨G3, p3, r3⟩ := yl x H3 y
        have p13 := p2.trans p3
        have b3 := b1.step p13
        cases ep : p d (wipeE env vs) with
        | none => rw [ep] at hc; cases hc
        | some env1 =>
          rw [ep] at hc
          dsimp only at hc
          refine tk _ _ _ _ _ _ _ _ _ _ _ _ _ (b3.wipe vs) r3 ep fun σ4 f4 on => ⟨(on vs hsl).trans (wipe_wipe fun i hi => hi), ?_⟩
          have keepD : ∀ {G' : Hp} {la' : List Addr} {st' : Store} {H' : Hp} {G0 : Hp} {la0 : List Addr} {H0 : Hp} {vs2 : List V} {acc : List Y.D}, H0 D = some (.lst vs2) → RepL K G0 la0 vs2 acc → G0 D = none → D ∉ la0 → Post K G0 la0 H0 G' la' st' H' → H' D = some (.lst vs2) ∧ RepL K G' la' vs2 acc ∧ G' D = none ∧ D ∉ la' := fun a1 a2 a3 a4 pp => by
            obtain ⟨c1, c2, c3⟩ := pp.con (.lst a1 a2) a3 a4
            exact ⟨pp.keep _ _ a1 a4, a2.mono pp.same pp.pre, c2, c3⟩
          obtain ⟨d3, rr3, g3, n3⟩ := keepD hD2 r2 g2 n2 p3
          refine ⟨G3, la2, env1, st2, f4.bd, ?_⟩
          cases et : t env1 st2 with
          | bad => rw [et] at hc; cases hc
          | ex _ _ _ => rw [et] at hc; cases hc
          | ok bb st4 =>
            rw [et] at hc
            dsimp only at hc
            intro b' H4 G4 la4 p4 ob
            have ob : bb = b' := ob
            subst ob
            obtain ⟨d4, rr4, g4, n4⟩ := keepD d3 rr3 g3 n3 p4
            have p14 := p13.trans p4
            by_cases hb : bb = true
            · rw [if_pos hb] at hc ⊢
              refine ⟨G4, la4, env1, st4, f4.bd.step p4, ?_⟩
              cases ee : e env1 st4 with
              | bad => rw [ee] at hc; cases hc
              | ex _ _ _ => rw [ee] at hc; cases hc
              | ok z st5 =>
                rw [ee] at hc
                dsimp only at hc
                obtain ⟨yv, e5, hc⟩ := Option.bind_eq_some_iff.mp hc
                split at hc
                · rename_i hlt
                  intro v H5 G5 la5 p5 o5
                  obtain ⟨G6, p6, o6⟩ := OutX.freeze p5 o5
                  obtain ⟨d6, rr6, g6, n6⟩ := keepD d4 rr4 g4 n4 p6
                  have rv : Rep K G6 la5 v yv := by
                    cases z with
                    | v d => cases e5; exact o6
                    | n d => cases e5; exact o6
                    | s j d => cases e5
                  have rn : RepL K G6 la5 (_ ++ [v]) (acc ++ [yv]) := rr6.app (RepL.one rv)
                  exact ⟨_, d6, by rw [rr6.length]; exact hlt, G6, la5, st5, _, _, (p14.trans p6).beside hD g6 n6, upd_same, rn, g6, n6, by omega, hc⟩
                · cases hc
            · rw [if_neg hb] at hc ⊢
              exact ⟨G4, la4, st4, vs2, acc, p14, d4, rr4, g4, n4, by omega, hc⟩
theorem re_lc (hc : X.calm = true) (hN : X.N.Nodup) (hi : PI X tg iter (tI X.K W src)) (ok : BlkOk X.N X.env.scope scope own) (tk : TgOk X.K g p sl) (hsl : ∀ i ∈ sl, i ∈ own.map (·.2))
    (hg : ∀ (s : Shared) (H : Hp) (C : Addr) (cl : List (Str × Addr)) (fp : List Addr), PG (X.blk s H scope (compEnvC scope cl C X.env) fp) tg g) (ht : ∀ (s : Shared) (H : Hp) (C : Addr) (cl : List (Str × Addr)) (fp : List Addr), PTs (X.blk s H scope (compEnvC scope cl C X.env) fp) ifs (tT X.K W0 t))
    (he : ∀ (s : Shared) (H : Hp) (C : Addr) (cl : List (Str × Addr)) (fp : List Addr), PE (X.blk s H scope (compEnvC scope cl C X.env) fp) elt (tE X.K W0 e)) (hs : ∀ x, foldedSetIterable iter X.env x = pure x := by intro _; rfl) :
    PE X (.ListComp elt [⟨tg, iter, ifs, 0⟩] scope pos) (tE X.K W (iLc (own.map (·.2)) src p t e)) :=
  peImp (pe_lc hc hN hi ok hg ht he hs) fun _ _ _ h => lc_to tk hsl h
/-- name = [..] on one line -/
theorem rs_lcG {i : Nat} {y : Str} {py spos : Pos} (hc : X.calm = true) (hN : X.N.Nodup) (hy : X.N[i]? = some y) (hyl : X.env.scope.names.lookup y = some .local)
    (hsw : swapsWith (.ListComp elt [⟨tg, iter, ifs, 0⟩] scope pos) (some (.Name y py)) spos.line X.env = pure true) (hi : PI X tg iter (tI X.K W src)) (ok : BlkOk X.N X.env.scope scope own) (tk : TgOk X.K g p sl) (hsl : ∀ i ∈ sl, i ∈ own.map (·.2))
    (hg : ∀ (s : Shared) (H : Hp) (C : Addr) (cl : List (Str × Addr)) (fp : List Addr), PG (X.blk s H scope (compEnvC scope cl C X.env) fp) tg g) (ht : ∀ (s : Shared) (H : Hp) (C : Addr) (cl : List (Str × Addr)) (fp : List Addr), PTs (X.blk s H scope (compEnvC scope cl C X.env) fp) ifs (tT X.K W0 t))
    (he : ∀ (s : Shared) (H : Hp) (C : Addr) (cl : List (Str × Addr)) (fp : List Addr), PE (X.blk s H scope (compEnvC scope cl C X.env) fp) elt (tE X.K W0 e)) (hs : ∀ x, foldedSetIterable iter X.env x = pure x := by intro _; rfl) :
    PS X (.Assign [.Name y py] (.ListComp elt [⟨tg, iter, ifs, 0⟩] scope pos) spos) (tAsg (tE X.K W (iLc (own.map (·.2)) src p t e)) (gName i)) :=
  psImp (ps_setLc hc hN hy hyl hsw hi ok hg ht he hs) fun D σ H h => lc_to tk hsl h
end
end Y

set_option maxHeartbeats 4000000
/-! Y9: calls of defs, objects. -/
namespace Y
open PySem L2 PySem.Spec PyProof.Rows

/-! ### a def is called -/
def iCall (n : Nat) (f : List D → Store → Res XV) (ms : M (List XV)) : M XV := fun env st => (ms env st).bind fun xs st1 => match getD xs with
  | some ds => if ds.length = n then f ds st1 else .bad
  | none => .bad
/-- what a call may let out: nothing -/
abbrev EN : XK := fun _ _ _ => False
theorem passN {X : Cx} {E : Value → Shared → Prop} : Passes (L2.CX X.prog X.w) (X.wish E) EN := fun _ _ _ _ _ _ _ ⟨_, _, _, _, _, _, _, _, _, _, _, _, h⟩ => h.elim
section
variable {X : Cx} {W : WX}
theorem call_to {K : PySem.W.Frag} {n : Nat} {f : List D → Store → Res XV} {ms : M (List XV)} {σ : L2.St} {H : Hp} {Q : VK} (h : tE K W (iCall n f ms) σ H Q) : tA K W ms σ H fun vs H1 => spY K n f vs H1 Q (WE W σ) := by
  refine tA_bind (k := fun xs env st1 => match getD xs with
    | some ds => if ds.length = n then f ds st1 else .bad
    | none => .bad) h fun G la env st xs vs H1 b o w => ?_
  cases e : getD xs with
  | none => rw [e] at w; exact False.elim w
  | some ds =>
    rw [e] at w
    dsimp only at w
    by_cases hn : ds.length = n
    · rw [if_pos hn] at w
      refine ⟨G, la, st, ds, hn, b.rel, o.reps e, ?_⟩
      cases ef : f ds st with
      | bad => rw [ef] at w; exact w
      | ok x st' => rw [ef] at w; exact fun v H' G' la' p oz => w v H' G' la' p oz.toX
      | ex c fs st' => rw [ef] at w; exact w
    · rw [if_neg hn] at w
      exact False.elim w
theorem re_call {k j n : Nat} {f : Addr} {fd : FuncData} {ps : List Str} {g : List D → Store → Res XV} {x : Str} {p pos : Pos} {e : PySem.Expr} {es : List PySem.Expr} {ms : M (List XV)} (F : FnOk X.prog X.w X.K X.mg X.base (L2.CX X.prog X.w) j f fd ps (spY X.K n g)) (hr : Room k X.A) (hk : j ≤ k) (tk : Takes X W)
    (hg : Gl X x) (hm : X.mg x = some (.ref f)) (hkp : PySem.W.keepIn X.K (.ref f) = true) (hb : Binds X.K fd ps []) (ha : PA X (e :: es) (tA X.K W ms)) (hdb : (x == ("__debug__" : Str)) = false := by decide)
    (he : starEach (e :: es) X.env = (false, eval e X.env) :: starEach es X.env := by rfl) (hpl : (backTo pos (starEach es X.env)).any (·.1) = false := by rfl) : PE X (.Call (.Name x p) (e :: es) [] pos) (tE X.K W (iCall n g ms)) :=
  peImp (pe_callS F (hr.mono hk) hg hm hkp hb (fun σ => passAt tk σ) ha hdb he hpl) fun _ _ _ h => call_to h

/-! ### fields -/
/-- the fields that are plain -/
abbrev FlT := List (Str × Str)
def FlT.ok (K : PySem.W.Frag) (T : FlT) : Bool := T.all fun q => (He.Fa.cls q.1).ok K && (He.Fa.noat q.1 q.2).ok K
theorem FlT.get {K : PySem.W.Frag} {T : FlT} (h : T.ok K = true) {c f : Str} (m : (c, f) ∈ T) : Cls K (He.ga K c) ∧ NoAttr K (He.ga K c) f := by
  have q := List.all_eq_true.mp h _ m
  obtain ⟨h1, h2⟩ := He.ba q
  exact ⟨He.cls_ok h1, He.noat_ok h2⟩
def fldD (T : FlT) (f : Str) : D → Option XV
  | .obj c fs vs => if (c, f) ∈ T then (valD fs vs f).map .v else none
  | _ => none
theorem lookup_rep {K : PySem.W.Frag} {G : Hp} {la : List Addr} {f : Str} : ∀ {fvs : List (Str × V)} {ds : List D} {d : D}, RepL K G la (fvs.map (·.2)) ds → valD (fvs.map (·.1)) ds f = some d → ∃ v, fvs.lookup f = some v ∧ Rep K G la v d
  | [], _, _, h, e => by cases h; cases e
  | (g, v) :: r, _, d, .cons (d := d1) (ds := ds) h t, e => by
    have e : (if g = f then some d1 else valD (r.map (·.1)) ds f) = some d := e
    by_cases q : g = f
    · rw [if_pos q] at e
      cases e
      refine ⟨v, ?_, h⟩
      subst q
      simp [List.lookup]
    · rw [if_neg q] at e
      obtain ⟨u, h1, h2⟩ := lookup_rep t e
      refine ⟨u, ?_, h2⟩
      have z : (f == g) = false := by simpa using fun q2 => q q2.symm
      simp [List.lookup, z, h1]
theorem re_fld {a : PySem.Expr} {f : Str} {pos : Pos} {m : M XV} {T : FlT} (hT : T.ok X.K = true) (ha : PE X a (tE X.K W m)) (hb : attributeBase a f X.env (eval a X.env) = eval a X.env := by rfl) : PE X (.Attribute a f pos) (tE X.K W (iPrim (f1 (fldD T f)) (evCons m evNil))) := by
  refine peImp (pe_fld ha hb) fun σ H Q h => ?_
  refine tE_mono (tA_one (prim_to h)) fun x H1 q => ?_
  obtain ⟨G, la, st, ds, bb, rd, w⟩ := q
  cases rd with
  | cons h1 t =>
    cases t
    rename_i d
    have e1 : f1 (fldD T f) [d] = fldD T f d := rfl
    rw [e1] at w
    cases e2 : fldD T f d with
    | none => rw [e2] at w; exact False.elim w
    | some z =>
      rw [e2] at w
      unfold fldD at e2
      split at e2
      · split at e2
        · rename_i hm
          obtain ⟨dv, e3, rfl⟩ := Option.map_eq_some_iff.mp e2
          obtain ⟨c1, c2⟩ := FlT.get hT hm
          cases h1 with
          | obj h1 q r =>
            subst q
            obtain ⟨v, g1, g2⟩ := lookup_rep r e3
            exact ⟨_, _, _, _, v, rfl, h1, c1, c2, g1, Aft.val w bb g2⟩
        · cases e2
      · cases e2
/-- self.f = e -/
def putFD (f : Str) (v : D) : List Str → List D → Option (List Str × List D)
  | [], [] => some ([f], [v])
  | g :: fs, d :: ds => if g = f then some (g :: fs, v :: ds) else (putFD f v fs ds).map fun q => (g :: q.1, d :: q.2)
  | _, _ => none
def putFQ (T : FlT) (f : Str) (v : D) : D → Option D
  | .obj c fs vs => if (c, f) ∈ T ∧ fs.length < 1000 then (putFD f v fs vs).map fun q => .obj c q.1 q.2 else none
  | _ => none
theorem putF_rep {K : PySem.W.Frag} {G : Hp} {la : List Addr} {f : Str} {v : V} {d : D} (hv : Rep K G la v d) : ∀ {fvs : List (Str × V)} {ds : List D} {q : List Str × List D}, RepL K G la (fvs.map (·.2)) ds → putFD f d (fvs.map (·.1)) ds = some q →
    (putF f v fvs).map (·.1) = q.1 ∧ RepL K G la ((putF f v fvs).map (·.2)) q.2
  | [], _, q, h, e => by cases h; cases e; exact ⟨rfl, .cons hv .nil⟩
  | (g, u) :: r, _, q, .cons (d := d1) (ds := ds) h t, e => by
    have e : (if g = f then some (g :: r.map (·.1), d :: ds) else (putFD f d (r.map (·.1)) ds).map fun q => (g :: q.1, d1 :: q.2)) = some q := e
    show List.map (·.1) (if g = f then (g, v) :: r else (g, u) :: putF f v r) = q.1 ∧ RepL K G la (List.map (·.2) (if g = f then (g, v) :: r else (g, u) :: putF f v r)) q.2
    by_cases z : g = f
    · rw [if_pos z] at e ⊢
      cases e
      exact ⟨rfl, .cons hv t⟩
    · rw [if_neg z] at e ⊢
      obtain ⟨q2, e2, rfl⟩ := Option.map_eq_some_iff.mp e
      obtain ⟨g1, g2⟩ := putF_rep hv t e2
      exact ⟨by rw [List.map_cons, g1], .cons h g2⟩
/-- o.f = e -/
def sFldY (T : FlT) (f : Str) (m mo : M XV) : MS := fun env st => (m env st).fl env fun x st1 => (mo env st1).fl env fun o st2 => flLift (valX x) fun v => stF (putFQ T f v) o env st2
theorem rs_fld {G0 H0 : Hp} {la0 : List Addr} {o e : PySem.Expr} {m mo : M XV} {f : Str} {T : FlT} {pos pos' : Pos} (hT : T.ok X.K = true) (he : PE X e (tE X.K W m)) (ho : PE X o (tE X.K W mo)) (hs : swapsWith e (some (.Attribute o f pos')) pos.line X.env = pure false := by rfl) :
    PS X (.Assign [.Attribute o f pos'] e pos) (tS X.K W G0 la0 H0 (sFldY T f m mo)) := by
  refine psImp (ps_fld ho he hs) fun D σ H h => ?_
  obtain ⟨G, la, env, st, f, h⟩ := h
  unfold sFldY at h
  refine tE_stmtF f h fun G1 la1 st1 x v H1 p1 f1 o1 w => ?_
  cases ev : valX x with
  | none =>
    refine tE_stmtF f1 w fun G2 la2 st2 y b H2 p2 f2 o2 w => ?_
    rw [ev] at w
    exact False.elim w
  | some dv =>
    obtain ⟨l1, l2⟩ := fr_low f p1
    obtain ⟨G1', f1', r1, s1⟩ := OutX.froze f1 o1 l1 l2 ev
    refine tE_stmtF f1' (w.mono s1 (Pre.refl _)) fun G2 la2 st2 y b H2 p2 f2 o2 w => ?_
    rw [ev] at w
    obtain ⟨_, e0, w⟩ := wantS_lift w
    cases e0
    have r2 := r1.mono p2.same p2.pre
    refine stF_ok f2 o2 w fun a d d' ea c e k => ?_
    subst ea
    unfold putFQ at e
    split at e
    · split at e
      · rename_i hm
        obtain ⟨q, e1, rfl⟩ := Option.map_eq_some_iff.mp e
        obtain ⟨c1, c2⟩ := FlT.get hT hm.1
        cases c with
        | obj h q1 r =>
          subst q1
          obtain ⟨g1, g2⟩ := putF_rep r2 r e1
          refine ⟨_, _, _, _, rfl, h, c1, c2, ?_, k _ (.obj upd_same g1 g2)⟩
          have := hm.2
          rw [List.length_map] at this
          exact this
      · cases e
    · cases e
end
end Y

set_option maxHeartbeats 4000000
/-! Y10: objects are made; what a def's body and an __init__'s body promise. -/
namespace Y
open PySem L2 PySem.Spec PyProof.Rows

mutual
/-- no cell from n on -/
def lowD (n : Nat) : D → Bool
  | .non => true
  | .bl _ => true
  | .int _ => true
  | .str _ => true
  | .lst xs => lowL n xs
  | .tup xs => lowL n xs
  | .scr xs => lowL n xs
  | .dct _ vs => lowL n vs
  | .dtt _ vs => lowL n vs
  | .obj _ _ vs => lowL n vs
  | .cell k => decide (k < n)
  | .xo _ _ _ _ vs => lowL n vs
  | .exv _ _ vs => lowL n vs
def lowL (n : Nat) : List D → Bool
  | [] => true
  | d :: ds => lowD n d && lowL n ds
end
def lowS (n : Nat) (st : Store) : Bool := st.all fun o => match o with
  | some d => lowD n d
  | none => true
section
variable {K : PySem.W.Frag} {G H : Hp} {la m : List Addr}
mutual
theorem Rep.low : ∀ {v : V} {d : D}, Rep K G (la ++ m) v d → lowD la.length d = true → Rep K G la v d
  | _, _, .non, _ => .non
  | _, _, .bl b, _ => .bl b
  | _, _, .int i, _ => .int i
  | _, _, .str x, _ => .str x
  | _, _, .cell e, h => .cell (by
    unfold lowD at h
    rw [List.getElem?_append_left (of_decide_eq_true h)] at e
    exact e)
  | _, _, .lst e r, h => .lst e (RepL.low r (by unfold lowD at h; exact h))
  | _, _, .tup e r, h => .tup e (RepL.low r (by unfold lowD at h; exact h))
  | _, _, .scr e r, h => .scr e (RepL.low r (by unfold lowD at h; exact h))
  | _, _, .dct e q r, h => .dct e q (RepL.low r (by unfold lowD at h; exact h))
  | _, _, .dtt e q r, h => .dtt e q (RepL.low r (by unfold lowD at h; exact h))
  | _, _, .obj e q r, h => .obj e q (RepL.low r (by unfold lowD at h; exact h))
  | _, _, .xo0, _ => .xo0
  | _, _, .xo1 e q r, h => .xo1 e q (RepL.low r (by unfold lowD at h; exact h))
  | _, _, .ev0 e, _ => .ev0 e
  | _, _, .ev1 e e2 q r, h => .ev1 e e2 q (RepL.low r (by unfold lowD at h; exact h))
theorem RepL.low : ∀ {vs : List V} {ds : List D}, RepL K G (la ++ m) vs ds → lowL la.length ds = true → RepL K G la vs ds
  | _, _, .nil, _ => .nil
  | _, _, .cons r t, h => by
    unfold lowL at h
    rw [Bool.and_eq_true] at h
    exact .cons (Rep.low r h.1) (RepL.low t h.2)
end
theorem Con.low {a : Addr} {d : D} (c : Con K G (la ++ m) H a d) (h : lowD la.length d = true) : Con K G la H a d := by
  cases c with
  | lst e r => exact .lst e (r.low (by unfold lowD at h; exact h))
  | dct e q r => exact .dct e q (r.low (by unfold lowD at h; exact h))
  | dtt e q r => exact .dtt e q (r.low (by unfold lowD at h; exact h))
  | obj e q r => exact .obj e q (r.low (by unfold lowD at h; exact h))
end
section
variable {K : PySem.W.Frag} {G G0 H0 H : Hp} {la la0 : List Addr} {st : Store} {a : Addr} {d : D}
/-- the last cell becomes nobody's container again -/
theorem Rel.drop (r : Rel K G (la ++ [a]) (st ++ [some d]) H) (h : lowS la.length st = true) (hd : lowD la.length d = true) : Rel K G la st H ∧ Con K G la H a d ∧ G a = none ∧ a ∉ la := by
  have hl : la.length = st.length := by
    have := r.len
    rw [List.length_append, List.length_append] at this
    simpa using this
  have e1 : (la ++ [a])[la.length]? = some a := by rw [List.getElem?_append_right (Nat.le_refl _), Nat.sub_self]; rfl
  have e2 : (st ++ [some d])[la.length]? = some (some d) := by rw [hl, List.getElem?_append_right (Nat.le_refl _), Nat.sub_self]; rfl
  obtain ⟨c, g⟩ := r.cell _ a d e1 e2
  refine ⟨⟨r.sub, hl, (List.nodup_append.mp r.nd).1, fun n b e q1 q2 => ?_, fun b hb => r.there b (List.mem_append.mpr (.inl hb))⟩, c.low hd, g, fun hm => ?_⟩
  · have hn := (List.getElem?_eq_some_iff.mp q1).1
    obtain ⟨c2, g2⟩ := r.cell n b e (by rw [List.getElem?_append_left hn]; exact q1) (by rw [List.getElem?_append_left (by omega)]; exact q2)
    refine ⟨c2.low ?_, g2⟩
    have := List.all_eq_true.mp h _ (List.mem_of_getElem? q2)
    exact this
  · exact (List.nodup_append.mp r.nd).2.2 a hm a (by simp) rfl
theorem Post.drop (p : Post K G0 la0 H0 G (la ++ [a]) (st ++ [some d]) H) (pr : Pre la0 la) (h : lowS la.length st = true) (hd : lowD la.length d = true) : Post K G0 la0 H0 G la st H where
  same := p.same
  pre := pr
  rel := (p.rel.drop h hd).1
  keep := p.keep
  newc := fun b hb hn => p.newc b (List.mem_append.mpr (.inl hb)) hn
  newg := p.newg
end
/-- the arguments laid into the slots -/
theorem start_noO {ds : List D} {k i : Nat} {d : D} (e : (ds.map (fun d => some (Sl.v d)) ++ List.replicate k none)[i]? = some (some (.o d))) : False := by
  by_cases hi : i < ds.length
  · rw [List.getElem?_append_left (by simpa using hi), List.getElem?_map] at e
    cases q : ds[i]? with
    | none => rw [q] at e; cases e
    | some y => rw [q] at e; cases e
  · rw [List.getElem?_append_right (by simpa using hi), List.getElem?_replicate] at e
    split at e <;> cases e
theorem Fr.start {K : PySem.W.Frag} {G0 H0 G H : Hp} {la0 la : List Addr} {st : Store} {N : List Str} {vs : List V} {ds : List D} (p : Post K G0 la0 H0 G la st H) (h : RepL K G la vs ds) :
    Fr K G0 la0 H0 G la st H (ds.map (fun d => some (Sl.v d)) ++ List.replicate (N.length - ds.length) none) (L2.start N vs) :=
  ⟨(fr_start (N := N) p.rel h).bd, p, fun _ _ _ e => (start_noO e).elim, (fr_start (N := N) p.rel h).len⟩

/-! ### __init__ -/
def spMk (K : PySem.W.Frag) (c : Str) (n : Nat) (f : List D → Store → Res XV) : Sp := fun vs H Q E => ∃ a dx vs' H1 G la st ds, vs = .ref a :: vs' ∧ ds.length = n ∧ H1 a = none ∧ Post K G la H1 G la st H ∧ RepL K G la vs' ds ∧ H a = some (.ins (He.ga K c) dx []) ∧ G a = none ∧ a ∉ la ∧
  match f ds st with
  | .ok z st' => ∀ H' G' la', Post K G la H1 G' la' st' H' → OutZ K G' la' H1 H' (.ref a) z → Q .non H'
  | .ex c fs st' => ∀ d H' G' la', Post K G la H1 G' la' st' H' → ExAt K G' la' H' d fs → E (.ref (He.ga K c)) d H'
  | .bad => False
/-- the object that stands in the last cell -/
def lastO (st : Store) (st' : Store) : Res XV := match st'[st.length]? with
  | some (some d) => if st'.length = st.length + 1 ∧ lowS st.length (st'.take st.length) = true ∧ lowD st.length d = true then .ok (.n d) (st'.take st.length) else .bad
  | _ => .bad
def initF (c : Str) (n : Nat) (body : MS) (ds : List D) (st : Store) : Res XV := match body ((D.cell st.length :: ds).map (fun d => some (Sl.v d)) ++ List.replicate (n - (ds.length + 1)) none) (st ++ [some (.obj c [] [])]) with
  | .nx _ st' => lastO st st'
  | .ex c fs _ st' => .ex c fs st'
  | _ => .bad
theorem spMk_len {K : PySem.W.Frag} {c : Str} {n : Nat} {f : List D → Store → Res XV} : ∀ vs H Q E, spMk K c n f vs H Q E → vs.length = n + 1 := fun vs H Q E ⟨a, dx, vs', H1, G, la, st, ds, e, h, _, _, r, _⟩ => by
  rw [e, List.length_cons, r.length, h]
theorem pre_same {la la' : List Addr} (p : Pre la la') (h : la.length = la'.length) : la' = la := by
  refine List.ext_getElem? fun i => ?_
  by_cases hi : i < la.length
  · rw [List.getElem?_eq_getElem hi]
    exact p i _ (List.getElem?_eq_getElem hi)
  · rw [List.getElem?_eq_none (by omega), List.getElem?_eq_none (by omega)]
theorem init_to {K : PySem.W.Frag} {N : List Str} {n : Nat} {c : Str} {body : MS} {vs : List V} {H : Hp} {Q : VK} {E : XK} (h : spMk K c n (initF c N.length body) vs H Q E) :
    ∃ G0 la0 H0, tS K (fun cls d _ H => E cls d H) G0 la0 H0 body { nx := fun _ H' => Q .non H', rt := fun v H' => Q v H' } (L2.start N vs) H := by
  obtain ⟨a, dx, vs', H1, G, la, st, ds, rfl, hn, ha, p, r, hx, g, nm, w⟩ := h
  have hl := p.rel.len
  have c0 : Con K G la H a (.obj c [] []) := .obj hx rfl .nil
  have p1 := p.cellOf c0 g nm ha
  have rc : Rep K G (la ++ [a]) (.ref a) (.cell st.length) := .cell (by rw [← hl, List.getElem?_append_right (Nat.le_refl _), Nat.sub_self]; rfl)
  have r1 : RepL K G (la ++ [a]) (.ref a :: vs') (.cell st.length :: ds) := .cons rc (r.mono (Same.refl _) (Pre.app _ _))
  refine ⟨G, la, H1, G, la ++ [a], _, _, Fr.start (N := N) p1 r1, ?_⟩
  unfold initF at w
  have e0 : N.length - (D.cell st.length :: ds).length = N.length - (ds.length + 1) := rfl
  rw [e0]
  have fin : ∀ {st' : Store} {H' G' : Hp} {la' : List Addr}, Post K G la H1 G' la' st' H' → Pre (la ++ [a]) la' → (match lastO st st' with
      | .ok z st' => ∀ H' G' la', Post K G la H1 G' la' st' H' → OutZ K G' la' H1 H' (.ref a) z → Q .non H'
      | .ex c fs st' => ∀ d H' G' la', Post K G la H1 G' la' st' H' → ExAt K G' la' H' d fs → E (.ref (He.ga K c)) d H'
      | .bad => False) → Q .non H' := fun {st' H' G' la'} pp pr w => by
    unfold lastO at w
    split at w
    · rename_i z st2 ez
      split at ez
      · rename_i d ed
        split at ez
        · rename_i hc
          obtain ⟨h1, h2, h3⟩ := hc
          cases ez
          have hla : la' = la ++ [a] := pre_same pr (by rw [List.length_append, pp.rel.len, h1, hl]; rfl)
          subst hla
          have hst : st' = st'.take st.length ++ [some d] := by
            have ht : st'.drop st.length = [some d] := by
              rw [List.drop_eq_getElem_cons (by omega)]
              have e1 : st'[st.length]? = some st'[st.length] := List.getElem?_eq_getElem (by omega)
              rw [e1] at ed
              rw [Option.some.inj ed, List.drop_eq_nil_of_le (by omega)]
            rw [← ht, List.take_append_drop]
          have pp2 : Post K G la H1 G' (la ++ [a]) (st'.take st.length ++ [some d]) H' := hst ▸ pp
          have hlow : lowS la.length (st'.take st.length) = true := by rw [hl]; exact h2
          have hlow2 : lowD la.length d = true := by rw [hl]; exact h3
          obtain ⟨_, q2, q3, q4⟩ := pp2.rel.drop hlow hlow2
          exact w H' G' la (pp2.drop (Pre.refl _) hlow hlow2) ⟨a, rfl, q2, q3, q4, ha⟩
        · cases ez
      · cases ez
    · rename_i c2 fs2 st2 ez
      split at ez
      · split at ez <;> cases ez
      · cases ez
    · exact w.elim
  cases e : body ((D.cell st.length :: ds).map (fun d => some (Sl.v d)) ++ List.replicate (N.length - (ds.length + 1)) none) (st ++ [some (.obj c [] [])]) with
  | nx env st' => rw [e] at w; exact fun σ H' G' la' f s pr => fin f.post pr w
  | rt x st' => rw [e] at w; exact False.elim w
  | ex c fs env st' => rw [e] at w; exact fun d σ H' G' la' f x => w d H' G' la' f.post x
  | bad => rw [e] at w; exact False.elim w
  | bk env st' => rw [e] at w; exact False.elim w
  | ct env st' => rw [e] at w; exact False.elim w

/-! ### an object is made -/
def noEx {α : Type} : Res α → Res α
  | .ex _ _ _ => .bad
  | r => r
def iMake (n : Nat) (f : List D → Store → Res XV) (ms : M (List XV)) : M XV := fun env st => (ms env st).bind fun xs st1 => match getD xs with
  | some ds => if ds.length = n then noEx (f ds st1) else .bad
  | none => .bad
section
variable {X : Cx} {W : WX}
theorem re_make {k j n : Nat} {f : Addr} {fd : FuncData} {ps : List Str} {g : List D → Store → Res XV} {c x : Str} {p pos : Pos} {e : PySem.Expr} {es : List PySem.Expr} {ms : M (List XV)} (Mk : L2.Mk X.K (He.ga X.K c) f)
    (F : FnOk X.prog X.w X.K X.mg X.base (L2.CX X.prog X.w) j f fd ps (spMk X.K c n g)) (hr : Room k X.A) (hk : j + 1 ≤ k) (hg : Gl X x) (hm : X.mg x = some (.ref (He.ga X.K c))) (hb : Binds X.K fd ps []) (ha : PA X (e :: es) (tA X.K W ms)) (hdb : (x == ("__debug__" : Str)) = false := by decide)
    (he : starEach (e :: es) X.env = (false, eval e X.env) :: starEach es X.env := by rfl) (hpl : (backTo pos (starEach es X.env)).any (·.1) = false := by rfl) : PE X (.Call (.Name x p) (e :: es) [] pos) (tE X.K W (iMake n g ms)) := by
  have hx : Passes (L2.CX X.prog X.w) X EN := fun _ _ _ _ _ _ _ ⟨_, _, _, _, _, _, _, _, _, _, _, _, h⟩ => h.elim
  refine peImp (pe_make (dvs := []) (ds := []) Mk F (hr.mono hk) hg hm hb .nil hx ha hdb he hpl) fun σ H Q h => ?_
  refine tA_bind (k := fun xs env st1 => match getD xs with
    | some ds => if ds.length = n then noEx (g ds st1) else .bad
    | none => .bad) h fun G la env st xs vs H1 b o w => ?_
  cases e1 : getD xs with
  | none => rw [e1] at w; exact False.elim w
  | some ds =>
    rw [e1] at w
    dsimp only at w
    by_cases hn : ds.length = n
    · rw [if_pos hn] at w
      intro y dx hy hd hne
      have r := o.reps e1
      have p1 : Post X.K G la H1 G la st (upd H1 dx (.own y)) := Post.new b.rel hd
      have hy2 : (upd H1 dx (.own y)) y = none := by rw [upd_ne (fun q => hne q.symm)]; exact hy
      have p2 : Post X.K G la H1 G la st (upd (upd H1 dx (.own y)) y (.ins (He.ga X.K c) dx [])) := p1.trans (Post.new p1.rel hy2)
      refine ⟨y, dx, vs ++ [], H1, G, la, st, ds, rfl, hn, hy, p2, by rw [List.append_nil]; exact r, upd_same, b.rel.sub.none_of hy, b.rel.free hy, ?_⟩
      cases ef : g ds st with
      | bad => rw [ef] at w; exact w
      | ex _ _ _ => rw [ef] at w; exact False.elim w
      | ok z st' =>
        rw [ef] at w
        exact fun H' G' la' pp oz => ⟨rfl, w (.ref y) H' G' la' pp oz.toX⟩
    · rw [if_neg hn] at w
      exact False.elim w
/-! ### a property -/
def iProp (c : Str) (f : List D → Store → Res XV) (m : M XV) : M XV := fun env st => (m env st).bind fun x st1 => match x.fz with
  | .v (.obj c' fs vs) => if c' = c then noEx (f [.obj c' fs vs] st1) else .bad
  | _ => .bad
theorem re_prop {k j : Nat} {f : Str} {c : Str} {pa ga : Addr} {fd : FuncData} {ps : List Str} {g : List D → Store → Res XV} {a : PySem.Expr} {pos : Pos} {m : M XV} (hc : Cls X.K (He.ga X.K c)) (hp : PropOf X.K (He.ga X.K c) f pa ga)
    (F : FnOk X.prog X.w X.K X.mg X.base (L2.CX X.prog X.w) j ga fd ps (spY X.K 1 g)) (hr : Room k X.A) (hk : j + 1 ≤ k) (hb : Binds X.K fd ps []) (ha : PE X a (tE X.K W m)) (hab : attributeBase a f X.env (eval a X.env) = eval a X.env := by rfl) : PE X (.Attribute a f pos) (tE X.K W (iProp c g m)) := by
  refine peImp (pe_prop (dvs := []) (ds := []) ha hc hp F (hr.mono hk) hb .nil passN hab) fun σ H Q h => ?_
  refine tE_bind (k := fun x env st1 => match x.fz with
    | .v (.obj c' fs vs) => if c' = c then noEx (g [.obj c' fs vs] st1) else .bad
    | _ => .bad) (O := fun env => OE X.K env σ) backE h fun G la env st x v H1 b o w => ?_
  cases e : x.fz with
  | n d => rw [e] at w; exact False.elim w
  | s i d => rw [e] at w; exact False.elim w
  | v d =>
    rw [e] at w o
    cases d with
    | obj c' fs vs =>
      dsimp only at w
      by_cases hcc : c' = c
      · rw [if_pos hcc] at w
        subst hcc
        have o : Rep X.K G la v (.obj c' fs vs) := o
        have o2 := o
        cases o with
        | obj h1 q r =>
          rcases b.rel.sub _ _ h1 with h2 | ⟨h2, _⟩
          · refine ⟨_, _, _, rfl, h2, G, la, st, [.obj c' fs vs], rfl, b.rel, .cons o2 .nil, ?_⟩
            cases ef : g [.obj c' fs vs] st with
            | bad => rw [ef] at w; exact w
            | ex _ _ _ => rw [ef] at w; exact False.elim w
            | ok z st' => rw [ef] at w; exact fun v' H' G' la' pp oz => w v' H' G' la' pp oz.toX
          · cases h2
      · rw [if_neg hcc] at w
        exact False.elim w
    | _ => exact False.elim w
end
end Y

set_option maxHeartbeats 4000000
/-! Y11: operators and built-ins on objects of own classes. -/
namespace Y
open PySem L2 PySem.Spec PyProof.Rows

section
variable {prog : Program} {w : World} {A : Around} {E : Value → Shared → Prop} {s : Shared} {K : PySem.W.Frag} {x C f : Addr} {ox : Obj} {odd : Option Obj} {h₀ : Heap} {L : Addr} {m : Str → Option Value}
/-- bool(x), x with its own truth -/
theorem bool_own {Q : Value → Shared → Prop} (F : PyProof.Rows.Fr h₀ L s.heap m) (X₀ : K.In h₀) (I : PySem.W.InstAt s.heap x ox C odd) (hs : PySem.W.findIn K (.ref C) "__bool__" = some (some (.ref f))) (hf : PySem.W.isFn K (.ref f) = true)
    (h : wpAny (model prog w) A.in1.in1 (call (.ref f) [.ref x]) (fun r s₁ => ∃ b, r = Value.bool b ∧ Q r s₁) E s) : wpAny (model prog w) A (call (.type "bool") [.ref x]) Q E s := by
  refine callType_codes (T := "bool") (Bi := Builtin.«object.__init__») (Q₁ := fun r s₁ => ∃ b, r = Value.bool b ∧ Q r s₁) PySem.F.called_bool (PySem.F.typeCall_bool_1 _) PySem.F.entry_object_init ?_ ?_
  · refine codeAny_of_tree ?_
    show wpAny _ A.in1.in1 (do checkBuiltinCall "bool.__new__" ⟨[.type "bool", .ref x], []⟩; again (.builtin "bool.__new__" ⟨[.type "bool", .ref x], []⟩)) _ _ s
    refine wpAny_bind (wpAny_of_eq (PySem.F.newCall_bool_1 _) (wpAny_pure ⟨plainId_quiet (by decide +kernel) _, codeAny_builtin PySem.F.entry_bool_new ?_⟩))
    rw [Around.under_plainId (by decide +kernel) _]
    unfold Builtin.«bool.__new__»
    refine wpAny_bind (wpAny_of_eq (a := true) (by first | rfl | kernel_rfl) ?_)
    refine PySem.W.KFB.if_not rfl ?_
    refine wpAny_bind (wpAny_of_eq (a := true) PySem.F.conv_sub_bool ?_)
    refine PySem.W.KFB.if_not rfl ?_
    refine wpAny_bind (wpAny_of_eq (a := [Value.ref x]) (by first | rfl | kernel_rfl) ?_)
    show wpAny _ _ (truthy (.ref x) >>= fun b => ret (.bool b)) _ _ _
    refine wpAny_bind (PySem.W.truthy_K F X₀ I hs hf (wpAny_mono h (fun r s₁ hr => ?_) fun _ _ y => y))
    obtain ⟨b, rfl, hq⟩ := hr
    exact wpAny_pure ⟨b, rfl, hq⟩
  · rintro obj s₁ ⟨b, rfl, hq⟩
    exact ⟨PySem.typeIs_bool _ _, PySem.F.args_object_init_2 _ _, object_init_meets PySem.F.called_bool.init.lookup PySem.F.called_bool.made (by decide) prog w A.in1 _ s₁ ⟨PySem.typeIs_bool _ _, rfl, hq⟩⟩
end

section
variable {X : Cx} {k j : Nat} {f C : Addr} {fd : FuncData} {ps : List Str} {sp : Sp}
theorem ins_look {pins : List (Addr × Obj)} {σ : L2.St} {H : Hp} {s : Shared} {a dx : Addr} {fs : List (Str × V)} (I : Inv X pins σ H s) (h : H a = some (.ins C dx fs)) : ∃ od, PySem.W.InstAt s.heap a (PySem.W.instObj C dx) C (some od) := by
  obtain ⟨mA, ob, _⟩ := ins_get I.hok h
  obtain ⟨od, J, _⟩ := ob.look
  exact ⟨od, J⟩
/-- the callee runs below the running body -/
theorem run_at {A : Around} {pins : List (Addr × Obj)} {σ : L2.St} {H : Hp} {s : Shared} {Q : VK} {us : List Value} {vs : List V} (F : FnOk X.prog X.w X.K X.mg X.base (L2.CX X.prog X.w) k f fd ps sp) (hr : Room k A) (e0 : Env0 X.prog X.w X.K X.mg X.base A X.stack s H) (hb : Binds X.K fd ps [])
    (I : Inv X pins σ H s) (r : Vals vs us) (h : sp vs H Q EN) : wpAny (model X.prog X.w) A (call (.ref f) us) (EP X pins σ Q) X.xe s := by
  have hl : us.length = ps.length := by rw [← r.length]; exact F.len _ _ _ _ h
  have b := hb s us I.kIn (by rw [List.append_nil]; exact hl)
  rw [List.append_nil] at b
  refine wpAny_call (codeAny_mono (F.run A X.stack s H ⟨us, []⟩ us vs Q EN hr e0 b r h) fun r s' hq => ?_)
  cases r with
  | error e =>
    obtain ⟨_, _, _, _, _, _, _, _, _, _, _, _, z⟩ := hq
    exact z.elim
  | ok fl =>
    cases fl with
    | ret u => exact I.after hq
    | next => exact False.elim hq
    | brk => exact False.elim hq
    | cont => exact False.elim hq
/-- a op b, both of one own class -/
def rBinO (C : Addr) (sp : Sp) : R2 := fun x y H Q => ∃ a dx fs b dy gs, x = .ref a ∧ y = .ref b ∧ H a = some (.ins C dx fs) ∧ H b = some (.ins C dy gs) ∧ sp [x, y] H Q EN
theorem op_binO {op : Operator} (hc : PySem.W.selfFirst X.K C = true) (hs : PySem.W.findIn X.K (.ref C) (PySem.dunder op.info.2) = some (some (.ref f))) (hf : PySem.W.isFn X.K (.ref f) = true)
    (F : FnOk X.prog X.w X.K X.mg X.base (L2.CX X.prog X.w) k f fd ps sp) (hr : Room k X.A) (hb : Binds X.K fd ps []) : OpR X (binaryOp op) (rBinO C sp) := by
  intro pins s σ H x y v u Q I rx ry h
  obtain ⟨a, dx, fs, b, dy, gs, rfl, rfl, ha, hb', q⟩ := h
  cases (show v = Value.ref a from rx)
  cases (show u = Value.ref b from ry)
  obtain ⟨od, J⟩ := ins_look I ha
  obtain ⟨od', J'⟩ := ins_look I hb'
  obtain ⟨m, hF⟩ := I.fr
  refine PySem.W.binop_K hF I.ok.mod.kin J J'.type hc hs hf ?_
  refine wpAny_mono (run_at (us := [.ref a, .ref b]) (vs := [.ref a, .ref b]) F hr I.env0 hb I (.cons rfl (.cons rfl .nil)) q) (fun w s' z => ?_) fun _ _ x => x
  obtain ⟨z', H', I', rz, qz⟩ := z
  exact SlX.cmpback rz ⟨z', H', I', rz, qz⟩
/-- a == b, a of an own class with its own ==; b of any type that is not below it -/
def rCmpO (K : PySem.W.Frag) (C : Addr) (sp : Sp) : R2 := fun x y H Q => ∃ a dx fs t, x = .ref a ∧ H a = some (.ins C dx fs) ∧ TyX K H y t ∧ PySem.W.notFirst K C t = true ∧ sp [x, y] H Q EN
theorem op_cmpO {op : CmpOp} (hop : ∀ a b, compareOp op a b = richCompare op a b) (hs : PySem.W.findIn X.K (.ref C) (cmpInfo op).2.1 = some (some (.ref f))) (hf : PySem.W.isFn X.K (.ref f) = true)
    (F : FnOk X.prog X.w X.K X.mg X.base (L2.CX X.prog X.w) k f fd ps sp) (hr : Room k X.A) (hb : Binds X.K fd ps []) : OpR X (compareOp op) (rCmpO X.K C sp) := by
  intro pins s σ H x y v u Q I rx ry h
  obtain ⟨a, dx, fs, t, rfl, ha, ty, hn, q⟩ := h
  cases (show v = Value.ref a from rx)
  obtain ⟨od, J⟩ := ins_look I ha
  obtain ⟨P, Z, p, _⟩ := kit_of I ry ty
  obtain ⟨m, hF⟩ := I.fr
  rw [hop]
  refine PySem.W.cmp_K (op := op) (tb := t) hr.units0 hF I.ok.mod.kin J (Z.ty _ _ I.kIn p) hn hs hf ?_
  refine wpAny_mono (run_at (us := [.ref a, u]) (vs := [.ref a, y]) F hr I.env0 hb I (.cons rfl (.cons ry .nil)) q) (fun w s' z => ?_) fun _ _ x => x
  obtain ⟨z', H', I', rz, qz⟩ := z
  exact SlX.cmpback rz ⟨z', H', I', rz, qz⟩
/-- repr(a) of an own class -/
theorem call_reprO (hs : PySem.W.findIn X.K (.ref C) "__repr__" = some (some (.ref f))) (hf : PySem.W.isFn X.K (.ref f) = true) (F : FnOk X.prog X.w X.K X.mg X.base (L2.CX X.prog X.w) k f fd ps sp) (hr : Room (k + 1) X.A) (hb : Binds X.K fd ps []) :
    CallR X (.builtin "repr") (fun xs H Q => ∃ a dx fs, xs = [.ref a] ∧ H a = some (.ins C dx fs) ∧ sp xs H (fun v H' => (∃ z, v = .str z) ∧ Q v H') EN) := by
  intro pins s σ H xs us Q I r h
  obtain ⟨a, dx, fs, rfl, ha, q⟩ := h
  obtain ⟨u, rfl, ru⟩ := r.one
  cases (show u = Value.ref a from ru)
  obtain ⟨od, J⟩ := ins_look I ha
  obtain ⟨m, hF⟩ := I.fr
  refine PySem.W.repr_K (Room.in1 hr).units0 hF I.ok.mod.kin J hs hf ?_
  refine wpAny_mono (run_at (us := [.ref a]) (vs := [.ref a]) F (Room.in1 hr) I.env0.in1 hb I (.cons rfl .nil) q) (fun w s' z => ?_) fun _ _ x => x
  obtain ⟨z', H', I', rz, ⟨zz, ez⟩, qz⟩ := z
  subst ez
  obtain ⟨t, e⟩ := (show ∃ t, w = Value.str zz t from rz)
  subst e
  exact ⟨.str zz, H', I', rz, qz⟩
/-- bool(a) of an own class -/
theorem call_boolO (hs : PySem.W.findIn X.K (.ref C) "__bool__" = some (some (.ref f))) (hf : PySem.W.isFn X.K (.ref f) = true) (F : FnOk X.prog X.w X.K X.mg X.base (L2.CX X.prog X.w) k f fd ps sp) (hr : Room (k + 2) X.A) (hb : Binds X.K fd ps []) :
    CallR X (.type "bool") (fun xs H Q => ∃ a dx fs, xs = [.ref a] ∧ H a = some (.ins C dx fs) ∧ sp xs H (fun v H' => (∃ z, v = .bl z) ∧ Q v H') EN) := by
  intro pins s σ H xs us Q I r h
  obtain ⟨a, dx, fs, rfl, ha, q⟩ := h
  obtain ⟨u, rfl, ru⟩ := r.one
  cases (show u = Value.ref a from ru)
  obtain ⟨od, J⟩ := ins_look I ha
  obtain ⟨m, hF⟩ := I.fr
  have hr2 : Room k X.A.in1.in1 := (show Room (k + 1) X.A.in1 from Room.in1 hr).in1
  refine bool_own hF I.ok.mod.kin J hs hf ?_
  refine wpAny_mono (run_at (us := [.ref a]) (vs := [.ref a]) F hr2 I.env0.in1.in1 hb I (.cons rfl .nil) q) (fun w s' z => ?_) fun _ _ x => x
  obtain ⟨z', H', I', rz, ⟨zz, ez⟩, qz⟩ := z
  subst ez
  cases (show w = Value.bool zz from rz)
  exact ⟨zz, rfl, .bl zz, H', I', rfl, qz⟩
/-! ### by data -/
def iOb1 (c : Str) (q : XV → Bool) (g : List D → Store → Res XV) (ms : M (List XV)) : M XV := fun env st => (ms env st).bind fun xs st1 => match getD xs with
  | some [.obj c1 f1 v1] => if c1 = c then (match g [.obj c1 f1 v1] st1 with
    | .ok z st2 => if q z = true then .ok z st2 else .bad
    | _ => .bad) else .bad
  | _ => .bad
def iOb2 (c : Str) (g : List D → Store → Res XV) (ms : M (List XV)) : M XV := fun env st => (ms env st).bind fun xs st1 => match getD xs with
  | some [.obj c1 f1 v1, .obj c2 f2 v2] => if c1 = c ∧ c2 = c then noEx (g [.obj c1 f1 v1, .obj c2 f2 v2] st1) else .bad
  | _ => .bad
abbrev NfT := List Ty
def inT (t : Ty) (T : NfT) : Bool := T.any fun u => decide (u = t)
theorem inT_mem {t : Ty} {T : NfT} (h : inT t T = true) : t ∈ T := by
  obtain ⟨u, hu, e⟩ := List.any_eq_true.mp h
  have e2 : u = t := of_decide_eq_true e
  exact e2 ▸ hu
def NfT.ok (K : PySem.W.Frag) (c : Str) (T : NfT) : Bool := T.all fun t => PySem.W.notFirst K (He.ga K c) (tyVal K t)
def iObE (ow : List Str) (T : NfT) (c : Str) (g : List D → Store → Res XV) (ms : M (List XV)) : M XV := fun env st => (ms env st).bind fun xs st1 => match getD xs with
  | some [.obj c1 f1 v1, e] => if c1 = c then (match tyD ow e with
    | some t => if inT t T = true then noEx (g [.obj c1 f1 v1, e] st1) else .bad
    | none => .bad) else .bad
  | _ => .bad
def isS : XV → Bool
  | .v (.str _) => true
  | _ => false
def isBl : XV → Bool
  | .v (.bl _) => true
  | _ => false
variable {W : WX}
theorem Rep.ins {K : PySem.W.Frag} {G H : Hp} {la : List Addr} {st : Store} {v : V} {c : Str} {fs : List Str} {vs : List D} (b : Rel K G la st H) (r : Rep K G la v (.obj c fs vs)) : ∃ a dx fvs, v = .ref a ∧ H a = some (.ins (He.ga K c) dx fvs) := by
  cases r with
  | obj h q r =>
    rcases b.sub _ _ h with h2 | ⟨h2, _⟩
    · exact ⟨_, _, _, rfl, h2⟩
    · cases h2
theorem ob1_to {K : PySem.W.Frag} {c : Str} {q : XV → Bool} {g : List D → Store → Res XV} {m : M XV} {σ : L2.St} {H : Hp} {Q : VK} {P : V → Prop} (hP : ∀ z G la H0 H v, q z = true → OutZ K G la H0 H v z → P v) (h : tE K W (iOb1 c q g (evCons m evNil)) σ H Q) :
    tE K W m σ H fun x H1 => ∃ a dx fs, [x] = [.ref a] ∧ H1 a = some (.ins (He.ga K c) dx fs) ∧ spY K 1 g [x] H1 (fun v H' => P v ∧ Q v H') EN := by
  refine tE_mono (tA_one (R := fun vs H1 => ∃ x a dx fs, vs = [x] ∧ [x] = [.ref a] ∧ H1 a = some (.ins (He.ga K c) dx fs) ∧ spY K 1 g [x] H1 (fun v H' => P v ∧ Q v H') EN) (tA_bind (k := fun xs env st1 => match getD xs with
  | some [.obj c1 f1 v1] => if c1 = c then (match g [.obj c1 f1 v1] st1 with
    | .ok z st2 => if q z = true then .ok z st2 else .bad
    | _ => .bad) else .bad
  | _ => .bad) h fun G la env st xs vs H1 b o w => ?_)) fun x H1 ⟨_, a, dx, fs, e, h1, h2, h3⟩ => by cases e; exact ⟨a, dx, fs, h1, h2, h3⟩
  split at w
  · rename_i c1 f1 v1 ed
    split at w
    · rename_i hc
      subst hc
      have r := o.reps ed
      cases r with
      | cons r1 t =>
        cases t
        obtain ⟨a, dx, fvs, rfl, h2⟩ := r1.ins b.rel
        refine ⟨_, a, dx, fvs, rfl, rfl, h2, G, la, st, _, rfl, b.rel, .cons r1 .nil, ?_⟩
        cases eg : g [.obj c1 f1 v1] st with
        | bad => rw [eg] at w; exact w
        | ex _ _ _ => rw [eg] at w; exact w.elim
        | ok z st2 =>
          rw [eg] at w
          dsimp only at w
          by_cases hq : q z = true
          · rw [if_pos hq] at w
            exact fun v H' G' la' p oz => ⟨hP z _ _ _ _ _ hq oz, w v H' G' la' p oz.toX⟩
          · rw [if_neg hq] at w
            exact w.elim
    · exact False.elim w
  · exact False.elim w
theorem ob2_to {K : PySem.W.Frag} {c : Str} {g : List D → Store → Res XV} {ma mb : M XV} {σ : L2.St} {H : Hp} {Q : VK} (h : tE K W (iOb2 c g (evCons ma (evCons mb evNil))) σ H Q) :
    tE K W ma σ H fun x H1 => tE K W mb σ H1 fun y H2 => rBinO (He.ga K c) (spY K 2 g) x y H2 Q := by
  refine tA_two (R := fun vs H2 => ∃ x y, vs = [x, y] ∧ rBinO (He.ga K c) (spY K 2 g) x y H2 Q) (tA_bind (k := fun xs env st1 => match getD xs with
  | some [.obj c1 f1 v1, .obj c2 f2 v2] => if c1 = c ∧ c2 = c then noEx (g [.obj c1 f1 v1, .obj c2 f2 v2] st1) else .bad
  | _ => .bad) h fun G la env st xs vs H1 b o w => ?_) |> fun q => tE_mono q fun x H1 q => tE_mono q fun y H2 ⟨_, _, e, z⟩ => by cases e; exact z
  split at w
  · rename_i c1 f1 v1 c2 f2 v2 ed
    split at w
    · rename_i hc
      obtain ⟨rfl, rfl⟩ := hc
      have r := o.reps ed
      cases r with
      | cons r1 t =>
        cases t with
        | cons r2 t =>
          cases t
          obtain ⟨a, dx, fvs, rfl, h2⟩ := r1.ins b.rel
          obtain ⟨a', dy, gvs, rfl, h3⟩ := r2.ins b.rel
          refine ⟨_, _, rfl, a, dx, fvs, a', dy, gvs, rfl, rfl, h2, h3, G, la, st, _, rfl, b.rel, .cons r1 (.cons r2 .nil), ?_⟩
          cases eg : g [.obj _ f1 v1, .obj _ f2 v2] st with
          | bad => rw [eg] at w; exact w
          | ex _ _ _ => rw [eg] at w; exact False.elim w
          | ok z st2 => rw [eg] at w; exact fun v H' G' la' p oz => w v H' G' la' p oz.toX
    · exact False.elim w
  · exact False.elim w
theorem Rep.ty {K : PySem.W.Frag} {G H : Hp} {la : List Addr} {st : Store} {v : V} {d : D} {t : Ty} {ow : List Str} (ho : ow.all (insB K) = true) (b : Rel K G la st H) (r : Rep K G la v d) (e : tyD ow d = some t) : TyX K H v (tyVal K t) :=
  Rd1.ty ho (r.read b.sub (by cases d <;> first | rfl | cases e)) e
theorem obE_to {K : PySem.W.Frag} {ow : List Str} {T : NfT} {c : Str} {g : List D → Store → Res XV} {ma mb : M XV} {σ : L2.St} {H : Hp} {Q : VK} (ho : ow.all (insB K) = true) (hT : NfT.ok K c T = true) (h : tE K W (iObE ow T c g (evCons ma (evCons mb evNil))) σ H Q) :
    tE K W ma σ H fun x H1 => tE K W mb σ H1 fun y H2 => rCmpO K (He.ga K c) (spY K 2 g) x y H2 Q := by
  refine tA_two (R := fun vs H2 => ∃ x y, vs = [x, y] ∧ rCmpO K (He.ga K c) (spY K 2 g) x y H2 Q) (tA_bind (k := fun xs env st1 => match getD xs with
  | some [.obj c1 f1 v1, e] => if c1 = c then (match tyD ow e with
    | some t => if inT t T = true then noEx (g [.obj c1 f1 v1, e] st1) else .bad
    | none => .bad) else .bad
  | _ => .bad) h fun G la env st xs vs H1 b o w => ?_) |> fun q => tE_mono q fun x H1 q => tE_mono q fun y H2 ⟨_, _, e, z⟩ => by cases e; exact z
  split at w
  · rename_i c1 f1 v1 de ed
    split at w
    · rename_i hc
      subst hc
      have r := o.reps ed
      cases r with
      | cons r1 t =>
        cases t with
        | cons r2 t =>
          cases t
          obtain ⟨a, dx, fvs, rfl, h2⟩ := r1.ins b.rel
          split at w
          · rename_i t et
            split at w
            · rename_i ht
              refine ⟨_, _, rfl, a, dx, fvs, tyVal K t, rfl, h2, r2.ty ho b.rel et, List.all_eq_true.mp hT t (inT_mem ht), G, la, st, _, rfl, b.rel, .cons r1 (.cons r2 .nil), ?_⟩
              cases eg : g [.obj _ f1 v1, de] st with
              | bad => rw [eg] at w; exact w
              | ex _ _ _ => rw [eg] at w; exact False.elim w
              | ok z st2 => rw [eg] at w; exact fun v H' G' la' p oz => w v H' G' la' p oz.toX
            · exact False.elim w
          · exact False.elim w
    · exact False.elim w
  · exact False.elim w
end
end Y

set_option maxHeartbeats 4000000
/-! Y12: operators of own classes as expressions, f-strings, defs as wholes. -/
namespace Y
open PySem L2 PySem.Spec PyProof.Rows

section
variable {X : Cx} {W : WX} {k j : Nat} {f : Addr} {fd : FuncData} {ps : List Str} {g : List D → Store → Res XV} {c : Str} {a b e : PySem.Expr} {ma mb m : M XV} {p pos : Pos}
/-- the def at f is the class's answer to the name n -/
structure OwnM (K : PySem.W.Frag) (c n : Str) (f : Addr) : Prop where
  at_ : PySem.W.findIn K (.ref (He.ga K c)) n = some (some (.ref f))
  fn : PySem.W.isFn K (.ref f) = true
theorem re_binO {op : Operator} (hc : PySem.W.selfFirst X.K (He.ga X.K c) = true) (hs : OwnM X.K c (PySem.dunder op.info.2) f) (F : FnOk X.prog X.w X.K X.mg X.base (L2.CX X.prog X.w) j f fd ps (spY X.K 2 g)) (hr : Room k X.A) (hk : j ≤ k) (hb : Binds X.K fd ps [])
    (ha : PE X a (tE X.K W ma)) (he : PE X b (tE X.K W mb)) : PE X (.BinOp a op b pos) (tE X.K W (iOb2 c g (evCons ma (evCons mb evNil)))) :=
  peImp (pe_op (op_binO hc hs.at_ hs.fn F (hr.mono hk) hb) ha he) fun _ _ _ h => ob2_to h
theorem re_cmpO {op : CmpOp} {ow : List Str} {T : NfT} (ho : ow.all (insB X.K) = true) (hT : NfT.ok X.K c T = true) (hop : ∀ a b, compareOp op a b = richCompare op a b) (hs : OwnM X.K c (cmpInfo op).2.1 f) (F : FnOk X.prog X.w X.K X.mg X.base (L2.CX X.prog X.w) j f fd ps (spY X.K 2 g)) (hr : Room k X.A) (hk : j ≤ k)
    (hb : Binds X.K fd ps []) (ha : PE X a (tE X.K W ma)) (he : PE X b (tE X.K W mb)) (hm : behindInMarks op b = false) : PE X (.Compare a [op] [b] pos) (tE X.K W (iObE ow T c g (evCons ma (evCons mb evNil)))) :=
  peImp (pe_cmpR (op_cmpO hop hs.at_ hs.fn F (hr.mono hk) hb) ha he hm) fun _ _ _ h => obE_to ho hT h
theorem rt_cmpO {op : CmpOp} {ow : List Str} {T : NfT} (ho : ow.all (insB X.K) = true) (hT : NfT.ok X.K c T = true) (hop : ∀ a b, compareOp op a b = richCompare op a b) (hs : OwnM X.K c (cmpInfo op).2.1 f) (F : FnOk X.prog X.w X.K X.mg X.base (L2.CX X.prog X.w) j f fd ps (spY X.K 2 g)) (hr : Room k X.A) (hk : j ≤ k)
    (hb : Binds X.K fd ps []) (ha : PE X a (tE X.K W ma)) (he : PE X b (tE X.K W mb)) (hm : behindInMarks op b = false) : PT X (.Compare a [op] [b] pos) (tT X.K W (iBoo (iObE ow T c g (evCons ma (evCons mb evNil))))) :=
  rt_cmp (op_cmpO hop hs.at_ hs.fn F (hr.mono hk) hb) ha he hm fun _ _ _ h => obE_to ho hT h
theorem re_reprO (hs : OwnM X.K c "__repr__" f) (F : FnOk X.prog X.w X.K X.mg X.base (L2.CX X.prog X.w) j f fd ps (spY X.K 1 g)) (hr : Room k X.A) (hk : j + 1 ≤ k) (hb : Binds X.K fd ps []) (hg : Gl X "repr") (hm : X.mg "repr" = none) (ha : PE X a (tE X.K W m))
    (h1 : starEach (a :: []) X.env = (false, eval a X.env) :: starEach [] X.env := by rfl) (hpl : (backTo pos (starEach [] X.env)).any (·.1) = false := by rfl) : PE X (.Call (.Name "repr" p) [a] [] pos) (tE X.K W (iOb1 c isS g (evCons m evNil))) :=
  peImp (pe_callB (call_reprO hs.at_ hs.fn F (hr.mono hk) hb) hg hm rfl (pa_cons ha pa_nil h1) (by decide) (by decide) h1 hpl) fun _ _ _ h => ob1_to (P := fun v => ∃ z, v = .str z) (fun z G la H0 H v hz o => by
    cases z with
    | v d =>
      cases d <;> first | (cases hz; done) | skip
      cases o
      exact ⟨_, rfl⟩
    | _ => cases hz) h
theorem re_boolO (hs : OwnM X.K c "__bool__" f) (F : FnOk X.prog X.w X.K X.mg X.base (L2.CX X.prog X.w) j f fd ps (spY X.K 1 g)) (hr : Room k X.A) (hk : j + 2 ≤ k) (hb : Binds X.K fd ps []) (hg : Gl X "bool") (hm : X.mg "bool" = none) (ha : PE X a (tE X.K W m))
    (h1 : starEach (a :: []) X.env = (false, eval a X.env) :: starEach [] X.env := by rfl) (hpl : (backTo pos (starEach [] X.env)).any (·.1) = false := by rfl) : PE X (.Call (.Name "bool" p) [a] [] pos) (tE X.K W (iOb1 c isBl g (evCons m evNil))) :=
  peImp (pe_callTy (call_boolO hs.at_ hs.fn F (hr.mono hk) hb) hg hm rfl (pa_cons ha pa_nil h1) (by decide) (by decide) h1 hpl) fun _ _ _ h => ob1_to (P := fun v => ∃ z, v = .bl z) (fun z G la H0 H v hz o => by
    cases z with
    | v d =>
      cases d <;> first | (cases hz; done) | skip
      cases o
      exact ⟨_, rfl⟩
    | _ => cases hz) h
/-- a method of an object -/
def iMeth (c : Str) (n : Nat) (g : List D → Store → Res XV) (m : M XV) (ms : M (List XV)) : M XV := fun env st => (m env st).bind fun x st1 => match x.fz with
  | .v (.obj c' fs vs) => if c' = c ∧ valD fs vs c = none then (ms env st1).bind fun xs st2 => match getD xs with
    | some ds => if ds.length + 1 = n then g (.obj c' fs vs :: ds) st2 else .bad
    | none => .bad else .bad
  | _ => .bad
/-! ### f-strings -/
def fmtD : D → Option XV
  | .str y => if y.length ≤ sizeLine then some (.v (.str y)) else none
  | .int i => if i.natAbs.log2 < 1920 then some (.v (.str (toString i))) else none
  | _ => none
theorem re_fmt (ha : PE X a (tE X.K W m)) : PE X (.FormattedValue a (-1) none pos) (tE X.K W (iPrim (f1 fmtD) (evCons m evNil))) := by
  refine peImp (pe_fmt ha) fun σ H Q h => ?_
  refine tE_mono (tA_one (prim_to h)) fun x H1 q => ?_
  obtain ⟨G, la, st, ds, bb, rd, w⟩ := q
  cases rd with
  | cons h1 t =>
    cases t
    rename_i d
    have e1 : f1 fmtD [d] = fmtD d := rfl
    rw [e1] at w
    cases e2 : fmtD d with
    | none => rw [e2] at w; exact False.elim w
    | some z =>
      rw [e2] at w
      unfold fmtD at e2
      split at e2
      · split at e2
        · cases e2; cases h1; exact .inl ⟨_, rfl, by assumption, Aft.val w bb (.str _)⟩
        · cases e2
      · split at e2
        · cases e2; cases h1; exact .inr ⟨_, rfl, by assumption, Aft.val w bb (.str _)⟩
        · cases e2
      · cases e2
def iJs : List (M XV) → Str → M XV
  | [], acc => fun _ st => .ok (.v (.str acc)) st
  | m :: ms, acc => fun env st => (m env st).bind fun x st1 => match x with
    | .v (.str y) => if (acc ++ y).length ≤ sizeLine then iJs ms (acc ++ y) env st1 else .bad
    | _ => .bad
inductive RJ (X : Cx) (W : WX) : List PySem.Expr → List (M XV) → Prop
  | nil : RJ X W [] []
  | cons {e : PySem.Expr} {m : M XV} {es : List PySem.Expr} {ms : List (M XV)} (h : PE X e (tE X.K W m)) (r : RJ X W es ms) : RJ X W (e :: es) (m :: ms)
theorem RJ.pj {es : List PySem.Expr} {ms : List (M XV)} (r : RJ X W es ms) : PJ X es (ms.map fun m => tE X.K W m) := by
  induction r with
  | nil => exact .nil
  | cons h _ ih => exact .cons h ih
theorem js_to {K : PySem.W.Frag} {σ : L2.St} {Q : VK} : ∀ (ms : List (M XV)) (acc : Str) (H : Hp), tE K W (iJs ms acc) σ H Q → tJs (ms.map fun m => tE K W m) acc σ H fun out H1 => Q (.str out) H1
  | [], acc, H, h => by
    obtain ⟨G, la, env, st, b, h⟩ := h
    exact h (.str acc) H G la (Post.refl b.rel) (.str _)
  | m :: ms, acc, H, h => by
    refine tE_bind (k := fun x env st1 => match x with
      | .v (.str y) => if (acc ++ y).length ≤ sizeLine then iJs ms (acc ++ y) env st1 else .bad
      | _ => .bad) (O := fun env => OE K env σ) backE h fun G la env st x v H1 b o w => ?_
    split at w
    · rename_i y
      split at w
      · have o : Rep K G la v (.str y) := o
        cases o
        exact ⟨y, rfl, by assumption, js_to ms (acc ++ y) H1 ⟨G, la, env, st, b, w⟩⟩
      · exact False.elim w
    · exact False.elim w
theorem re_joined {v1 v2 : PySem.Expr} {rest : List PySem.Expr} {ms : List (M XV)} (h : RJ X W (v1 :: v2 :: rest) ms) : PE X (.JoinedStr (v1 :: v2 :: rest) pos) (tE X.K W (iJs ms Str.empty)) :=
  peImp (pe_joined h.pj) fun _ _ _ h => js_to ms Str.empty _ h
/-- what never is reached -/
def sBad : MS := fun _ _ => .bad
theorem rs_never {G0 H0 : Hp} {la0 : List Addr} {s : PySem.Stmt} : PS X s (tS X.K W G0 la0 H0 sBad) := psImp ps_never fun D σ H h => by
  obtain ⟨G, la, env, st, f, h⟩ := h
  exact h
end

/-! ### defs as wholes -/
section
variable {P : Program} {w : World} {K : PySem.W.Frag} {mg : Str → Option Value} {base : Heap} {x qual : Str} {params : Arguments} {body : List PySem.Stmt} {scope : Scope} {f : Addr} {fd : FuncData} {N ps : List Str} {k n : Nat} {m : MS} {c : Str}
/-- the context of the body -/
abbrev cxY (P : Program) (w : World) (K : PySem.W.Frag) (mg : Str → Option Value) (base : Heap) (N : List Str) (qual : Str) (scope : Scope) (f : Addr) (cdv : Value) (A : Around) (outer : List PySem.Env) (s : Shared) (H : Hp) (E : XK) : Cx := cxOf (L2.CX P w) P w K mg base N qual scope f cdv A outer s H E
/-- what is to be shown of a body -/
def BodyOk (P : Program) (w : World) (K : PySem.W.Frag) (mg : Str → Option Value) (base : Heap) (N : List Str) (qual : Str) (scope : Scope) (f : Addr) (k : Nat) (body : List PySem.Stmt) (m : MS) : Prop :=
  ∀ (cdv : Value) (A : Around) (outer : List PySem.Env) (s : Shared) (H : Hp) (E : XK), Room k (A.deeper (envOfC qual scope s.heap.objs.size f cdv)) → ∀ (G0 : Hp) (la0 : List Addr) (H0 : Hp),
    PSs (cxY P w K mg base N qual scope f cdv A outer s H E) body (tS K (fun cls d _ H => E cls d H) G0 la0 H0 m)
theorem takesY {cdv : Value} {A : Around} {outer : List PySem.Env} {s : Shared} {H : Hp} {E : XK} : Takes (cxY P w K mg base N qual scope f cdv A outer s H E) (fun cls d _ H => E cls d H) := takes_of rfl rfl rfl rfl
theorem passesY {cdv : Value} {A : Around} {outer : List PySem.Env} {s : Shared} {H : Hp} {E : XK} : PassesOwn (model P w) (cxY P w K mg base N qual scope f cdv A outer s H E).A (cxY P w K mg base N qual scope f cdv A outer s H E).env (cxY P w K mg base N qual scope f cdv A outer s H E).xe := passes_of rfl
theorem pss_some {X : Cx} {s : List PySem.Stmt} {t : Hp → List Addr → Hp → TS} (h : ∀ G la H0, PSs X s (t G la H0)) : PSs X s (fun D σ H => ∃ G la H0, t G la H0 D σ H) := ⟨fun pins s' σ H D I ⟨G, la, H0, q⟩ => (h G la H0).run pins s' σ H D I q⟩
theorem def_ok (F : FunD K x qual params body scope [] [] f fd) (S : FnScope N ps scope) (hn : ps.length = n) (h : BodyOk P w K mg base N qual scope f k body m) : FnOk P w K mg base (L2.CX P w) (k + 1) f fd ps (spY K n (runF N.length m)) := by
  refine F.ok S (fun vs H Q E q => (spY_len vs H Q E q).trans hn.symm) fun cdv A outer s H vs Q E hr q => ⟨_, pss_some fun G la H0 => h cdv A outer s H E hr G la H0, ?_⟩
  obtain ⟨G0, la0, q⟩ := body_to (N := N) q
  exact ⟨G0, la0, H, q⟩
theorem init_ok (F : FunD K x qual params body scope [] [] f fd) (S : FnScope N ps scope) (hn : ps.length = n + 1) (h : BodyOk P w K mg base N qual scope f k body m) : FnOk P w K mg base (L2.CX P w) (k + 1) f fd ps (spMk K c n (initF c N.length m)) := by
  refine F.ok S (fun vs H Q E q => (spMk_len vs H Q E q).trans hn.symm) fun cdv A outer s H vs Q E hr q => ⟨_, pss_some fun G la H0 => h cdv A outer s H E hr G la H0, ?_⟩
  exact init_to (n := n) (c := c) (N := N) q
theorem never_ok {j : Nat} : FnOk P w K mg base (L2.CX P w) j f fd ps (spY K n fun _ _ => .bad) :=
  ⟨fun vs H Q E ⟨_, _, _, _, _, _, _, h⟩ => h.elim, fun A outer s H args us vs Q E _ _ _ _ ⟨_, _, _, _, _, _, _, h⟩ => h.elim⟩
end
end Y

set_option maxHeartbeats 4000000
/-! Y13: the head's facts: defs found by a road of one's own. -/
namespace Y
open PySem L2 PySem.Spec PyProof.Rows He

def fnA (K : PySem.W.Frag) (a : Addr) : FnW := match K.lookup a with
  | some ⟨_, _, .func fd, _⟩ => some (fd.name, fd.qualname, fd.params, fd.body, fd.scope, fd.globals, fd.closure.map fun q => (q.1, 0), fd.builtins)
  | _ => none
structure DefY where
  at_ : PySem.W.Frag → Addr
  name : Str
  qual : Str
  params : Arguments
  body : List PySem.Stmt
  scope : Scope
  clo : List Str := []
def DefY.val (d : DefY) : FnW := some (d.name, d.qual, d.params, .stmts d.body, d.scope, mainGlobals, d.clo.map fun x => (x, 0), builtinsNs)
def DefY.ok (K : PySem.W.Frag) (d : DefY) : Bool := PySem.W.keepIn K (.ref (d.at_ K)) && (match K.lookup (d.at_ K) with
  | some ⟨_, _, .func fd, _⟩ => PySem.W.codeIn K fd.code d.qual && (dflB K fd.defaults [] && kwdB K fd.kwdefaults [])
  | _ => false)
theorem map_zero {l : List (Str × Addr)} {c : List Str} (h : l.map (fun q => (q.1, (0 : Addr))) = c.map fun x => (x, 0)) : l.map (·.1) = c := by
  have := congrArg (List.map (·.1)) h
  simpa [List.map_map, Function.comp_def] using this
theorem DefY.funD {K : PySem.W.Frag} {d : DefY} (e : fnA K (d.at_ K) = d.val) (c : d.ok K = true) (hn : d.clo = []) : ∃ fd, FunD K d.name d.qual d.params d.body d.scope [] [] (d.at_ K) fd := by
  obtain ⟨kp, c2⟩ := ba c
  unfold fnA at e
  cases q : K.lookup (d.at_ K) with
  | none =>
    rw [q] at c2
    cases c2
  | some o =>
    obtain ⟨oc, od, dt, osl⟩ := o
    rw [q] at c2 e
    cases dt with
    | func fd =>
      obtain ⟨n1, n2, n3, n4, n5, n6, n7, n8, n9, n10, n11, n12, n13, n14, n15⟩ := fd
      have e2 : (some (n1, n2, n3, n4, n5, n6, n7.map (fun q => (q.1, 0)), n15) : FnW) = some (d.name, d.qual, d.params, .stmts d.body, d.scope, mainGlobals, d.clo.map fun x => (x, 0), builtinsNs) := e
      simp only [Option.some.injEq, Prod.mk.injEq] at e2
      obtain ⟨h1, h2, h3, h4, h5, h6, h7, h8⟩ := e2
      have h7 := map_zero h7
      rw [hn] at h7
      have h7 := List.map_eq_nil_iff.mp h7
      subst h1 h2 h3 h4 h5 h6 h7 h8
      have c3 : (PySem.W.codeIn K n13 d.qual && (dflB K n8 [] && kwdB K n9 [])) = true := c2
      obtain ⟨k1, k2⟩ := ba c3
      obtain ⟨k3, k4⟩ := ba k2
      exact ⟨_, ⟨oc, od, n8, n9, n10, n11, n12, n13, n14, osl, rfl, q, k1, dflB_ok k3, kwdB_ok k4⟩, kp⟩
    | _ => cases c2
abbrev AlY : Type := Bool × List FnW
def obsY (ex : PySem.W.Frag → Bool) (fn : List DefY) (K : PySem.W.Frag) : AlY := (ex K && fn.all fun d => d.ok K, fn.map fun d => fnA K (d.at_ K))
def valY (fn : List DefY) : AlY := (true, fn.map DefY.val)
def SaysY (ex : PySem.W.Frag → Bool) (fn : List DefY) (K : PySem.W.Frag) : Prop := obsY ex fn K = valY fn
def asY (g : Addr → Option Obj) (n : Nat) : List Addr := asD g n ++ [cStatics]
def obsYG (n : Nat) (ex : PySem.W.Frag → Bool) (fn : List DefY) (g : Addr → Option Obj) : AlY := obsY ex fn (frG g (asY g n))
def hookY (n : Nat) (ex : PySem.W.Frag → Bool) (fn : List DefY) : PySem.W.Hook where
  α := AlY
  obs := fun s => obsYG n ex fn s.heap.get?
  val := fun _ => valY fn
  says := fun _ h => ∃ K : PySem.W.Frag, K.In h ∧ SaysY ex fn K
  of := fun _ _ e => ⟨_, frG_in, e⟩
  keeps := fun _ _ _ ⟨K, hK, c⟩ k => ⟨K, PySem.W.Frag.In.keeps hK k, c⟩
theorem obsYG_eq {n : Nat} {ex : PySem.W.Frag → Bool} {fn : List DefY} {g : Addr → Option Obj} {s : Shared} (h : ∀ a, g a = s.heap.get? a) : obsYG n ex fn g = (hookY n ex fn).obs s := by
  have e : g = s.heap.get? := funext h
  rw [e] <;> rfl
section
variable {ex : PySem.W.Frag → Bool} {fn : List DefY} {K : PySem.W.Frag}
theorem SaysY.more (c : SaysY ex fn K) : ex K = true := (ba (show (ex K && fn.all fun d => d.ok K) = true from congrArg (fun z : AlY => z.1) c)).1
theorem SaysY.at_ (c : SaysY ex fn K) (i : Nat) {d : DefY} (h : fn[i]? = some d := by rfl) : fnA K (d.at_ K) = d.val ∧ d.ok K = true := by
  have c2 := (ba (show (ex K && fn.all fun d => d.ok K) = true from congrArg (fun z : AlY => z.1) c)).2
  have e : fn.map (fun d => fnA K (d.at_ K)) = fn.map DefY.val := congrArg (fun z : AlY => z.2) c
  have e2 : (fn.map fun d => fnA K (d.at_ K))[i]? = (fn.map DefY.val)[i]? := by rw [e]
  rw [List.getElem?_map, List.getElem?_map, h] at e2
  exact ⟨Option.some.inj e2, List.all_eq_true.mp c2 d (List.mem_of_getElem? h)⟩
theorem SaysY.def_ (c : SaysY ex fn K) (i : Nat) {d : DefY} (h : fn[i]? = some d := by rfl) (hn : d.clo = [] := by rfl) : ∃ fd, FunD K d.name d.qual d.params d.body d.scope [] [] (d.at_ K) fd :=
  DefY.funD (c.at_ i h).1 (c.at_ i h).2 hn
end
/-! ### what is asked of the module -/
def faOk (fa : List Fa) (K : PySem.W.Frag) : Bool := fa.all fun f => f.ok K
theorem faOk_get {fa : List Fa} {K : PySem.W.Frag} (h : faOk fa K = true) (i : Nat) {f : Fa} (e : fa[i]? = some f := by rfl) : f.ok K = true := List.all_eq_true.mp h f (List.mem_of_getElem? e)
/-- an own class's def for a special name -/
def ownB (K : PySem.W.Frag) (c n : Str) : Bool := eqO (PySem.W.findIn K (.ref (ga K c)) n) (some (some (.ref (ma K (ga K c) n)))) && PySem.W.isFn K (.ref (ma K (ga K c) n))
theorem ownB_ok {K : PySem.W.Frag} {c n : Str} (h : ownB K c n = true) : OwnM K c n (ma K (ga K c) n) := by
  obtain ⟨h1, h2⟩ := ba h
  exact ⟨eqO_ok h1, h2⟩
/-- a property's getter -/
def prG (K : PySem.W.Frag) (c f : Str) : Addr := match PySem.W.recIn K (ma K (ga K c) f) "property" with
  | some (.ref g :: _) => g
  | _ => 0
def propB (K : PySem.W.Frag) (c f : Str) : Bool := eqO (PySem.W.findIn K (.ref (ga K c)) f) (some (some (.ref (ma K (ga K c) f)))) && (eqO (PySem.W.specialIn K (.ref (ma K (ga K c) f)) "__get__") (some (some (.builtin "property.__get__"))) && (decide (PySem.W.takesIn K (.ref (ma K (ga K c) f)) = some true) &&
  (match PySem.W.recIn K (ma K (ga K c) f) "property" with
  | some (.ref _ :: _) => true
  | _ => false)))
theorem propB_ok {K : PySem.W.Frag} {c f : Str} (h : propB K c f = true) : PropOf K (ga K c) f (ma K (ga K c) f) (prG K c f) := by
  obtain ⟨h1, h⟩ := ba h
  obtain ⟨h2, h⟩ := ba h
  obtain ⟨h3, h4⟩ := ba h
  refine ⟨eqO_ok h1, eqO_ok h2, of_decide_eq_true h3, ?_⟩
  unfold prG
  split at h4
  · rename_i g rest e
    rw [e]
    exact ⟨rest, rfl⟩
  · cases h4
def gAt (x : Str) (K : PySem.W.Frag) : Addr := ga K x
def mAt (c m : Str) (K : PySem.W.Frag) : Addr := ma K (ga K c) m
def pAt (c f : Str) (K : PySem.W.Frag) : Addr := prG K c f
end Y

set_option maxHeartbeats 4000000
/-! Y14: more statements; defs packed. -/
namespace Y
open PySem L2 PySem.Spec PyProof.Rows

section
variable {X : Cx} {W : WX}
/-- repr of a bool, an int -/
def reprD : D → Option XV
  | .bl b => some (.v (.str (if b then "True" else "False")))
  | .int i => if i.natAbs.log2 < 1920 then some (.v (.str (toString i))) else none
  | _ => none
theorem call_repr_bool : CallR X (.builtin "repr") (fun xs H Q => ∃ b : Bool, xs = [.bl b] ∧ Q (.str (if b then "True" else "False")) H) := by
  intro pins s σ H xs us Q I r h
  obtain ⟨b, rfl, q⟩ := h
  obtain ⟨u, rfl, ru⟩ := r.one
  cases (show u = Value.bool b from ru)
  exact PySem.P.repr_of_bool ⟨.str _, H, I.tok _, ⟨_, rfl⟩, q⟩
theorem c_repr : CallR X (.builtin "repr") (rD X.K (f1 reprD)) := by
  intro pins s σ H xs us Q I r q
  obtain ⟨G, la, st, ds, b, rd, w⟩ := q
  cases rd with
  | nil => exact False.elim w
  | cons h1 t =>
    cases t with
    | cons _ _ => exact False.elim w
    | nil =>
      rename_i d
      have e1 : f1 reprD [d] = reprD d := rfl
      rw [e1] at w
      unfold reprD at w
      cases h1 with
      | bl b' => exact call_repr_bool pins s σ H _ us Q I r ⟨b', rfl, Aft.val w b (.str _)⟩
      | int i =>
        dsimp only at w
        by_cases h : i.natAbs.log2 < 1920
        · rw [if_pos h] at w
          exact SkE.call_repr_int pins s σ H _ us Q I r ⟨i, rfl, h, Aft.val w b (.str _)⟩
        · rw [if_neg h] at w
          exact False.elim w
      | _ => exact False.elim w
/-- bool of an int, a bool -/
def boolD : D → Option XV
  | .bl b => some (.v (.bl b))
  | .int i => some (.v (.bl (i != 0)))
  | _ => none
theorem c_bool : CallR X (.type "bool") (rD X.K (f1 boolD)) := call_1 call_bool1 fun G la st x d H Q z b h1 e w => by
  unfold boolD at e
  split at e
  · cases e; cases h1; exact .inr ⟨_, rfl, w.val b (.bl _)⟩
  · cases e; cases h1; exact .inl ⟨_, rfl, w.val b (.bl _)⟩
  · cases e
theorem re_callT {T : String} {x : Str} {p pos : Pos} {e : PySem.Expr} {es : List PySem.Expr} {f : List D → Option XV} {ms : M (List XV)} (hc : CallR X (.type T) (rD X.K f)) (hg : Gl X x) (hm : X.mg x = none) (hv : bootBuiltins x = some (.type T)) (ha : PA X (e :: es) (tA X.K W ms)) (hn : x ≠ "__name__" := by decide) (hdb : (x == ("__debug__" : Str)) = false := by decide)
    (he : starEach (e :: es) X.env = (false, eval e X.env) :: starEach es X.env := by rfl) (hpl : (backTo pos (starEach es X.env)).any (·.1) = false := by rfl) : PE X (.Call (.Name x p) (e :: es) [] pos) (tE X.K W (iPrim f ms)) :=
  peImp (pe_callTy hc hg hm hv ha hn hdb he hpl) fun _ _ _ h => prim_to h
theorem OutX.same {K : PySem.W.Frag} {G G1 Hs H : Hp} {la : List Addr} {env : Env} {σ : L2.St} {v : V} {x : XV} (o : OutX K G la Hs H env σ v x) (h : noN x = true) (s : Same G G1) : OutX K G1 la Hs H env σ v x := by
  cases x with
  | v d => exact Rep.mono s (Pre.refl _) o
  | s i d => exact o
  | n d => cases h
/-- xs.append(e) -/
def appQ (v : D) : D → Option D
  | .lst xs => if xs.length < sizeLine then some (.lst (xs ++ [v])) else none
  | _ => none
def isLst : D → Bool
  | .lst _ => true
  | _ => false
def sApp (mo m : M XV) : MS := fun env st => (mo env st).fl env fun o st1 => flLift (if noN o = true then (o.con st1).bind fun c => if isLst c = true then some o else none else none) fun o => (m env st1).fl env fun x st2 => flLift (valX x) fun v => stF (appQ v) o env st2
theorem rs_app {G0 H0 : Hp} {la0 : List Addr} {o e : PySem.Expr} {m mo : M XV} {apos cpos pos : Pos} (hbm : PE X (.Call (.Attribute o "append" apos) [e] [] cpos) (tBM X.K "list" rAppend (tE X.K W mo) (tCons (tE X.K W m) tNil)))
    (hs : swapsWith (.Call (.Attribute o "append" apos) [e] [] cpos) none pos.line X.env = pure false := by rfl) : PS X (.Expr (.Call (.Attribute o "append" apos) [e] [] cpos) pos) (tS X.K W G0 la0 H0 (sApp mo m)) := by
  refine psImp (ps_expr hbm hs) fun D σ H h => ?_
  obtain ⟨G, la, env, st, f, h⟩ := h
  unfold sApp at h
  refine tE_stmtF f h fun G1 la1 st1 x v H1 p1 f1 o1 w => ?_
  obtain ⟨o', e0, w⟩ := wantS_lift w
  split at e0
  · rename_i hn
    obtain ⟨c, e1, e2⟩ := Option.bind_eq_some_iff.mp e0
    split at e2
    · rename_i hl
      cases e2
      have rd := f1.bd.read o1 e1
      cases c with
      | lst xs =>
        cases rd with
        | lst hx r =>
          refine ⟨.inl ⟨rfl, _, SqL.of hx⟩, ?_⟩
          refine tE_stmtF f1 w fun G2 la2 st2 y u H2 p2 f2 o2 w => ?_
          cases ev : valX y with
          | none => rw [ev] at w; exact False.elim w
          | some dv =>
            obtain ⟨l1, l2⟩ := fr_low f1 p2
            obtain ⟨G3, f3, r3, s3⟩ := OutX.froze f2 o2 l1 l2 ev
            rw [ev] at w
            obtain ⟨_, e3, w⟩ := wantS_lift w
            cases e3
            refine stF_ok f3 ((o1.stepN (Ht := H2) hn p2).same hn s3) (w.mono s3 (Pre.refl _)) fun a d d' ea c2 e4 k => ?_
            unfold appQ at e4
            split at e4
            · split at e4
              · rename_i hlt
                cases e4
                cases c2 with
                | lst h5 r5 => exact ⟨a, _, u, ea, rfl, h5, by rw [r5.length]; exact hlt, k _ (.lst upd_same (r5.app (RepL.one r3)))⟩
              · cases e4
            · cases e4
      | _ => cases hl
    · cases e2
  · cases e0
/-- a, b = [..], [..]: two containers of one's own -/
def sParO (i j : Nat) (m n : M XV) : MS := fun env st => (m env st).fl env fun x st1 => match x with
  | .n (.lst xs) => (n env st1).fl env fun y st2 => match y with
    | .n d => .nx ((env.set i (some (.o (.lst xs)))).set j (some (.o d))) st2
    | _ => .bad
  | _ => .bad
theorem rs_parO {G0 H0 : Hp} {la0 : List Addr} {s : PySem.Stmt} {i j : Nat} {m n : M XV} (hij : i ≠ j) (h : PS X s (tPar i j (tCons (tE X.K W m) (tCons (tE X.K W n) tNil)))) : PS X s (tS X.K W G0 la0 H0 (sParO i j m n)) := by
  refine psImp h fun D σ H h => ?_
  obtain ⟨G, la, env, st, f, h⟩ := h
  unfold sParO at h
  refine tE_stmtF f h fun G1 la1 st1 x v H1 p1 f1 o1 w => ?_
  split at w
  · rename_i xs
    obtain ⟨a, rfl, c1, g1, n1, z1⟩ := o1
    refine tE_stmtF f1 w fun G2 la2 st2 y u H2 p2 f2 o2 w => ?_
    split at w
    · rename_i d
      obtain ⟨b, rfl, c2, g2, n2, z2⟩ := o2
      obtain ⟨l1, l2⟩ := fr_low f p1
      obtain ⟨l3, l4⟩ := fr_low f1 p2
      obtain ⟨c1', g1', n1'⟩ := p2.con c1 g1 n1
      have fa : H0 a = none := l1 a n1 z1
      have fb : H0 b = none := l3 b n2 z2
      have ab : b ≠ a := fun e => by
        obtain ⟨o, ho⟩ := c1.there
        rw [e, ho] at z2
        cases z2
      have q1 := f2.setO i c1' g1' n1' fa fun j e hj h1 h2 => by
        obtain ⟨o, ho⟩ := l2 j e a h1 h2
        rw [z1] at ho
        cases ho
      refine ⟨_, _, rfl, w _ H2 G2 la2 (q1.setO j c2 g2 n2 fb fun k e hk h1 h2 => ?_) (Same.refl _) (Pre.refl _)⟩
      rcases getset h1 with ⟨rfl, hl, q⟩ | ⟨hk2, h1⟩
      · rw [set_get (by rw [← f2.len]; exact hl)] at h2
        cases h2
        exact ab rfl
      · rw [set_ne hk2] at h2
        obtain ⟨o, ho⟩ := l4 k e b h1 h2
        rw [z2] at ho
        cases ho
    · exact False.elim w
  · exact False.elim w
/-- a, b = x, y by a tuple that is laid and taken apart -/
theorem rs_tupV {G0 H0 : Hp} {la0 : List Addr} {s : PySem.Stmt} {i j : Nat} {ms : M (List XV)} (h : PS X s (tAsg (tTup (tA X.K W ms)) (gTup X.K 2 (gCons (gName i) (gCons (gName j) gNil))))) : PS X s (tS X.K W G0 la0 H0 (sPar i j ms)) := by
  refine psImp h fun D σ H h => ?_
  obtain ⟨G, la, env, st, f, h⟩ := h
  unfold sPar at h
  refine tA_stmtF f h fun G1 la1 st1 xs vs H1 p f1 o w => ?_
  cases e : getD xs with
  | none => rw [e] at w; exact False.elim w
  | some ds =>
    rw [e] at w
    have r := o.reps e
    match ds, w, r with
    | [], w, _ => exact False.elim w
    | [_], w, _ => exact False.elim w
    | _ :: _ :: _ :: _, w, _ => exact False.elim w
    | [d, e], w, .cons (v := v1) h1 (.cons (v := v2) h2 .nil) =>
      refine ⟨by rw [PySem.sizeLine_eq]; exact (by decide : 2 ≤ 16777216), fun q hq => ⟨q, _, rfl, SqT.of upd_same, rfl, _, _, rfl, _, _, rfl, rfl, ?_⟩⟩
      have p3 : Post X.K G1 la1 H1 G1 la1 st1 (upd H1 q (.tup [v1, v2])) := Post.new f1.bd.rel hq
      exact w _ _ G1 la1 (((f1.step p3).setV i h1).setV j h2) (Same.refl _) (Pre.refl _)
/-- the same by a tuple that is laid and taken apart -/
theorem rs_tupO {G0 H0 : Hp} {la0 : List Addr} {s : PySem.Stmt} {i j : Nat} {m n : M XV} (hij : i ≠ j) (h : PS X s (tAsg (tTup (tCons (tE X.K W m) (tCons (tE X.K W n) tNil))) (gTup X.K 2 (gCons (gName i) (gCons (gName j) gNil))))) : PS X s (tS X.K W G0 la0 H0 (sParO i j m n)) := by
  refine psImp h fun D σ H h => ?_
  obtain ⟨G, la, env, st, f, h⟩ := h
  unfold sParO at h
  refine tE_stmtF f h fun G1 la1 st1 x v H1 p1 f1 o1 w => ?_
  split at w
  · rename_i xs
    obtain ⟨a, rfl, c1, g1, n1, z1⟩ := o1
    refine tE_stmtF f1 w fun G2 la2 st2 y u H2 p2 f2 o2 w => ?_
    split at w
    · rename_i d
      obtain ⟨b, rfl, c2, g2, n2, z2⟩ := o2
      obtain ⟨l1, l2⟩ := fr_low f p1
      obtain ⟨l3, l4⟩ := fr_low f1 p2
      obtain ⟨c1', g1', n1'⟩ := p2.con c1 g1 n1
      have fa : H0 a = none := l1 a n1 z1
      have fb : H0 b = none := l3 b n2 z2
      have ab : b ≠ a := fun e => by
        obtain ⟨o, ho⟩ := c1.there
        rw [e, ho] at z2
        cases z2
      refine ⟨by rw [PySem.sizeLine_eq]; exact (by decide : 2 ≤ 16777216), fun p hp => ⟨p, _, rfl, SqT.of upd_same, rfl, _, _, rfl, _, _, rfl, rfl, ?_⟩⟩
      have p3 : Post X.K G2 la2 H2 G2 la2 st2 (upd H2 p (.tup [.ref a, .ref b])) := Post.new f2.bd.rel hp
      have f3 := f2.step p3
      obtain ⟨c1'', g1'', n1''⟩ := p3.con c1' g1' n1'
      obtain ⟨c2', g2', n2'⟩ := p3.con c2 g2 n2
      have q1 := f3.setO i c1'' g1'' n1'' fa fun j e hj h1 h2 => by
        obtain ⟨o, ho⟩ := l2 j e a h1 h2
        rw [z1] at ho
        cases ho
      refine w _ _ G2 la2 (q1.setO j c2' g2' n2' fb fun k e hk h1 h2 => ?_) (Same.refl _) (Pre.refl _)
      rcases getset h1 with ⟨rfl, hl, q⟩ | ⟨hk2, h1⟩
      · rw [set_get (by rw [← f2.len]; exact hl)] at h2
        cases h2
        exact ab rfl
      · rw [set_ne hk2] at h2
        obtain ⟨o, ho⟩ := l4 k e b h1 h2
        rw [z2] at ho
        cases ho
    · exact False.elim w
  · exact False.elim w
/-- nothing passes a block -/
theorem takesB {X : Cx} : Takes X W0 := fun u s' ⟨_, _, _, _, _, _, _, _, _, _, _, _, _, _, _, _, h⟩ => False.elim h
end

/-! ### a def, packed -/
structure Def (P : Program) (w : World) (K : PySem.W.Frag) (mg : Str → Option Value) (base : Heap) (k : Nat) (f : Addr) (sp : Sp) : Prop where
  ex : ∃ (fd : FuncData) (ps : List Str), FnOk P w K mg base (L2.CX P w) k f fd ps sp ∧ Binds K fd ps [] ∧ PySem.W.keepIn K (.ref f) = true
section
variable {P : Program} {w : World} {K : PySem.W.Frag} {mg : Str → Option Value} {base : Heap} {x qual : Str} {params : Arguments} {body : List PySem.Stmt} {scope : Scope} {f : Addr} {fd : FuncData} {N ps : List Str} {k n : Nat} {m : MS} {c : Str}
theorem def_pack (F : FunD K x qual params body scope [] [] f fd) (S : FnScope N ps scope) (hn : ps.length = n)
    (hb : ∀ (kV doc pm : Value) (an : Option Addr) (cdv ct : Value) (us : List Value), us.length = ps.length → bindArgs (PySem.W.fnOf x qual params body scope .none kV doc pm an cdv ct) ⟨us, []⟩ = pure (ps.zip us))
    (h : BodyOk P w K mg base N qual scope f k body m) : Def P w K mg base (k + 1) f (spY K n (runF N.length m)) := ⟨fd, ps, def_ok F S hn h, F.bindsN hb, F.kp⟩
theorem init_pack (F : FunD K x qual params body scope [] [] f fd) (S : FnScope N ps scope) (hn : ps.length = n + 1)
    (hb : ∀ (kV doc pm : Value) (an : Option Addr) (cdv ct : Value) (us : List Value), us.length = ps.length → bindArgs (PySem.W.fnOf x qual params body scope .none kV doc pm an cdv ct) ⟨us, []⟩ = pure (ps.zip us))
    (h : BodyOk P w K mg base N qual scope f k body m) : Def P w K mg base (k + 1) f (spMk K c n (initF c N.length m)) := ⟨fd, ps, init_ok F S hn h, F.bindsN hb, F.kp⟩
theorem never_pack {j : Nat} (F : FunD K x qual params body scope [] [] f fd)
    (hb : ∀ (kV doc pm : Value) (an : Option Addr) (cdv ct : Value) (us : List Value), us.length = ps.length → bindArgs (PySem.W.fnOf x qual params body scope .none kV doc pm an cdv ct) ⟨us, []⟩ = pure (ps.zip us)) : Def P w K mg base j f (spY K n fun _ _ => .bad) :=
  ⟨fd, ps, never_ok, F.bindsN hb, F.kp⟩
end
section
variable {X : Cx} {W : WX} {k j n : Nat} {f : Addr} {g : List D → Store → Res XV} {c x : Str} {p pos : Pos} {e a b : PySem.Expr} {es : List PySem.Expr} {ms : M (List XV)} {ma mb m : M XV}
theorem rd_call (d : Def X.prog X.w X.K X.mg X.base j f (spY X.K n g)) (hr : Room k X.A) (hk : j ≤ k) (tk : Takes X W) (hm : X.mg x = some (.ref f)) (ha : PA X (e :: es) (tA X.K W ms)) (hg : Gl X x := by rfl) (hdb : (x == ("__debug__" : Str)) = false := by decide)
    (he : starEach (e :: es) X.env = (false, eval e X.env) :: starEach es X.env := by rfl) (hpl : (backTo pos (starEach es X.env)).any (·.1) = false := by rfl) : PE X (.Call (.Name x p) (e :: es) [] pos) (tE X.K W (iCall n g ms)) := by
  obtain ⟨fd, ps, F, B, kp⟩ := d.ex
  exact re_call F hr hk tk hg hm kp B ha hdb he hpl
theorem rd_make (d : Def X.prog X.w X.K X.mg X.base j f (spMk X.K c n g)) (Mk : L2.Mk X.K (He.ga X.K c) f) (hr : Room k X.A) (hk : j + 1 ≤ k) (hm : X.mg x = some (.ref (He.ga X.K c))) (ha : PA X (e :: es) (tA X.K W ms)) (hg : Gl X x := by rfl) (hdb : (x == ("__debug__" : Str)) = false := by decide)
    (he : starEach (e :: es) X.env = (false, eval e X.env) :: starEach es X.env := by rfl) (hpl : (backTo pos (starEach es X.env)).any (·.1) = false := by rfl) : PE X (.Call (.Name x p) (e :: es) [] pos) (tE X.K W (iMake n g ms)) := by
  obtain ⟨fd, ps, F, B, kp⟩ := d.ex
  exact re_make Mk F hr hk hg hm B ha hdb he hpl
theorem rd_prop {pf : Str} {pa : Addr} (d : Def X.prog X.w X.K X.mg X.base j f (spY X.K 1 g)) (hc : Cls X.K (He.ga X.K c)) (hp : PropOf X.K (He.ga X.K c) pf pa f) (hr : Room k X.A) (hk : j + 1 ≤ k) (ha : PE X a (tE X.K W m)) (hab : attributeBase a pf X.env (eval a X.env) = eval a X.env := by rfl) :
    PE X (.Attribute a pf pos) (tE X.K W (iProp c g m)) := by
  obtain ⟨fd, ps, F, B, kp⟩ := d.ex
  exact re_prop hc hp F hr hk B ha hab
theorem rd_bin {op : Operator} (d : Def X.prog X.w X.K X.mg X.base j f (spY X.K 2 g)) (hc : PySem.W.selfFirst X.K (He.ga X.K c) = true) (hs : OwnM X.K c (PySem.dunder op.info.2) f) (hr : Room k X.A) (hk : j ≤ k) (ha : PE X a (tE X.K W ma)) (he : PE X b (tE X.K W mb)) :
    PE X (.BinOp a op b pos) (tE X.K W (iOb2 c g (evCons ma (evCons mb evNil)))) := by
  obtain ⟨fd, ps, F, B, kp⟩ := d.ex
  exact re_binO hc hs F hr hk B ha he
theorem rd_eqV {ow : List Str} {T : NfT} (d : Def X.prog X.w X.K X.mg X.base j f (spY X.K 2 g)) (ho : ow.all (insB X.K) = true) (hT : NfT.ok X.K c T = true) (hs : OwnM X.K c "__eq__" f) (hr : Room k X.A) (hk : j ≤ k) (ha : PE X a (tE X.K W ma)) (he : PE X b (tE X.K W mb)) :
    PE X (.Compare a [.Eq] [b] pos) (tE X.K W (iObE ow T c g (evCons ma (evCons mb evNil)))) := by
  obtain ⟨fd, ps, F, B, kp⟩ := d.ex
  exact re_cmpO ho hT (fun _ _ => rfl) hs F hr hk B ha he (nomark _)
theorem rd_eqT {ow : List Str} {T : NfT} (d : Def X.prog X.w X.K X.mg X.base j f (spY X.K 2 g)) (ho : ow.all (insB X.K) = true) (hT : NfT.ok X.K c T = true) (hs : OwnM X.K c "__eq__" f) (hr : Room k X.A) (hk : j ≤ k) (ha : PE X a (tE X.K W ma)) (he : PE X b (tE X.K W mb)) :
    PT X (.Compare a [.Eq] [b] pos) (tT X.K W (iBoo (iObE ow T c g (evCons ma (evCons mb evNil))))) := by
  obtain ⟨fd, ps, F, B, kp⟩ := d.ex
  exact rt_cmpO ho hT (fun _ _ => rfl) hs F hr hk B ha he (nomark _)
theorem rd_repr (d : Def X.prog X.w X.K X.mg X.base j f (spY X.K 1 g)) (hs : OwnM X.K c "__repr__" f) (hr : Room k X.A) (hk : j + 1 ≤ k) (hm : X.mg "repr" = none) (ha : PE X a (tE X.K W m)) (hg : Gl X "repr" := by rfl)
    (h1 : starEach (a :: []) X.env = (false, eval a X.env) :: starEach [] X.env := by rfl) (hpl : (backTo pos (starEach [] X.env)).any (·.1) = false := by rfl) : PE X (.Call (.Name "repr" p) [a] [] pos) (tE X.K W (iOb1 c isS g (evCons m evNil))) := by
  obtain ⟨fd, ps, F, B, kp⟩ := d.ex
  exact re_reprO hs F hr hk B hg hm ha h1 hpl
theorem rd_bool (d : Def X.prog X.w X.K X.mg X.base j f (spY X.K 1 g)) (hs : OwnM X.K c "__bool__" f) (hr : Room k X.A) (hk : j + 2 ≤ k) (hm : X.mg "bool" = none) (ha : PE X a (tE X.K W m)) (hg : Gl X "bool" := by rfl)
    (h1 : starEach (a :: []) X.env = (false, eval a X.env) :: starEach [] X.env := by rfl) (hpl : (backTo pos (starEach [] X.env)).any (·.1) = false := by rfl) : PE X (.Call (.Name "bool" p) [a] [] pos) (tE X.K W (iOb1 c isBl g (evCons m evNil))) := by
  obtain ⟨fd, ps, F, B, kp⟩ := d.ex
  exact re_boolO hs F hr hk B hg hm ha h1 hpl
/-- o.m(e, ..): a method of an own class -/
def iMt (c mn : Str) (n : Nat) (g : List D → Store → Res XV) (m : M XV) (ms : M (List XV)) : M XV := fun env st => (m env st).bind fun x st1 => match x.fz with
  | .v (.obj c' fs vs) => if c' = c ∧ valD fs vs mn = none then (ms env st1).bind fun xs st2 => match getD xs with
    | some ds => if ds.length + 1 = n then noEx (g (.obj c' fs vs :: ds) st2) else .bad
    | none => .bad else .bad
  | _ => .bad
theorem lookup_none {f : Str} : ∀ {fvs : List (Str × V)} {ds : List D} {K : PySem.W.Frag} {G : Hp} {la : List Addr}, RepL K G la (fvs.map (·.2)) ds → valD (fvs.map (·.1)) ds f = none → fvs.lookup f = none
  | [], _, _, _, _, h, e => rfl
  | (g, v) :: r, _, K, G, la, .cons (d := d1) (ds := ds) h t, e => by
    have e : (if g = f then some d1 else valD (r.map (·.1)) ds f) = none := e
    by_cases q : g = f
    · rw [if_pos q] at e
      cases e
    · rw [if_neg q] at e
      have z : (f == g) = false := by simpa using fun q2 => q q2.symm
      simp [List.lookup, z, lookup_none t e]
theorem mt_to {K : PySem.W.Frag} {mn : Str} {σ : L2.St} {H : Hp} {Q : VK} {E : XK} (h : tE K W (iMt c mn n g m ms) σ H Q) : tMeth (He.ga K c) mn (spY K n g) [] E (tE K W m) (tA K W ms) σ H Q := by
  refine tE_bind (k := fun x env st1 => match x.fz with
  | .v (.obj c' fs vs) => if c' = c ∧ valD fs vs mn = none then (ms env st1).bind fun xs st2 => match getD xs with
    | some ds => if ds.length + 1 = n then noEx (g (.obj c' fs vs :: ds) st2) else .bad
    | none => .bad else .bad
  | _ => .bad) (O := fun env => OE K env σ) backE h fun G la env st x v H1 b o w => ?_
  cases ex : x.fz with
  | n d => rw [ex] at w; exact False.elim w
  | s i d => rw [ex] at w; exact False.elim w
  | v d =>
    rw [ex] at w o
    cases d with
    | obj c' fs vs =>
      dsimp only at w
      by_cases hcc : c' = c ∧ valD fs vs mn = none
      · rw [if_pos hcc] at w
        obtain ⟨hc1, hc2⟩ := hcc
        subst hc1
        have o : Rep K G la v (.obj c' fs vs) := o
        have o2 := o
        cases o with
        | obj h1 q r =>
          rcases b.rel.sub _ _ h1 with h2 | ⟨h2, _⟩
          · refine ⟨_, _, _, rfl, h2, lookup_none r (by rw [q]; exact hc2), ?_⟩
            refine ⟨G, la, env, st, b, ?_⟩
            cases em : ms env st with
            | bad => rw [em] at w; exact w
            | ex _ _ _ => rw [em] at w; exact w
            | ok xs st2 =>
              rw [em] at w
              intro us H2 G2 la2 p2 ol
              have w : Want K W (OE K env σ) G la H1 σ Q (match getD xs with
                | some ds => if ds.length + 1 = n then noEx (g (.obj c' fs vs :: ds) st2) else .bad
                | none => .bad) := w
              cases ed : getD xs with
              | none => rw [ed] at w; exact w.elim
              | some ds =>
                rw [ed] at w
                dsimp only at w
                by_cases hn : ds.length + 1 = n
                · rw [if_pos hn] at w
                  refine ⟨G2, la2, st2, .obj c' fs vs :: ds, hn, p2.rel, .cons (o2.mono p2.same p2.pre) (by rw [List.append_nil]; exact OutL.reps ol ed), ?_⟩
                  cases eg : g (.obj c' fs vs :: ds) st2 with
                  | bad => rw [eg] at w; exact w
                  | ex _ _ _ => rw [eg] at w; exact w.elim
                  | ok z st3 =>
                    rw [eg] at w
                    intro v' H' G' la' pp oz
                    refine w v' H' G' la' (p2.trans pp) ?_
                    cases z with
                    | v d => exact oz
                    | s i d => exact oz.elim
                    | n d =>
                      obtain ⟨a, e1, c1, g1, n1, z1⟩ := oz
                      exact ⟨a, e1, c1, g1, n1, fresh_back p2 pp.pre n1 z1⟩
                · rw [if_neg hn] at w
                  exact w.elim
          · cases h2
      · rw [if_neg hcc] at w
        exact False.elim w
    | _ => exact False.elim w
theorem rd_meth {mn : Str} {o : PySem.Expr} {apos : Pos} {pl : Sem Bool} (d : Def X.prog X.w X.K X.mg X.base j f (spY X.K n g)) (hc : Cls X.K (He.ga X.K c)) (hm : Meth X.K (He.ga X.K c) mn f) (hr : Room k X.A) (hk : j ≤ k) (ho : PE X o (tE X.K W m)) (ha : PA X (e :: es) (tA X.K W ms))
    (hst : starEach (e :: es) X.env = (false, eval e X.env) :: starEach es X.env := by rfl) (hpl : (backTo pos (starEach es X.env)).any (·.1) = false := by rfl)
    (ht : eval (.Call (.Attribute o mn apos) (e :: es) [] pos) X.env = (do
      let ov ← eval o X.env
      standAt apos.atName
      let (f, first) ← holding [ov] (getMethod ov mn pl)
      callWith pos f first (backTo pos (starEach (e :: es) X.env)) (backToKw pos (keywordEach [] X.env))) := by rfl) : PE X (.Call (.Attribute o mn apos) (e :: es) [] pos) (tE X.K W (iMt c mn n g m ms)) := by
  obtain ⟨fd, ps, F, B, kp⟩ := d.ex
  have hx : Passes (L2.CX X.prog X.w) X EN := fun _ _ _ _ _ _ _ ⟨_, _, _, _, _, _, _, _, _, _, _, _, h⟩ => h.elim
  exact peImp (pe_meth (dvs := []) (ds := []) (E := EN) ho hc hm F (hr.mono hk) B .nil hx ha hst hpl ht) fun _ _ _ h => mt_to h
end
end Y

set_option maxHeartbeats 4000000
/-! Y15: own errors whose __init__ says super().__init__('..') and keeps one field. -/
namespace Y
open PySem L2 PySem.Spec PyProof.Rows
open PySem.W (Frag)

/-- what the written part says of an error class at C (below ValueError), of its __init__ at fI -/
structure SxC (prog : Program) (K : Frag) (C fI cc cda : Addr) (qual : Str) (params : Arguments) (body : List PySem.Stmt) (scope : Scope) : Prop where
  cls : ∃ nm q N bs bm sn sub ab col dd k0 k1 k2 k3 k5, K.lookup C = some (excClassObj nm q C N bs bm true sn sub ab col dd k0 k1 k2 k3 k5 "ValueError.__new__") ∧ PySem.HandSPX.refsVE bm = true
  sa : PySem.W.findIn K (.ref C) "__setattr__" = some (some (.builtin "object.__setattr__"))
  iC : PySem.W.findIn K (.ref C) "__init__" = some (some (.ref fI))
  tI : PySem.W.typeIn K (.ref fI) = some (.type "function")
  kC : PySem.W.keepIn K (.ref C) = true
  exC : PySem.W.subIn K (.ref C) (.type "BaseException") = some true
  tyC : PySem.W.typeIn K (.ref C) = some (.type "type")
  sup : PySem.W.ks_superIn K C C "__init__" = some (some (.builtin "ValueError.__init__"))
  ve : PySem.W.subIn K (.ref C) (.type "ValueError") = some true
  self_ : PySem.W.mroIn K C (.ref C) = some true
  op : PySem.W.nsIn K PySem.cStatics "thirdparty.any" = some none
  fn : ∃ (oc : Value) (od : Option Addr) (kV doc pm : Value) (an : Option Addr) (ct : Value) (osl : Array (Option Value)), K.lookup fI = some ⟨oc, od, .func (PySem.W.fnX "__init__" qual params body scope [("__class__", cc)] .none kV doc pm an (.ref cda) ct), osl⟩
  hcd : PySem.W.codeIn K (.ref cda) qual = true
  code : ∃ (ccl : Value) (cdd : Option Addr) (vs : Array Value) (ccs : Array (Option Value)) (file : Str) (tf : Tok), K.lookup cda = some ⟨ccl, cdd, .fields vs, ccs⟩ ∧ vs[2]? = some (.str file tf) ∧ ((prog.main.file : Str) == file) = true
  cell : ∃ (cl : Value) (cld : Option Addr) (csl : Array (Option Value)), K.lookup cc = some ⟨cl, cld, .cell (some (.ref C)), csl⟩
  top : (prog.main.scope.names.lookup ("super" : Str)).isSome = false
section
variable {prog : Program} {w : World} {A : Around} {E : Value → Shared → Prop} {R : Result → Shared → Prop} {K : Frag} {C fI cc cda : Addr} {qual : Str} {params : Arguments} {body : List PySem.Stmt} {scope : Scope}
theorem SxC.clsIn (T : SxC prog K C fI cc cda qual params body scope) : ∃ cd, PySem.W.clsIn K C = some cd ∧ PySem.HandSPX.refsVE cd.mro = true ∧ cd.hasDict = true := by
  obtain ⟨nm, q, N, bs, bm, sn, sub, ab, col, dd, k0, k1, k2, k3, k5, hC, hbm⟩ := T.cls
  exact ⟨{ name := nm, bases := bs, mro := .ref C :: bm, ns := N, qualname := q, hasDict := true, slotNames := sn, subclasses := sub, abstract := ab, collection := col, hasDel := false }, by unfold PySem.W.clsIn; rw [hC] <;> rfl, hbm, rfl⟩
/-- super().__init__('m'), self a fresh error -/
theorem sx_super {pl : Sem Bool} {h : Heap} {g : Array GenState} {d : Drawn} {t : Nat} {os : OsState} {L x t0 : Addr} {mm mg mb : Str → Option Value} {m : Str} {j : Nat} {p0 p1 p2 p3 p4 p5 : Pos} {ar : Arg} {Q : Flow → Shared → Prop} (T : SxC prog K C fI cc cda qual params body scope) (X : K.In h)
    (hp : (params.posonlyargs ++ params.args).head? = some ar) (har : ar.arg = "self") (hk : scope.kind = .function) (hks : scope.names.lookup ("super" : Str) = some .globalImplicit) (hkc : scope.names.lookup ("__class__" : Str) = some .free) (hka : scope.names.lookup ("self" : Str) = some .local)
    (hns : h.Ns L mm) (hself : mm "self" = some (.ref x)) (hx : h.get? x = some (PySem.W.excObj C t0 none .none)) (hG : h.Ns mainGlobals mg) (hg0 : mg "super" = none) (hB : h.Ns builtinsNs mb) (hb0 : mb "super" = some (.type "super"))
    (hq : ∀ h' tk t1, (∀ b o, b ≠ x → h.get? b = some o → h'.get? b = some o) → h'.get? x = some (PySem.W.excObj C t1 none .none) → Q .next ⟨h', g, d, tk, os⟩)
    (he : eval (.Call (.Attribute (.Call (.Name "super" p0) [] [] p1) "__init__" p2) [.Constant (.str m) j p3] [] p4) (PySem.W.envX qual scope L fI (.ref cda) [("__class__", cc)]) = (do
      let ov ← attributeBase (.Call (.Name "super" p0) [] [] p1) "__init__" (PySem.W.envX qual scope L fI (.ref cda) [("__class__", cc)]) (eval (.Call (.Name "super" p0) [] [] p1) (PySem.W.envX qual scope L fI (.ref cda) [("__class__", cc)]))
      standAt p2.atName
      let (f, first) ← holding [ov] (getMethod ov "__init__" pl)
      callWith p4 f first (backTo p4 (starEach [.Constant (.str m) j p3] (PySem.W.envX qual scope L fI (.ref cda) [("__class__", cc)]))) []))
    (hi : interactive (PySem.W.envX qual scope L fI (.ref cda) [("__class__", cc)]) = false)
    (hsw : swapsWith (.Call (.Attribute (.Call (.Name "super" p0) [] [] p1) "__init__" p2) [.Constant (.str m) j p3] [] p4) none p5.line (PySem.W.envX qual scope L fI (.ref cda) [("__class__", cc)]) = pure false) :
    _root_.PySem.wpAt (model prog w) A (.func body (PySem.W.envX qual scope L fI (.ref cda) [("__class__", cc)])) (exec (.Expr (.Call (.Attribute (.Call (.Name "super" p0) [] [] p1) "__init__" p2) [.Constant (.str m) j p3] [] p4) p5) (PySem.W.envX qual scope L fI (.ref cda) [("__class__", cc)])) Q E ⟨h, g, d, t, os⟩ := by
  obtain ⟨cd, hcl, hmv, hhd⟩ := T.clsIn
  obtain ⟨oc, od, kV, doc, pm, an, ct, osl, hf⟩ := T.fn
  obtain ⟨ccl, cdd, vs, ccs, file, tf, hcode, hvs, hfile⟩ := T.code
  obtain ⟨cl, cld, csl, hcell⟩ := T.cell
  obtain ⟨oD, hD1, hD2⟩ : ∃ oD, h.get? C = some oD ∧ oD.data = .cls cd := by
    have hD := hcl
    unfold PySem.W.clsIn at hD
    split at hD
    · rename_i c d' cd' sl ho
      cases hD
      exact ⟨_, X _ _ ho, rfl⟩
    · cases hD
  refine PySem.ks_wpAt_Expr_any (PySem.ks_wpAt_MethodCall (pl := pl) ?_ he) hi hsw
  refine PySem.ks_wpAt_super_base (env := PySem.W.envX qual scope L fI (.ref cda) [("__class__", cc)]) hks hkc (by decide) rfl (X _ _ hf) rfl hp rfl (X _ _ hcode) rfl hvs hfile T.top ?_
  refine PySem.W.ks_loadName_global hk hks (Calls.loadGlobal_builtin (env := PySem.W.envX qual scope L fI (.ref cda) [("__class__", cc)]) hG hg0 hB hb0 ⟨rfl, ?_⟩)
  refine wpAny_loadName_free hk hkc rfl ⟨_, X _ _ hcell, rfl⟩ ?_
  rw [har]
  refine wpAny_loadName_local hk hka hns hself ?_
  refine PySem.ks_wpAny_isType_cls hD1 hD2 ⟨rfl, ?_⟩
  refine PySem.ks_wpAny_call_super hD1 hD2 hx rfl (fun c e => by cases e) (PySem.W.looks_mroIn X T.self_) (fun h1 e1 k1 => ?_)
  have X1 : K.In h1 := X.keeps k1
  have I1 : PySem.W.InstAt h1 x (PySem.W.excObj C t0 none .none) C none := ⟨k1 _ _ hx, rfl, rfl, trivial⟩
  have hI : PySem.W.Looks (model prog w) h1 (isInstance (.ref x) (.type "ValueError")) true := I1.type.andThen (PySem.W.looks_subIn X1 T.ve)
  have hal := T.sup
  unfold PySem.W.ks_superIn at hal
  rw [hcl] at hal
  refine PySem.W.kxs_getMethod PySem.W.kxs_ValueError e1 (PySem.W.looks_opaque X1 T.op) (l₀ := cd.mro) (fun A Q E s k q => wpAny_bind ((PySem.W.looks_clsIn X1 hcl) A _ E s k (wpAny_pure q))) rfl X1 hal hI (PySem.W.ks_ne X1 I1 hcl) (by decide) ?_
  refine PySem.W.kxs_callWith (i := "ValueError.__init__") (x := x) rfl (PySem.Calls.evalArgs_plain (PySem.Calls.spliced_cons ?_))
  rw [if_neg Bool.false_ne_true]
  refine PySem.Calls.Constant_str (PySem.Calls.spliced_nil ⟨Heap.get?_push_size _ rfl, ?_⟩)
  have hu : (h1.push (PySem.W.kxs_mw "ValueError.__init__" x)).get? h1.objs.size = some (PySem.W.kxs_mw "ValueError.__init__" x) := Heap.get?_push_size _ rfl
  have k2 : ∀ b o, h1.get? b = some o → (h1.push (PySem.W.kxs_mw "ValueError.__init__" x)).get? b = some o := fun b o e => Heap.get?_push_of_some _ e
  have hx2 := k2 _ _ (k1 _ _ hx)
  obtain ⟨nm, q, N, bs, bm, sn, sub, ab, col, dd, k0, k1', k2', k3, k5, hC, hbm⟩ := T.cls
  have FB := PySem.F.excBase_ValueError
  refine wpAny_call (codeAny_of_tree ?_)
  show wpAny _ A.in1 (callAny (.ref h1.objs.size) ⟨[.str m (t + 1)], []⟩) _ _ _
  simp only [callAny]
  refine wpAny_bind (wpAny_load hu ?_)
  simp only [PySem.W.kxs_mw, show (Value.type "method-wrapper" == Value.type "method" || Value.type "method-wrapper" == Value.type "builtin_function_or_method" || Value.type "method-wrapper" == Value.type "method-wrapper") = true by decide, if_true]
  refine PySem.W.KFB.if_so (by decide) ?_
  refine wpAny_bind (PySem.W.check_bound_init FB.toExcCallFacts (k2 _ _ (X1 _ _ hC)) hx2 rfl ?_)
  refine wpAny_bind (wpAny_pure (wpAny_pure ?_))
  refine ⟨plainId_quiet FB.init.plain _, codeAny_builtin FB.initEntry ?_⟩
  refine PySem.W.exc_init_tree (cls := .ref C) (t0 := t0) (dv := none) (c2 := .none) (c3 := .none) (b4 := .bool false) hx2 (by rw [PySem.sizeLine_eq]; exact (by decide : 1 ≤ 16777216)) fun h' k3' e' t' => ?_
  exact hq h' _ _ (fun b o hb e => k3' b o hb (k2 b o (k1 b o e))) e'
abbrev supSt (m : Str) (j : Nat) (p0 p1 p2 p3 p4 p5 : Pos) : PySem.Stmt := .Expr (.Call (.Attribute (.Call (.Name "super" p0) [] [] p1) "__init__" p2) [.Constant (.str m) j p3] [] p4) p5
abbrev keepSt (f : Str) (q1 q2 q3 q4 : Pos) : PySem.Stmt := .Assign [.Attribute (.Name "self" q1) f q2] (.Name f q3) q4
/-- what the walk of __init__ asks of the text: by rfl, by decide at a given def -/
structure SxT (params : Arguments) (scope : Scope) (body : List PySem.Stmt) (qual : Str) (m : Str) (j : Nat) (p0 p1 p2 p3 p4 p5 : Pos) : Prop where
  par : ∃ ar, (params.posonlyargs ++ params.args).head? = some ar ∧ ar.arg = "self"
  kind : scope.kind = .function
  co : scope.isCoroutine = false
  gen : scope.isGenerator = false
  ks : scope.names.lookup ("super" : Str) = some .globalImplicit
  kc : scope.names.lookup ("__class__" : Str) = some .free
  ka : scope.names.lookup ("self" : Str) = some .local
  nocell : ∀ x ∈ scope.names, x.2 ≠ .cell
  ev : ∀ (L fI cc cda : Addr), ∃ pl : Sem Bool, eval (.Call (.Attribute (.Call (.Name "super" p0) [] [] p1) "__init__" p2) [.Constant (.str m) j p3] [] p4) (PySem.W.envX qual scope L fI (.ref cda) [("__class__", cc)]) = (do
      let ov ← attributeBase (.Call (.Name "super" p0) [] [] p1) "__init__" (PySem.W.envX qual scope L fI (.ref cda) [("__class__", cc)]) (eval (.Call (.Name "super" p0) [] [] p1) (PySem.W.envX qual scope L fI (.ref cda) [("__class__", cc)]))
      standAt p2.atName
      let (f, first) ← holding [ov] (getMethod ov "__init__" pl)
      callWith p4 f first (backTo p4 (starEach [.Constant (.str m) j p3] (PySem.W.envX qual scope L fI (.ref cda) [("__class__", cc)]))) [])
  int : ∀ (L fI cc cda : Addr), interactive (PySem.W.envX qual scope L fI (.ref cda) [("__class__", cc)]) = false
  sw : ∀ (L fI cc cda : Addr), swapsWith (.Call (.Attribute (.Call (.Name "super" p0) [] [] p1) "__init__" p2) [.Constant (.str m) j p3] [] p4) none p5.line (PySem.W.envX qual scope L fI (.ref cda) [("__class__", cc)]) = pure false
theorem ns_but {h h' : Heap} {L x : Addr} {mm : Str → Option Value} (n : h.Ns L mm) (hx : L ≠ x) (k : ∀ b o, b ≠ x → h.get? b = some o → h'.get? b = some o) : h'.Ns L mm := by
  obtain ⟨oL, es, ep, hL, r⟩ := n
  exact ⟨oL, es, ep, k _ _ hx hL, r⟩
theorem in_but {h h' : Heap} {x : Addr} (X : K.In h) (hx : K.lookup x = none) (k : ∀ b o, b ≠ x → h.get? b = some o → h'.get? b = some o) : K.In h' := fun a o e =>
  k a o (fun z => by rw [z, hx] at e; cases e) (X a o e)
/-- __init__(self, f) -/
theorem sx_init1 {s : Shared} {x t0 : Addr} {v : Value} {f m : Str} {j : Nat} {p0 p1 p2 p3 p4 p5 q1 q2 q3 q4 : Pos} {mg mb : Str → Option Value} (T : SxC prog K C fI cc cda qual params [supSt m j p0 p1 p2 p3 p4 p5, keepSt f q1 q2 q3 q4] scope) (U : SxT params scope [supSt m j p0 p1 p2 p3 p4 p5, keepSt f q1 q2 q3 q4] qual m j p0 p1 p2 p3 p4 p5)
    (hkf : scope.names.lookup f = some .local) (hfs : f ≠ "self") (hfd : (f == ("__debug__" : Str)) = false) (hno : PySem.W.findIn K (.ref C) f = some none)
    (hbind : ∀ (kV doc pm : Value) (an : Option Addr) (ct : Value), bindArgs (PySem.W.fnX "__init__" qual params [supSt m j p0 p1 p2 p3 p4 p5, keepSt f q1 q2 q3 q4] scope [("__class__", cc)] .none kV doc pm an (.ref cda) ct) ⟨[.ref x, v], []⟩ = pure [(("self" : Str), .ref x), (f, v)])
    (hsw2 : ∀ L, swapsWith (.Name f q3) (some (.Attribute (.Name "self" q1) f q2)) q4.line (PySem.W.envX qual scope L fI (.ref cda) [("__class__", cc)]) = pure false)
    (X : K.In s.heap) (hlim : s.heap.NoLimit) (hx : s.heap.get? x = some (PySem.W.excObj C t0 none .none)) (hnx : K.lookup x = none) (hroom : A.depth < recursionLimit) (hG : s.heap.Ns mainGlobals mg) (hg0 : mg "super" = none) (hB : s.heap.Ns builtinsNs mb) (hb0 : mb "super" = some (.type "super")) (hxg : mainGlobals ≠ x) (hxb : builtinsNs ≠ x)
    (hq : ∀ h' tk dx t1, (∀ b o, b ≠ x → s.heap.get? b = some o → h'.get? b = some o) → h'.get? x = some (PySem.W.excObj C t1 (some dx) .none) → s.heap.objs.size ≤ dx → dx ≠ x → h'.Ns1 dx (fun y => if y = f then some v else none) → R (.ok (.ret .none)) { s with heap := h', toks := tk }) :
    codeAny (model prog w) A (.call (.ref fI) ⟨[.ref x, v], []⟩) R s := by
  obtain ⟨oc, od, kV, doc, pm, an, ct, osl, hf⟩ := T.fn
  obtain ⟨ar, hp, har⟩ := U.par
  obtain ⟨cd, hcl, hmv, hhd⟩ := T.clsIn
  refine PySem.ks_codeAny_call_defAt (fd := PySem.W.fnX "__init__" qual params [supSt m j p0 p1 p2 p3 p4 p5, keepSt f q1 q2 q3 q4] scope [("__class__", cc)] .none kV doc pm an (.ref cda) ct) (binds := [(("self" : Str), .ref x), (f, v)]) hroom (X _ _ hf) rfl hlim (PySem.W.codeRec_of X T.hcd) rfl
    (BindsTo.of_eq (hbind kV doc pm an ct)) U.nocell (fun y hy => ?_) (fun h₁ hns k₁ => ?_) U.co U.gen U.kind
  · rcases List.mem_cons.mp hy with rfl | hy
    · exact U.ka
    · rcases List.mem_cons.mp hy with rfl | hy
      · exact hkf
      · cases hy
  have hL : s.heap.objs.size ≠ x := Nat.ne_of_gt (Heap.lt_size hx)
  have X₁ : K.In h₁ := X.keeps k₁
  obtain ⟨pl, hev⟩ := U.ev s.heap.objs.size fI cc cda
  have hself : (fun y => ([(("self" : Str), Value.ref x), (f, v)] : List (Str × Value)).reverse.lookup y) ("self" : Str) = some (.ref x) := by
    have e : (("self" : Str) == f) = false := by simpa using fun q => hfs q.symm
    simp [List.lookup, e]
  have hfv : (fun y => ([(("self" : Str), Value.ref x), (f, v)] : List (Str × Value)).reverse.lookup y) f = some v := by simp [List.lookup]
  refine PySem.ks_wpAt_execs_cons (sx_super (pl := pl) T X₁ hp har U.kind U.ks U.kc U.ka hns hself (k₁ _ _ hx) (hG.keeps k₁) hg0 (hB.keeps k₁) hb0 (fun h₂ tk₂ t1 k₂ hx₂ => ?_) hev (U.int _ _ _ _) (U.sw _ _ _ _))
  have X₂ : K.In h₂ := in_but X₁ hnx k₂
  have hns₂ := ns_but hns hL k₂
  refine PySem.ks_wpAt_execs_cons (PySem.ks_wpAt_Assign_Attr (wpAt_of_wpAny (wpAny_Name (wpAny_loadName_local U.kind hkf hns₂ hfv (wpAny_Name (wpAny_loadName_local U.kind U.ka hns₂ hself ?_) (by decide))) hfd)) (hsw2 _))
  refine PySem.W.set_plain X₂ (ox := PySem.W.excObj C t1 none .none) (od := none) ⟨hx₂, rfl, rfl, trivial⟩ T.sa ?_
  refine PySem.HandSPX.exc_osa X₂ hx₂ hcl hmv hhd hno (fun h₃ tk₃ dx k₃ dn dne hx₃ hn₃ => ?_)
  refine wpAt_of_wpAny (wpAny_execs_nil ?_)
  have z1 : s.heap.objs.size < h₂.objs.size := by
    obtain ⟨oL, es, ep, hL2, _⟩ := hns₂
    exact Heap.lt_size hL2
  exact hq h₃ tk₃ dx t1 (fun b o hb e => k₃ b o hb (k₂ b o hb (k₁ b o e))) hx₃ (Nat.le_of_lt (Nat.lt_of_lt_of_le z1 dn)) dne hn₃
/-- __init__(self) -/
theorem sx_init0 {s : Shared} {x t0 : Addr} {m : Str} {j : Nat} {p0 p1 p2 p3 p4 p5 : Pos} {mg mb : Str → Option Value} (T : SxC prog K C fI cc cda qual params [supSt m j p0 p1 p2 p3 p4 p5] scope) (U : SxT params scope [supSt m j p0 p1 p2 p3 p4 p5] qual m j p0 p1 p2 p3 p4 p5)
    (hbind : ∀ (kV doc pm : Value) (an : Option Addr) (ct : Value), bindArgs (PySem.W.fnX "__init__" qual params [supSt m j p0 p1 p2 p3 p4 p5] scope [("__class__", cc)] .none kV doc pm an (.ref cda) ct) ⟨[.ref x], []⟩ = pure [(("self" : Str), .ref x)])
    (X : K.In s.heap) (hlim : s.heap.NoLimit) (hx : s.heap.get? x = some (PySem.W.excObj C t0 none .none)) (hroom : A.depth < recursionLimit) (hG : s.heap.Ns mainGlobals mg) (hg0 : mg "super" = none) (hB : s.heap.Ns builtinsNs mb) (hb0 : mb "super" = some (.type "super"))
    (hq : ∀ h' tk t1, (∀ b o, b ≠ x → s.heap.get? b = some o → h'.get? b = some o) → h'.get? x = some (PySem.W.excObj C t1 none .none) → R (.ok (.ret .none)) { s with heap := h', toks := tk }) :
    codeAny (model prog w) A (.call (.ref fI) ⟨[.ref x], []⟩) R s := by
  obtain ⟨oc, od, kV, doc, pm, an, ct, osl, hf⟩ := T.fn
  obtain ⟨ar, hp, har⟩ := U.par
  refine PySem.ks_codeAny_call_defAt (fd := PySem.W.fnX "__init__" qual params [supSt m j p0 p1 p2 p3 p4 p5] scope [("__class__", cc)] .none kV doc pm an (.ref cda) ct) (binds := [(("self" : Str), .ref x)]) hroom (X _ _ hf) rfl hlim (PySem.W.codeRec_of X T.hcd) rfl
    (BindsTo.of_eq (hbind kV doc pm an ct)) U.nocell (fun y hy => ?_) (fun h₁ hns k₁ => ?_) U.co U.gen U.kind
  · rcases List.mem_cons.mp hy with rfl | hy
    · exact U.ka
    · cases hy
  have X₁ : K.In h₁ := X.keeps k₁
  obtain ⟨pl, hev⟩ := U.ev s.heap.objs.size fI cc cda
  have hself : (fun y => ([(("self" : Str), Value.ref x)] : List (Str × Value)).reverse.lookup y) ("self" : Str) = some (.ref x) := by simp [List.lookup]
  refine PySem.ks_wpAt_execs_cons (sx_super (pl := pl) T X₁ hp har U.kind U.ks U.kc U.ka hns hself (k₁ _ _ hx) (hG.keeps k₁) hg0 (hB.keeps k₁) hb0 (fun h₂ tk₂ t1 k₂ hx₂ => ?_) hev (U.int _ _ _ _) (U.sw _ _ _ _))
  refine wpAt_of_wpAny (wpAny_execs_nil ?_)
  exact hq h₂ tk₂ t1 (fun b o hb e => k₂ b o hb (k₁ b o e)) hx₂
/-- a made error: d its dict, if it keeps a field -/
structure SxMade (h h' : Heap) (e C : Addr) (d : Option Addr) (fv : List (Str × Value)) : Prop where
  keep : ∀ b o, h.get? b = some o → h'.get? b = some o
  new : h.objs.size ≤ e
  obj : ∃ t1, h'.get? e = some (PySem.W.excObj C t1 d .none)
  dict : (d = none ∧ fv = []) ∨ ∃ dd f v, d = some dd ∧ fv = [(f, v)] ∧ h.objs.size ≤ dd ∧ dd ≠ e ∧ h'.Ns1 dd (fun y => if y = f then some v else none)
theorem excO_eq {C t : Addr} : PySem.HandSPX.excO C t = PySem.W.excObj C t none .none := rfl
theorem lookup_new {h : Heap} {a : Addr} (X : K.In h) (ha : h.objs.size ≤ a) : K.lookup a = none := by
  cases e : K.lookup a with
  | none => rfl
  | some o => exact absurd (Heap.lt_size (X _ _ e)) (Nat.not_lt.mpr ha)
theorem sx_made1 {s : Shared} {v : Value} {f m : Str} {j : Nat} {p0 p1 p2 p3 p4 p5 q1 q2 q3 q4 : Pos} {mg mb : Str → Option Value} (T : SxC prog K C fI cc cda qual params [supSt m j p0 p1 p2 p3 p4 p5, keepSt f q1 q2 q3 q4] scope) (U : SxT params scope [supSt m j p0 p1 p2 p3 p4 p5, keepSt f q1 q2 q3 q4] qual m j p0 p1 p2 p3 p4 p5)
    (hkf : scope.names.lookup f = some .local) (hfs : f ≠ "self") (hfd : (f == ("__debug__" : Str)) = false) (hno : PySem.W.findIn K (.ref C) f = some none)
    (hbind : ∀ (x : Addr) (kV doc pm : Value) (an : Option Addr) (ct : Value), bindArgs (PySem.W.fnX "__init__" qual params [supSt m j p0 p1 p2 p3 p4 p5, keepSt f q1 q2 q3 q4] scope [("__class__", cc)] .none kV doc pm an (.ref cda) ct) ⟨[.ref x, v], []⟩ = pure [(("self" : Str), .ref x), (f, v)])
    (hsw2 : ∀ L, swapsWith (.Name f q3) (some (.Attribute (.Name "self" q1) f q2)) q4.line (PySem.W.envX qual scope L fI (.ref cda) [("__class__", cc)]) = pure false)
    (X : K.In s.heap) (hlim : s.heap.NoLimit) (hroom : A.depth + 1 < recursionLimit) (hG : s.heap.Ns mainGlobals mg) (hg0 : mg "super" = none) (hB : s.heap.Ns builtinsNs mb) (hb0 : mb "super" = some (.type "super"))
    (hq : ∀ h' tk e d, SxMade s.heap h' e C (some d) [(f, v)] → R (.ok (.ret (.ref e))) { s with heap := h', toks := tk }) :
    codeAny (model prog w) A (.call (.ref C) ⟨[v], []⟩) R s := by
  obtain ⟨nm, q, N, bs, bm, sn, sub, ab, col, dd, k0, k1, k2, k3, k5, hC, hbm⟩ := T.cls
  obtain ⟨hp, g, dr, tk, os⟩ := s
  have k : ∀ b o, hp.get? b = some o → ((hp.push (PySem.W.kdv_tup [v])).push (PySem.HandSPX.excO C hp.objs.size)).get? b = some o := fun b o e => Heap.get?_push_of_some _ (Heap.get?_push_of_some _ e)
  have hget : ((hp.push (PySem.W.kdv_tup [v])).push (PySem.HandSPX.excO C hp.objs.size)).get? (hp.objs.size + 1) = some (PySem.HandSPX.excO C hp.objs.size) := by heap_get
  have hnx : K.lookup (hp.objs.size + 1) = none := lookup_new X (Nat.le_succ _)
  refine PySem.HandSPX.call_own PySem.F.excBase_ValueError (fun Y => PySem.HandSPX.refsVE_contains Y bm hbm) (X _ _ hC) (PySem.W.looks_findIn X T.iC) (fun self => PySem.W.bind_fn X self T.tI) (by rw [PySem.sizeLine_eq]; exact (by decide : 1 ≤ 16777216)) ?_
  refine sx_init1 (s := ⟨(hp.push (PySem.W.kdv_tup [v])).push (PySem.HandSPX.excO C hp.objs.size), g, dr, tk, os⟩) T U hkf hfs hfd hno (hbind _) hsw2 (X.keeps k) (hlim.keeps k) hget hnx ?_ (hG.keeps k) hg0 (hB.keeps k) hb0 (Nat.ne_of_lt (Nat.lt_succ_of_lt hG.lt)) (Nat.ne_of_lt (Nat.lt_succ_of_lt hB.lt)) fun h' tk' dx t1 k' hx dn dne hns => ?_
  · show A.depth + 1 < recursionLimit
    exact hroom
  · have old : ∀ b o, hp.get? b = some o → h'.get? b = some o := fun b o e => k' b o (Nat.ne_of_lt (Nat.lt_succ_of_lt (Heap.lt_size e))) (k b o e)
    have z : hp.objs.size + 1 + 1 ≤ dx := by
      first
        | (simpa only [Heap.size_push] using dn)
        | exact dn
        | (have q := dn; rw [Heap.size_push, Heap.size_push] at q; exact q)
    exact ⟨rfl, hq h' tk' (hp.objs.size + 1) dx ⟨old, Nat.le_succ _, ⟨t1, hx⟩, .inr ⟨dx, f, v, rfl, rfl, Nat.le_trans (Nat.le_trans (Nat.le_succ _) (Nat.le_succ _)) z, dne, hns⟩⟩⟩
theorem sx_made0 {s : Shared} {m : Str} {j : Nat} {p0 p1 p2 p3 p4 p5 : Pos} {mg mb : Str → Option Value} (T : SxC prog K C fI cc cda qual params [supSt m j p0 p1 p2 p3 p4 p5] scope) (U : SxT params scope [supSt m j p0 p1 p2 p3 p4 p5] qual m j p0 p1 p2 p3 p4 p5)
    (hbind : ∀ (x : Addr) (kV doc pm : Value) (an : Option Addr) (ct : Value), bindArgs (PySem.W.fnX "__init__" qual params [supSt m j p0 p1 p2 p3 p4 p5] scope [("__class__", cc)] .none kV doc pm an (.ref cda) ct) ⟨[.ref x], []⟩ = pure [(("self" : Str), .ref x)])
    (X : K.In s.heap) (hlim : s.heap.NoLimit) (hroom : A.depth + 1 < recursionLimit) (hG : s.heap.Ns mainGlobals mg) (hg0 : mg "super" = none) (hB : s.heap.Ns builtinsNs mb) (hb0 : mb "super" = some (.type "super"))
    (hq : ∀ h' tk e, SxMade s.heap h' e C none [] → R (.ok (.ret (.ref e))) { s with heap := h', toks := tk }) :
    codeAny (model prog w) A (.call (.ref C) ⟨[], []⟩) R s := by
  obtain ⟨nm, q, N, bs, bm, sn, sub, ab, col, dd, k0, k1, k2, k3, k5, hC, hbm⟩ := T.cls
  obtain ⟨hp, g, dr, tk, os⟩ := s
  have k : ∀ b o, hp.get? b = some o → ((hp.push (PySem.W.kdv_tup [])).push (PySem.HandSPX.excO C hp.objs.size)).get? b = some o := fun b o e => Heap.get?_push_of_some _ (Heap.get?_push_of_some _ e)
  have hget : ((hp.push (PySem.W.kdv_tup [])).push (PySem.HandSPX.excO C hp.objs.size)).get? (hp.objs.size + 1) = some (PySem.HandSPX.excO C hp.objs.size) := by heap_get
  refine PySem.HandSPX.call_own PySem.F.excBase_ValueError (fun Y => PySem.HandSPX.refsVE_contains Y bm hbm) (X _ _ hC) (PySem.W.looks_findIn X T.iC) (fun self => PySem.W.bind_fn X self T.tI) (Nat.zero_le _) ?_
  refine sx_init0 (s := ⟨(hp.push (PySem.W.kdv_tup [])).push (PySem.HandSPX.excO C hp.objs.size), g, dr, tk, os⟩) T U (hbind _) (X.keeps k) (hlim.keeps k) hget ?_ (hG.keeps k) hg0 (hB.keeps k) hb0 fun h' tk' t1 k' hx => ?_
  · show A.depth + 1 < recursionLimit
    exact hroom
  · have old : ∀ b o, hp.get? b = some o → h'.get? b = some o := fun b o e => k' b o (Nat.ne_of_lt (Nat.lt_succ_of_lt (Heap.lt_size e))) (k b o e)
    exact ⟨rfl, hq h' tk' (hp.objs.size + 1) ⟨old, Nat.le_succ _, ⟨t1, hx⟩, .inl ⟨rfl, rfl⟩⟩⟩
end
end Y

set_option maxHeartbeats 4000000
/-! Y16: own errors as values, raised, asked. -/
namespace Y
open PySem L2 PySem.Spec PyProof.Rows He
open PySem.W (Frag)

/-- what an error class must say -/
structure ErC (K : Frag) (C : Addr) : Prop where
  kC : PySem.W.keepIn K (.ref C) = true
  cl : (PySem.W.clsIn K C).isSome = true
  tyC : PySem.W.typeIn K (.ref C) = some (.type "type")
  exC : PySem.W.subIn K (.ref C) (.type "BaseException") = some true
  ga : PySem.W.findIn K (.ref C) "__getattribute__" = some (some (.builtin "BaseException.__getattribute__"))
  gg : PySem.W.findIn K (.ref C) "__getattr__" = some none
  hd : PySem.W.hasDictIn K C = true
  ca : PySem.W.findIn K (.ref C) "__class__" = some (some (.builtin "object.__class__"))
  cn : PySem.W.specialIn K (.builtin "object.__class__") "__get__" = some (some (.builtin "getset_descriptor.__get__"))
  ct : PySem.W.takesIn K (.builtin "object.__class__") = some true
  mr : PySem.W.mroIn K C (.type "object") = some true
def erB (K : Frag) (c : Str) : Bool := PySem.W.keepIn K (.ref (ga K c)) && ((PySem.W.clsIn K (ga K c)).isSome && (decide (PySem.W.typeIn K (.ref (ga K c)) = some (.type "type")) && (decide (PySem.W.subIn K (.ref (ga K c)) (.type "BaseException") = some true) &&
  (decide (PySem.W.findIn K (.ref (ga K c)) "__getattribute__" = some (some (.builtin "BaseException.__getattribute__"))) && (decide (PySem.W.findIn K (.ref (ga K c)) "__getattr__" = some none) && (PySem.W.hasDictIn K (ga K c) &&
  (decide (PySem.W.findIn K (.ref (ga K c)) "__class__" = some (some (.builtin "object.__class__"))) && (decide (PySem.W.specialIn K (.builtin "object.__class__") "__get__" = some (some (.builtin "getset_descriptor.__get__"))) &&
  (decide (PySem.W.takesIn K (.builtin "object.__class__") = some true) && decide (PySem.W.mroIn K (ga K c) (.type "object") = some true))))))))))
theorem erB_ok {K : Frag} {c : Str} (h : erB K c = true) : ErC K (ga K c) := by
  obtain ⟨h1, h⟩ := ba h
  obtain ⟨h2, h⟩ := ba h
  obtain ⟨h3, h⟩ := ba h
  obtain ⟨h4, h⟩ := ba h
  obtain ⟨h5, h⟩ := ba h
  obtain ⟨h6, h⟩ := ba h
  obtain ⟨h7, h⟩ := ba h
  obtain ⟨h8, h⟩ := ba h
  obtain ⟨h9, h⟩ := ba h
  obtain ⟨h10, h11⟩ := ba h
  exact ⟨h1, h2, of_decide_eq_true h3, of_decide_eq_true h4, of_decide_eq_true h5, of_decide_eq_true h6, h7, of_decide_eq_true h8, of_decide_eq_true h9, of_decide_eq_true h10, of_decide_eq_true h11⟩

/-- what is asked of the heap when an own error is made -/
structure MkH (K : Frag) (A : Around) (s : Shared) : Prop where
  kin : K.In s.heap
  lim : s.heap.NoLimit
  room : A.depth + 1 < recursionLimit
  glob : ∃ mg, s.heap.Ns mainGlobals mg ∧ mg "super" = none
  blt : ∃ mb, s.heap.Ns builtinsNs mb ∧ mb "super" = some (.type "super")
/-- C(v) makes an error that keeps v as f -/
structure Er1 (P : Program) (w : World) (K : Frag) (C : Addr) (f : Str) : Prop where
  c : ErC K C
  no : PySem.W.findIn K (.ref C) f = some none
  made : ∀ (A : Around) (R : Result → Shared → Prop) (s : Shared) (v : Value), MkH K A s → (∀ h' tk e d, SxMade s.heap h' e C (some d) [(f, v)] → R (.ok (.ret (.ref e))) { s with heap := h', toks := tk }) → codeAny (model P w) A (.call (.ref C) ⟨[v], []⟩) R s
/-- C() makes an error without field -/
structure Er0 (P : Program) (w : World) (K : Frag) (C : Addr) : Prop where
  c : ErC K C
  made : ∀ (A : Around) (R : Result → Shared → Prop) (s : Shared), MkH K A s → (∀ h' tk e, SxMade s.heap h' e C none [] → R (.ok (.ret (.ref e))) { s with heap := h', toks := tk }) → codeAny (model P w) A (.call (.ref C) ⟨[], []⟩) R s
section
variable {P : Program} {w : World} {K : Frag} {C fI cc cda : Addr} {qual : Str} {params : Arguments} {scope : Scope} {f m : Str} {j : Nat} {p0 p1 p2 p3 p4 p5 q1 q2 q3 q4 : Pos}
theorem er1_of (c : ErC K C) (T : SxC P K C fI cc cda qual params [supSt m j p0 p1 p2 p3 p4 p5, keepSt f q1 q2 q3 q4] scope) (U : SxT params scope [supSt m j p0 p1 p2 p3 p4 p5, keepSt f q1 q2 q3 q4] qual m j p0 p1 p2 p3 p4 p5)
    (hno : PySem.W.findIn K (.ref C) f = some none) (hkf : scope.names.lookup f = some .local) (hfs : f ≠ "self") (hfd : (f == ("__debug__" : Str)) = false)
    (hbind : ∀ (x : Addr) (v kV doc pm : Value) (an : Option Addr) (ct : Value), bindArgs (PySem.W.fnX "__init__" qual params [supSt m j p0 p1 p2 p3 p4 p5, keepSt f q1 q2 q3 q4] scope [("__class__", cc)] .none kV doc pm an (.ref cda) ct) ⟨[.ref x, v], []⟩ = pure [(("self" : Str), .ref x), (f, v)])
    (hsw2 : ∀ L, swapsWith (.Name f q3) (some (.Attribute (.Name "self" q1) f q2)) q4.line (PySem.W.envX qual scope L fI (.ref cda) [("__class__", cc)]) = pure false) : Er1 P w K C f := by
  refine ⟨c, hno, fun A R s v h hq => ?_⟩
  obtain ⟨mg, g1, g2⟩ := h.glob
  obtain ⟨mb, b1, b2⟩ := h.blt
  exact sx_made1 T U hkf hfs hfd hno (fun x => hbind x v) hsw2 h.kin h.lim h.room g1 g2 b1 b2 hq
theorem er0_of (c : ErC K C) (T : SxC P K C fI cc cda qual params [supSt m j p0 p1 p2 p3 p4 p5] scope) (U : SxT params scope [supSt m j p0 p1 p2 p3 p4 p5] qual m j p0 p1 p2 p3 p4 p5)
    (hbind : ∀ (x : Addr) (kV doc pm : Value) (an : Option Addr) (ct : Value), bindArgs (PySem.W.fnX "__init__" qual params [supSt m j p0 p1 p2 p3 p4 p5] scope [("__class__", cc)] .none kV doc pm an (.ref cda) ct) ⟨[.ref x], []⟩ = pure [(("self" : Str), .ref x)]) : Er0 P w K C := by
  refine ⟨c, fun A R s h hq => ?_⟩
  obtain ⟨mg, g1, g2⟩ := h.glob
  obtain ⟨mb, b1, b2⟩ := h.blt
  exact sx_made0 T U hbind h.kin h.lim h.room g1 g2 b1 b2 hq
end
section
variable {X : Cx} {pins : List (Addr × Obj)} {σ : L2.St} {H : Hp} {s : Shared}
theorem mkH_of (I : Inv X pins σ H s) (hs : X.mg "super" = none) {k : Nat} (hr : Room (k + 2) X.A) : MkH X.K X.A s := by
  obtain ⟨mb, h1, h2⟩ := I.mod.blt
  exact ⟨I.kIn, I.nolimit, by have := hr.dp; omega, ⟨_, I.mod.glob.keeps I.bk, hs⟩, ⟨mb, h1.keeps I.bk, (h2 "super" (by decide)).trans (by rfl)⟩⟩
theorem relO_one {f : Str} {x : V} {v : Value} (r : RelV x v) (g : Str) : RelO (([(f, x)] : List (Str × V)).lookup g) (if g = f then some v else none) := relO_put (f := f) r (fs := []) (mA := fun _ => none) (fun _ => trivial) g
/-- a made error stands in the heap -/
theorem made_inv1 (I : Inv X pins σ H s) {h' : Heap} {tk : Nat} {e C d : Addr} {f : Str} {x : V} {v : Value} (M : SxMade s.heap h' e C (some d) [(f, v)]) (r : RelV x v) :
    d ≠ e ∧ H d = none ∧ H e = none ∧ Inv X pins σ (upd (upd H d (exd d [(f, x)])) e (exo e C (some d))) { s with heap := h', toks := tk } := by
  obtain ⟨old, new, ⟨t1, hoe⟩, dd⟩ := M
  obtain ⟨q, _⟩ | ⟨dd, f', v', e1, e2, dbig, dne, hns⟩ := dd
  · cases q
  · cases e1
    cases e2
    obtain ⟨G', g1, g2⟩ := restrict h' fun b => decide (b ≠ e)
    have gk : ∀ b, b ≠ e → G'.get? b = h'.get? b := fun b hb => g1 b (decide_eq_true hb)
    have ge : G'.get? e = none := g2 e (by simp)
    have old2 : ∀ b o, s.heap.get? b = some o → G'.get? b = some o := fun b o q => (gk b (Nat.ne_of_lt (Nat.lt_of_lt_of_le (Heap.lt_size q) new))).trans (old b o q)
    have ob : ObjOk X.prog X.w (upd H d (exd d [(f, x)])) G' d (exd d [(f, x)]) := exd_ok (hns.at fun o q => (gk d dne).trans q) fun g => relO_one r g
    have J : Inv X pins σ (upd H d (exd d [(f, x)])) { s with heap := G', toks := tk } := I.laid (t' := tk) old2 dbig ob
    have hd := I.hok.fresh dbig
    have he := I.hok.fresh new
    refine ⟨dne, hd, he, J.laidN (t' := tk) (h' := h') (fun b o q => ?_) ge (by rw [upd_ne (Ne.symm dne)]; exact he) (exo_ok hoe)⟩
    by_cases hb : b = e
    · have q' : G'.get? b = some o := q
      rw [hb, ge] at q'; cases q'
    · exact (gk b hb).symm.trans q
theorem made_inv0 (I : Inv X pins σ H s) {h' : Heap} {tk : Nat} {e C : Addr} (M : SxMade s.heap h' e C none []) : H e = none ∧ Inv X pins σ (upd H e (exo e C none)) { s with heap := h', toks := tk } := by
  obtain ⟨old, new, ⟨t1, hoe⟩, _⟩ := M
  exact ⟨I.hok.fresh new, I.laid (t' := tk) old new (exo_ok hoe)⟩
/-- E(a) -/
def tEr1 (C : Addr) (f : Str) (te : TE) : TE := fun σ H Q => te σ H fun x H1 => ∀ d e, d ≠ e → H1 d = none → H1 e = none → Q (.ref e) (upd (upd H1 d (exd d [(f, x)])) e (exo e C (some d)))
theorem pe_er1 {k : Nat} {C : Addr} {x f : Str} {a : PySem.Expr} {te : TE} {p pos : Pos} (T : Er1 X.prog X.w X.K C f) (hr : Room (k + 2) X.A) (hs : X.mg "super" = none) (hm : X.mg x = some (.ref C)) (ha : PE X a te) (hg : Gl X x := by rfl) (hdb : (x == ("__debug__" : Str)) = false := by decide)
    (he : starEach (a :: []) X.env = (false, eval a X.env) :: starEach [] X.env := by rfl) (hpl : (backTo pos (starEach [] X.env)).any (·.1) = false := by rfl) : PE X (.Call (.Name x p) [a] [] pos) (tEr1 C f te) := by
  refine ⟨fun pins s σ H Q I h => ?_⟩
  refine wpAny_Call_Name_kw (ld_glob I hg hm ?_ hdb)
  refine PySem.W.callWith_K (h₀ := X.base) I.ok.mod.kin T.c.kC ?_ he hpl
  rw [he]
  show wpAny _ _ (spliced ((false, eval a X.env) :: backTo pos (starEach [] X.env))) _ _ s
  refine Calls.spliced_cons (thn (ha.run pins s σ H _ I h) fun u s1 ⟨v, H1, I1, r1, q1⟩ => ?_)
  refine Calls.spliced_nil ⟨I1.kIn, ?_⟩
  show wpAny _ _ (call (.ref C) [u]) _ _ _
  refine wpAny_call (T.made _ _ _ _ (mkH_of I1 hs hr) fun h' tk' e d M => ?_)
  obtain ⟨n, hd, hee, J⟩ := made_inv1 (tk := tk') I1 M r1
  exact ⟨.ref e, _, J, rfl, q1 d e n hd hee⟩
/-- E() -/
def tEr0 (C : Addr) : TE := fun σ H Q => ∀ e, H e = none → Q (.ref e) (upd H e (exo e C none))
theorem pe_er0 {k : Nat} {C : Addr} {x : Str} {p pos : Pos} (T : Er0 X.prog X.w X.K C) (hr : Room (k + 2) X.A) (hs : X.mg "super" = none) (hm : X.mg x = some (.ref C)) (hg : Gl X x := by rfl) (hdb : (x == ("__debug__" : Str)) = false := by decide) : PE X (.Call (.Name x p) [] [] pos) (tEr0 C) := by
  refine ⟨fun pins s σ H Q I h => ?_⟩
  refine wpAny_Call_Name_kw (ld_glob I hg hm ?_ hdb)
  refine PySem.W.callWith_K0 I.kIn T.c.kC ?_
  show wpAny _ _ (call (.ref C) []) _ _ _
  refine wpAny_call (T.made _ _ _ (mkH_of I hs hr) fun h' tk' e M => ?_)
  obtain ⟨hee, J⟩ := made_inv0 (tk := tk') I M
  exact ⟨.ref e, _, J, rfl, h e hee⟩
/-- E(..) of a class without __init__ -/
def tErB (C : Addr) (ta : TA) : TE := fun σ H Q => ta σ H fun vs H1 => vs.length ≤ sizeLine ∧ ∀ e, H1 e = none → Q (.ref e) (upd H1 e (exo e C none))
theorem madeB_inv (I : Inv X pins σ H s) {h' : Heap} {e C : Addr} {us : List Value} (M : Heap.MadeExcOf s.heap h' e (.ref C) us) : H e = none ∧ Inv X pins σ (upd H e (exo e C none)) { s with heap := h' } := by
  have he : H e = none := I.hok.gone M.new
  obtain ⟨t, ht, _, _⟩ := M.there
  exact ⟨he, I.laidN (t' := s.toks) M.keeps M.new he (exo_ok ht)⟩
structure ErBase (K : Frag) (C : Addr) : Prop where
  c : ErC K C
  q : PySem.W.excIn K C [.type "ValueError", .type "Exception", .type "BaseException", .type "object"] "ValueError.__new__" = true
theorem pe_erB {C : Addr} {x : Str} {e : PySem.Expr} {es : List PySem.Expr} {ta : TA} {p pos : Pos} (T : ErBase X.K C) (hm : X.mg x = some (.ref C)) (ha : PA X (e :: es) ta) (hg : Gl X x := by rfl) (hdb : (x == ("__debug__" : Str)) = false := by decide)
    (he : starEach (e :: es) X.env = (false, eval e X.env) :: starEach es X.env := by rfl) (hpl : (backTo pos (starEach es X.env)).any (·.1) = false := by rfl) : PE X (.Call (.Name x p) (e :: es) [] pos) (tErB C ta) := by
  refine ⟨fun pins s σ H Q I h => ?_⟩
  refine wpAny_Call_Name_kw (ld_glob I hg hm ?_ hdb)
  refine PySem.W.callWith_K (h₀ := X.base) I.ok.mod.kin T.c.kC (thn (ha.run pos pins s σ H _ I h) fun us s1 hh => ?_) he hpl
  obtain ⟨vs, H1, I1, r1, hl, q1⟩ := hh
  refine ⟨I1.kIn, ?_⟩
  show wpAny _ _ (call (.ref C) us) _ _ _
  obtain ⟨bm, N, nm, qn, bs, hdct, sn, sub, ab, col, dd, k0, k1, k2, k3, k5, mN, hC, hN, hni, T2⟩ := exc_obj I1.kIn T.q
  refine wpAny_call_exc_subT PySem.F.excBase_ValueError T2 hC hN hni (fun h' a M => ?_) (by rw [← r1.length]; exact hl)
  obtain ⟨hee, J⟩ := madeB_inv I1 M
  exact ⟨.ref a, _, J, rfl, q1 a hee⟩
theorem pe_erB0 {C : Addr} {x : Str} {p pos : Pos} (T : ErBase X.K C) (hm : X.mg x = some (.ref C)) (hg : Gl X x := by rfl) (hdb : (x == ("__debug__" : Str)) = false := by decide) : PE X (.Call (.Name x p) [] [] pos) (tEr0 C) := by
  refine ⟨fun pins s σ H Q I h => ?_⟩
  refine wpAny_Call_Name_kw (ld_glob I hg hm ?_ hdb)
  refine PySem.W.callWith_K0 I.kIn T.c.kC ?_
  show wpAny _ _ (call (.ref C) []) _ _ _
  obtain ⟨bm, N, nm, qn, bs, hdct, sn, sub, ab, col, dd, k0, k1, k2, k3, k5, mN, hC, hN, hni, T2⟩ := exc_obj I.kIn T.q
  refine wpAny_call_exc_subT PySem.F.excBase_ValueError T2 hC hN hni (fun h' a M => ?_) (Nat.zero_le _)
  obtain ⟨hee, J⟩ := madeB_inv I M
  exact ⟨.ref a, _, J, rfl, h a hee⟩
end
/-! ### by data -/
def iEr1 (c f : Str) (m : M XV) : M XV := fun env st => (m env st).bind fun x st1 => match x.fz with
  | .v d => .ok (.v (.exv c [f] [d])) st1
  | _ => .bad
def iEr0 (c : Str) : M XV := fun _ st => .ok (.v (.exv c [] [])) st
def iErB (c : Str) (ms : M (List XV)) : M XV := fun env st => (ms env st).bind fun xs st1 => if xs.length ≤ sizeLine then .ok (.v (.exv c [] [])) st1 else .bad
section
variable {X : Cx} {W : WX}
theorem re_er1 {k : Nat} {c f : Str} {a : PySem.Expr} {m : M XV} {p pos : Pos} (T : Er1 X.prog X.w X.K (ga X.K c) f) (hr : Room (k + 2) X.A) (hs : X.mg "super" = none) (hm : X.mg c = some (.ref (ga X.K c))) (ha : PE X a (tE X.K W m)) (hg : Gl X c := by rfl) (hdb : (c == ("__debug__" : Str)) = false := by decide)
    (he : starEach (a :: []) X.env = (false, eval a X.env) :: starEach [] X.env := by rfl) (hpl : (backTo pos (starEach [] X.env)).any (·.1) = false := by rfl) : PE X (.Call (.Name c p) [a] [] pos) (tE X.K W (iEr1 c f m)) := by
  refine peImp (pe_er1 T hr hs hm ha hg hdb he hpl) fun σ H Q h => ?_
  refine tE_bind (α := XV) (k := fun x _ st1 => match x.fz with
  | .v d => .ok (.v (.exv c [f] [d])) st1
  | _ => .bad) (O := fun env => OE X.K env σ) backE h fun G la env st x v H1 b o w => ?_
  cases ex : x.fz with
  | n d => rw [ex] at w; exact False.elim w
  | s i d => rw [ex] at w; exact False.elim w
  | v dv =>
    rw [ex] at w o
    have o : Rep X.K G la v dv := o
    intro d e n hd he
    have p1 : Post X.K G la H1 (upd G d (exd d [(f, v)])) la st (upd H1 d (exd d [(f, v)])) := Post.newf b.rel hd
    have he2 : (upd H1 d (exd d [(f, v)])) e = none := by rw [upd_ne (Ne.symm n)]; exact he
    have p2 := p1.trans (Post.newf (o := exo e (ga X.K c) (some d)) p1.rel he2)
    refine w (.ref e) _ _ la p2 (.ev1 (dd := d) (fvs := [(f, v)]) upd_same (by rw [upd_ne n]; exact upd_same) rfl (.cons (o.mono p2.same p2.pre) .nil))
theorem re_er0' {c : Str} {e : PySem.Expr} (h : PE X e (tEr0 (ga X.K c))) : PE X e (tE X.K W (iEr0 c)) := by
  refine peImp h fun σ H Q h => ?_
  obtain ⟨G, la, env, st, b, h⟩ := h
  exact fun e he => h (.ref e) _ _ la (Post.newf b.rel he) (.ev0 upd_same)
theorem re_er0 {k : Nat} {c : Str} {p pos : Pos} (T : Er0 X.prog X.w X.K (ga X.K c)) (hr : Room (k + 2) X.A) (hs : X.mg "super" = none) (hm : X.mg c = some (.ref (ga X.K c))) (hg : Gl X c := by rfl) (hdb : (c == ("__debug__" : Str)) = false := by decide) : PE X (.Call (.Name c p) [] [] pos) (tE X.K W (iEr0 c)) :=
  re_er0' (pe_er0 T hr hs hm hg hdb)
theorem re_erB0 {c : Str} {p pos : Pos} (T : ErBase X.K (ga X.K c)) (hm : X.mg c = some (.ref (ga X.K c))) (hg : Gl X c := by rfl) (hdb : (c == ("__debug__" : Str)) = false := by decide) : PE X (.Call (.Name c p) [] [] pos) (tE X.K W (iEr0 c)) :=
  re_er0' (pe_erB0 T hm hg hdb)
theorem re_erB {c : Str} {e : PySem.Expr} {es : List PySem.Expr} {ms : M (List XV)} {p pos : Pos} (T : ErBase X.K (ga X.K c)) (hm : X.mg c = some (.ref (ga X.K c))) (ha : PA X (e :: es) (tA X.K W ms)) (hg : Gl X c := by rfl) (hdb : (c == ("__debug__" : Str)) = false := by decide)
    (he : starEach (e :: es) X.env = (false, eval e X.env) :: starEach es X.env := by rfl) (hpl : (backTo pos (starEach es X.env)).any (·.1) = false := by rfl) : PE X (.Call (.Name c p) (e :: es) [] pos) (tE X.K W (iErB c ms)) := by
  refine peImp (pe_erB T hm ha hg hdb he hpl) fun σ H Q h => ?_
  refine tA_bind (k := fun xs _ st1 => if xs.length ≤ sizeLine then .ok (.v (.exv c [] [])) st1 else .bad) h fun G la env st xs vs H1 b o w => ?_
  by_cases hl : xs.length ≤ sizeLine
  · rw [if_pos hl] at w
    refine ⟨by rw [o.length]; exact hl, fun e he => w (.ref e) _ _ la (Post.newf b.rel he) (.ev0 upd_same)⟩
  · rw [if_neg hl] at w
    exact w.elim
end
end Y

set_option maxHeartbeats 4000000
/-! Y17: fields and classes of errors; dicts shown and written; lists of the same things; new containers into cells. -/
namespace Y
open PySem L2 PySem.Spec PyProof.Rows He
open PySem.W (Frag)

/-! ### e.f -/
def xfT (K : Frag) (T : FlT) : Bool := T.all fun q => erB K q.1 && decide (PySem.W.findIn K (.ref (ga K q.1)) q.2 = some none)
def xfD (T : FlT) (f : Str) : D → Option XV
  | .exv c fs vs => if (c, f) ∈ T then (valD fs vs f).map .v else none
  | _ => none
def tXfV (K : Frag) (f : Str) (te : TE) : TE := fun σ H Q => te σ H fun x H1 => ∃ a C d fs v, x = .ref a ∧ H1 a = some (exo a C (some d)) ∧ H1 d = some (exd d fs) ∧ ErC K C ∧ PySem.W.findIn K (.ref C) f = some none ∧ fs.lookup f = some v ∧ Q v H1
section
variable {X : Cx} {W : WX}
theorem pe_xfV {e : PySem.Expr} {te : TE} {pos : Pos} {f : Str} (he : PE X e te) (hb : attributeBase e f X.env (eval e X.env) = eval e X.env := by rfl) : PE X (.Attribute e f pos) (tXfV X.K f te) := by
  refine ⟨fun pins s σ H Q I h => ?_⟩
  refine attr_of hb (thn (he.run pins s σ H _ I h) fun u s1 hh => ?_)
  obtain ⟨x, H1, I1, rx, a, C, d, fs, v, ex, ea, ed, T, hno, l, q⟩ := hh
  subst ex
  obtain rfl : u = Value.ref a := rx
  obtain ⟨t1, ho⟩ := exo_at I1.hok ea
  obtain ⟨mA, hns, hr⟩ := exd_at I1.hok ed
  obtain ⟨od, hod, hl⟩ := lookIn_ns hns
  obtain ⟨u, hu, ru⟩ := RelO.some_of (v := v) (o := mA f) (by rw [← l]; exact hr f)
  have J : PySem.W.InstAt s1.heap a { cls := .ref C, dict := some d, data := .fields #[.ref t1, .none, .none, .none, .bool false, .none] } C (some od) := ⟨ho, rfl, rfl, hod⟩
  exact HandSPX.exc_get I1.kIn J T.ga T.gg T.exC (PySem.W.findObj_own T.hd hno rfl (by rw [hl, hu])) (handed_of ru) ⟨v, H1, I1.tok _, ru, q⟩
theorem re_xf {a : PySem.Expr} {f : Str} {pos : Pos} {m : M XV} {T : FlT} (hT : xfT X.K T = true) (ha : PE X a (tE X.K W m)) (hb : attributeBase a f X.env (eval a X.env) = eval a X.env := by rfl) : PE X (.Attribute a f pos) (tE X.K W (iPrim (f1 (xfD T f)) (evCons m evNil))) := by
  refine peImp (pe_xfV ha hb) fun σ H Q h => ?_
  refine tE_mono (tA_one (prim_to h)) fun x H1 q => ?_
  obtain ⟨G, la, st, ds, bb, rd, w⟩ := q
  cases rd with
  | cons h1 t =>
    cases t
    rename_i d
    have e1 : f1 (xfD T f) [d] = xfD T f d := rfl
    rw [e1] at w
    cases e2 : xfD T f d with
    | none => rw [e2] at w; exact False.elim w
    | some z =>
      rw [e2] at w
      unfold xfD at e2
      split at e2
      · split at e2
        · rename_i hm
          obtain ⟨dv, e3, rfl⟩ := Option.map_eq_some_iff.mp e2
          obtain ⟨c1, c2⟩ := ba (List.all_eq_true.mp hT _ hm)
          cases h1 with
          | ev0 h1 => cases e3
          | ev1 h1 h2 q r =>
            subst q
            obtain ⟨v, g1, g2⟩ := lookup_rep r e3
            exact ⟨_, _, _, _, v, rfl, h1, h2, erB_ok c1, of_decide_eq_true c2, g1, Aft.val w bb g2⟩
        · cases e2
      · cases e2
end
/-! ### isinstance, errors too -/
inductive TyY (K : Frag) (H : Hp) : V → Value → Prop where
  | base {x : V} {t : Value} (h : TyX K H x t) : TyY K H x t
  | er0 {a C : Addr} (e : H a = some (exo a C none)) (c : ErC K C) : TyY K H (.ref a) (.ref C)
  | er1 {a C d : Addr} {fs : List (Str × V)} (e : H a = some (exo a C (some d))) (e2 : H d = some (exd d fs)) (c : ErC K C) : TyY K H (.ref a) (.ref C)
section
variable {X : Cx} {pins : List (Addr × Obj)} {σ : L2.St} {H : Hp} {s : Shared}
def rIsiY (K : Frag) : List V → Hp → VK → Prop := fun xs H Q => ∃ (x c : V) (t u : Value) (b : Bool), xs = [x, c] ∧ ClsV c u ∧ TyY K H x t ∧ PySem.W.kitOne K t u = some b ∧ Q (.bl b) H
theorem call_isiY : CallR X (.builtin "isinstance") (rIsiY X.K) := by
  intro pins s σ H xs us Q I r h
  obtain ⟨x, c, t, u, b, rfl, hc, ty, e, q⟩ := h
  cases r with
  | cons rx rr =>
    cases rr with
    | cons rc rr =>
      cases rr
      cases hc.eq rc
      cases ty with
      | base h =>
        obtain ⟨P, Z, p, n⟩ := kit_of I rx h
        exact PySem.W.kia_one Z I.kIn p e n fun tk => ⟨.bl b, H, I.kept (t' := tk) fun _ _ z => z, rfl, q⟩
      | er0 e0 c =>
        cases (show _ = Value.ref _ from rx)
        obtain ⟨t1, ho⟩ := exo_at I.hok e0
        exact PySem.W.kia_one (PySem.W.kitx_exc (od := none) c.cl c.ga c.gg c.exC c.ca c.cn c.ct c.mr) I.kIn ⟨ho, rfl, rfl, trivial⟩ e (fun z => nomatch z) fun tk => ⟨.bl b, H, I.kept (t' := tk) fun _ _ z => z, rfl, q⟩
      | er1 e0 e2 c =>
        cases (show _ = Value.ref _ from rx)
        obtain ⟨t1, ho⟩ := exo_at I.hok e0
        obtain ⟨mA, hns, hr⟩ := exd_at I.hok e2
        obtain ⟨od, hod, hl⟩ := lookIn_ns hns
        exact PySem.W.kia_one (PySem.W.kitx_exc (od := some od) c.cl c.ga c.gg c.exC c.ca c.cn c.ct c.mr) I.kIn ⟨ho, rfl, rfl, hod⟩ e (fun z => nomatch z) fun tk => ⟨.bl b, H, I.kept (t' := tk) fun _ _ z => z, rfl, q⟩
end
def tyE (ow er : List Str) : D → Option Ty
  | .exv c _ _ => if c ∈ er then some (.inr c) else none
  | d => tyD ow d
theorem Rd1.tyE {K : Frag} {G H : Hp} {la : List Addr} {x : V} {d : D} {t : Ty} {ow er : List Str} (ho : ow.all (insB K) = true) (hr : er.all (erB K) = true) (h : Rd1 K G la H x d) (e : tyE ow er d = some t) : TyY K H x (tyVal K t) := by
  cases h with
  | ev0 h =>
    rename_i a c
    have e : (if c ∈ er then some (Sum.inr c) else none) = some t := e
    by_cases hm : c ∈ er
    · rw [if_pos hm] at e
      cases e
      exact .er0 h (erB_ok (List.all_eq_true.mp hr _ hm))
    · rw [if_neg hm] at e
      cases e
  | ev1 h h2 q r =>
    rename_i a dd c fvs fs ds
    have e : (if c ∈ er then some (Sum.inr c) else none) = some t := e
    by_cases hm : c ∈ er
    · rw [if_pos hm] at e
      cases e
      exact .er1 h h2 (erB_ok (List.all_eq_true.mp hr _ hm))
    · rw [if_neg hm] at e
      cases e
  | non => exact .base (Rd1.ty (G := G) (la := la) ho .non e)
  | bl b => exact .base (Rd1.ty (G := G) (la := la) ho (.bl b) e)
  | int b => exact .base (Rd1.ty (G := G) (la := la) ho (.int b) e)
  | str b => exact .base (Rd1.ty (G := G) (la := la) ho (.str b) e)
  | lst h r => exact .base (Rd1.ty ho (.lst h r) e)
  | tup h r => exact .base (Rd1.ty ho (.tup h r) e)
  | scr h r => exact .base (Rd1.ty ho (.scr h r) e)
  | dct h q r => exact .base (Rd1.ty ho (.dct h q r) e)
  | dtt h q r => exact .base (Rd1.ty ho (.dtt h q r) e)
  | obj h q r => exact .base (Rd1.ty ho (.obj h q r) e)
  | xo0 => cases e
  | xo1 => cases e
def isiE (ow er : List Str) (T : Kit) (c : Ty) (d : D) : Option XV := (tyE ow er d).bind fun t => (T.find t c).map fun b => .v (.bl b)
section
variable {X : Cx}
theorem re_isiE {a b : PySem.Expr} {m : M XV} {W : WX} {c : Ty} {ow er : List Str} {T : Kit} {p pos : Pos} (ho : ow.all (insB X.K) = true) (hr : er.all (erB X.K) = true) (hT : T.ok X.K = true) (hg : Gl X "isinstance") (hm : X.mg "isinstance" = none) (ha : PE X a (tE X.K W m)) (hb : PE X b (tC (tyV X.K c)))
    (h1 : starEach (b :: []) X.env = (false, eval b X.env) :: starEach [] X.env := by rfl) (h2 : starEach (a :: [b]) X.env = (false, eval a X.env) :: starEach [b] X.env := by rfl) (hpl : (backTo pos (starEach [b] X.env)).any (·.1) = false := by rfl) :
    PE X (.Call (.Name "isinstance" p) [a, b] [] pos) (tE X.K W (iPrim (f1 (isiE ow er T c)) (evCons m evNil))) := by
  refine peImp (pe_callB call_isiY hg hm rfl (pa_cons ha (pa_cons hb pa_nil h1) h2) (by decide) (by decide) h2 hpl) fun σ H Q h => ?_
  refine tE_mono (tA_one (prim_to h)) fun x H1 q => ?_
  obtain ⟨G, la, st, ds, bb, rd, w⟩ := q
  cases rd with
  | cons h1 t =>
    cases t
    rename_i d
    have e1 : f1 (isiE ow er T c) [d] = isiE ow er T c d := rfl
    rw [e1] at w
    cases e2 : isiE ow er T c d with
    | none => rw [e2] at w; exact False.elim w
    | some z =>
      rw [e2] at w
      unfold isiE at e2
      obtain ⟨t, e3, e2⟩ := Option.bind_eq_some_iff.mp e2
      obtain ⟨k, e4, rfl⟩ := Option.map_eq_some_iff.mp e2
      exact ⟨x, tyV X.K c, tyVal X.K t, tyVal X.K c, k, rfl, by cases c <;> constructor, h1.tyE ho hr e3, Kit.get hT e4, Aft.val w bb (.bl _)⟩
/-! ### lists of the very same things -/
def cellQ : D → Option Nat
  | .cell n => some n
  | _ => none
def cellsQ : List D → Option (List Nat)
  | [] => some []
  | d :: ds => (cellQ d).bind fun n => (cellsQ ds).bind fun ns => some (n :: ns)
def sameC : D → D → Bool
  | .lst xs, .lst ys => match cellsQ xs, cellsQ ys with
    | some a, some b => decide (a = b)
    | _, _ => false
  | _, _ => false
theorem cells_v {K : Frag} {G : Hp} {la : List Addr} : ∀ {vs us : List V} {xs ys : List D} {ns : List Nat}, RepL K G la vs xs → RepL K G la us ys → cellsQ xs = some ns → cellsQ ys = some ns → vs = us ∧ ∀ v ∈ vs, ∃ a, v = .ref a
  | _, _, _, _, _, .nil, .nil, _, _ => ⟨rfl, fun _ h => nomatch h⟩
  | _, _, _, _, _, .nil, .cons _ _, e1, e2 => by
    cases e1
    unfold cellsQ at e2
    obtain ⟨n, h1, e2⟩ := Option.bind_eq_some_iff.mp e2
    obtain ⟨ns, h2, e2⟩ := Option.bind_eq_some_iff.mp e2
    cases e2
  | _, _, _, _, _, .cons _ _, .nil, e1, e2 => by
    cases e2
    unfold cellsQ at e1
    obtain ⟨n, h1, e1⟩ := Option.bind_eq_some_iff.mp e1
    obtain ⟨ns, h2, e1⟩ := Option.bind_eq_some_iff.mp e1
    cases e1
  | _, _, _, _, _, .cons (d := d1) r1 t1, .cons (d := d2) r2 t2, e1, e2 => by
    unfold cellsQ at e1 e2
    obtain ⟨n, h1, e1⟩ := Option.bind_eq_some_iff.mp e1
    obtain ⟨ns, h2, e1⟩ := Option.bind_eq_some_iff.mp e1
    obtain ⟨m, h3, e2⟩ := Option.bind_eq_some_iff.mp e2
    obtain ⟨ms, h4, e2⟩ := Option.bind_eq_some_iff.mp e2
    cases e1
    cases e2
    obtain ⟨ih, ihr⟩ := cells_v t1 t2 h2 h4
    cases r1 with
    | cell g1 =>
      cases h1
      cases r2 with
      | cell g2 =>
        cases h3
        rw [g1] at g2
        cases g2
        refine ⟨by rw [ih], fun v hv => ?_⟩
        rcases List.mem_cons.mp hv with rfl | hv
        · exact ⟨_, rfl⟩
        · exact ihr v hv
      | _ => cases h3
    | _ => cases h1
/-- two lists of the same objects are not unlike -/
def rNeS (K : Frag) : R2 := fun x y H Q => ∃ a b xs, x = .ref a ∧ y = .ref b ∧ SqL K H a xs ∧ SqL K H b xs ∧ (∀ v ∈ xs, ∃ c, v = V.ref c) ∧ Q (.bl false) H
theorem refs_vals : ∀ {xs : List V} {us ws : List Value}, (∀ v ∈ xs, ∃ c, v = V.ref c) → Vals xs us → Vals xs ws → us = ws
  | [], _, _, _, .nil, .nil => rfl
  | _ :: _, _, _, h, .cons a1 b1, .cons a2 b2 => by
    obtain ⟨c, rfl⟩ := h _ List.mem_cons_self
    cases (show _ = Value.ref c from a1)
    cases (show _ = Value.ref c from a2)
    rw [refs_vals (fun v hv => h v (List.mem_cons_of_mem _ hv)) b1 b2]
theorem op_neS (hu : X.A.units < cLine) : OpR X (compareOp .NotEq) (rNeS X.K) := by
  intro pins s σ H x y v u Q I rx ry h
  obtain ⟨a, b, xs, rfl, rfl, ha, hb, hr, q⟩ := h
  cases (show v = Value.ref a from rx)
  cases (show u = Value.ref b from ry)
  obtain ⟨us, r1, p1, _⟩ := I.list ha
  obtain ⟨ws, r2, p2, _⟩ := I.list hb
  cases refs_vals hr r1 r2
  have h := SeqAt.RcNeAt.lists (A := X.A) (e := fun _ => true) p1.isList p2.isList rfl hu (fun j h1 h2 => SeqAt.EqAt.same _)
  refine h X.prog X.w _ _ ?_
  rw [show ((List.range us.toArray.size).all fun _ => true) = true from List.all_eq_true.mpr fun _ _ => rfl]
  exact ⟨.bl false, H, I, rfl, q⟩
def neS (d e : D) : Option XV := if sameC d e = true then some (.v (.bl false)) else neD d e
theorem y_neS (hu : X.A.units + 64 < cLine) : OpR X (compareOp .NotEq) (R2D X.K (f2 neS)) := op2 (OpR.or (op_neS (by omega)) (OpR.or op_ne (op_neD hu))) fun G la st x y d e H Q z b h1 h2 e1 w => by
  unfold neS at e1
  by_cases hs : sameC d e = true
  · rw [if_pos hs] at e1
    cases e1
    refine .inl ?_
    unfold sameC at hs
    split at hs
    · split at hs
      · rename_i a b' ea eb
        have hs := of_decide_eq_true hs
        subst hs
        cases h1 with
        | lst g1 r1 =>
          cases h2 with
          | lst g2 r2 =>
            obtain ⟨rfl, hr⟩ := cells_v r1 r2 ea eb
            exact ⟨_, _, _, rfl, rfl, SqL.of g1, SqL.of g2, hr, w.val b (.bl _)⟩
      · cases hs
    · cases hs
  · rw [if_neg hs] at e1
    refine .inr ?_
    unfold neD at e1
    obtain ⟨k, e0, e2⟩ := Option.map_eq_some_iff.mp e1
    subst e2
    rcases eq_to b.sub h1 h2 e0 with ⟨h, e⟩ | ⟨p, q, h3, h4, h5, h6, e⟩
    · exact .inl ⟨h, by rw [← e]; exact w.val b (.bl _)⟩
    · exact .inr ⟨p, q, h3, h4, h5, h6, by rw [← e]; exact w.val b (.bl _)⟩
/-! ### a new container becomes a cell -/
def celR : XV → Store → Res XV := fun x st => match x with
  | .n d => .ok (.v (.cell st.length)) (st ++ [some d])
  | x => .ok x st
def iCell (m : M XV) : M XV := fun env st => (m env st).bind celR
theorem re_cell {W : WX} {e : PySem.Expr} {m : M XV} (h : PE X e (tE X.K W m)) : PE X e (tE X.K W (iCell m)) := by
  refine peImp h fun σ H Q h => ?_
  obtain ⟨G, la, env, st, b, h⟩ := h
  refine ⟨G, la, env, st, b, ?_⟩
  unfold iCell at h
  cases e1 : m env st with
  | bad => rw [e1] at h; exact h
  | ex c fs st1 => rw [e1] at h; exact h
  | ok x st1 =>
    rw [e1] at h
    intro v H1 G1 la1 p o
    cases x with
    | v d => exact h v H1 G1 la1 p o
    | s i d => exact h v H1 G1 la1 p o
    | n d =>
      obtain ⟨a, rfl, c, g, n, f⟩ := o
      refine h _ H1 G1 (la1 ++ [a]) (p.cellOf c g n f) ?_
      show Rep X.K G1 (la1 ++ [a]) (.ref a) (.cell st1.length)
      exact .cell (by rw [← p.rel.len, List.getElem?_append_right (Nat.le_refl _), Nat.sub_self]; rfl)
end
/-! ### dicts are shown -/
def putKD {κ : Type} [DecidableEq κ] (ks : List κ) (vs : List D) (k : κ) (v : D) : List κ × List D := if k ∈ ks then (ks, List.zipWith (fun k' d => if k' = k then v else d) ks vs) else (ks ++ [k], vs ++ [v])
theorem putK_rep {κ : Type} [DecidableEq κ] {K : Frag} {G : Hp} {la : List Addr} {k : κ} {v : V} {d : D} (hv : Rep K G la v d) {kvs : List (κ × V)} {vs : List D} (r : RepL K G la (kvs.map (·.2)) vs) :
    (putK kvs k v).map (·.1) = (putKD (kvs.map (·.1)) vs k d).1 ∧ RepL K G la ((putK kvs k v).map (·.2)) (putKD (kvs.map (·.1)) vs k d).2 := by
  unfold putK putKD
  by_cases h : k ∈ kvs.map (·.1)
  · have ha : (kvs.any fun kv => decide (kv.1 = k)) = true := by
      obtain ⟨p, hp, e⟩ := List.mem_map.mp h
      exact List.any_eq_true.mpr ⟨p, hp, decide_eq_true e⟩
    rw [if_pos h, if_pos ha]
    refine ⟨?_, ?_⟩
    · rw [List.map_map]
      refine List.map_congr_left fun p hp => ?_
      show (if p.1 = k then (p.1, v) else p).1 = p.1
      split <;> rfl
    · clear h ha
      induction kvs generalizing vs with
      | nil => cases r; exact .nil
      | cons p t ih =>
        cases r with
        | cons r1 r2 =>
          rename_i d1 ds1
          show RepL K G la ((if p.1 = k then (p.1, v) else p).2 :: _) ((if p.1 = k then d else d1) :: _)
          by_cases hk : p.1 = k
          · rw [if_pos hk, if_pos hk]
            exact .cons hv (ih r2)
          · rw [if_neg hk, if_neg hk]
            exact .cons r1 (ih r2)
  · have ha : ¬ (kvs.any fun kv => decide (kv.1 = k)) = true := fun q => by
      obtain ⟨p, hp, e⟩ := List.any_eq_true.mp q
      exact h (List.mem_map.mpr ⟨p, hp, of_decide_eq_true e⟩)
    rw [if_neg h, if_neg ha]
    refine ⟨by rw [List.map_append]; rfl, ?_⟩
    rw [List.map_append]
    exact r.app (RepL.one hv)
/-- o[i] = e, o a dict -/
def putQD : D → D → D → Option D
  | .dct ks vs, k, v => (keyD k).bind fun k => if ks.length < sizeLine then some (.dct (putKD ks vs k v).1 (putKD ks vs k v).2) else none
  | .dtt ks vs, .tup k, v => (keysD k).bind fun k => if ks.length < sizeLine then some (.dtt (putKD ks vs k v).1 (putKD ks vs k v).2) else none
  | _, _, _ => none
theorem putD_to {K : Frag} {G H : Hp} {la : List Addr} {a : Addr} {d d' di dv : D} {i v : V} {Q : Hp → Prop} (c : Con K G la H a d) (hi : Rd1 K G la H i di) (hv : Rep K G la v dv) (e : putQD d di dv = some d') (k : ∀ u, Con K G la (upd H a u) a d' → Q (upd H a u)) : rSetD (.ref a) i v H Q := by
  unfold putQD at e
  split at e
  · obtain ⟨k1, e1, e⟩ := Option.bind_eq_some_iff.mp e
    split at e
    · rename_i hl
      cases e
      cases hi.key e1
      cases c with
      | dct h q r =>
        subst q
        rw [List.length_map] at hl
        obtain ⟨g1, g2⟩ := putK_rep (k := k1) hv r
        exact ⟨a, _, rfl, DPut.k h hl, k _ (.dct upd_same g1 g2)⟩
    · cases e
  · obtain ⟨k1, e1, e⟩ := Option.bind_eq_some_iff.mp e
    split at e
    · rename_i hl
      cases e
      cases hi with
      | tup h2 r2 =>
        cases r2.keys e1
        cases c with
        | dtt h q r =>
          subst q
          rw [List.length_map] at hl
          obtain ⟨g1, g2⟩ := putK_rep (k := k1) hv r
          exact ⟨a, _, rfl, DPut.t h h2 hl, k _ (.dtt upd_same g1 g2)⟩
    · cases e
  · cases e
def sStoreD (m mo mi : M XV) : MS := fun env st => (m env st).fl env fun x st1 => (mo env st1).fl env fun o st2 => (mi env st2).fl env fun i st3 => flLift (valX x) fun v => flLift (i.con st3) fun k => stF (fun c => putQD c k v) o env st3
section
variable {X : Cx} {W : WX} {G0 H0 : Hp} {la0 : List Addr} {o i e : PySem.Expr} {m mo mi : M XV} {pos pos' : Pos}
theorem rs_storeD (hu : X.A.units + 1 < cLine) (he : PE X e (tE X.K W m)) (ho : PE X o (tE X.K W mo)) (hi : PE X i (tE X.K W mi)) (hs : swapsWithSole [.Subscript o i pos'] e pos.line X.env = pure false := by rfl) (hw : swappedStores [.Subscript o i pos'] e X.env = pure none := by rfl)
    (h1 : (assignEach [.Subscript o i pos'] X.env).map (·.2) = [assign (.Subscript o i pos') X.env] := by rfl) (ha : ∀ v, assign (.Subscript o i pos') X.env v = (do
      let ov ← holding [v] (eval o X.env)
      let iv ← holding [v, ov] (eval i X.env)
      standAt pos'
      holding [v, ov, iv] (setItem ov iv v)
      release [v, ov, iv] []) := by intro _; rfl) : PS X (.Assign [.Subscript o i pos'] e pos) (tS X.K W G0 la0 H0 (sStoreD m mo mi)) := by
  refine psImp (ps_asg he (pg_sub ho hi (L2.set_dict hu) ha) hs hw h1) fun D σ H h => ?_
  obtain ⟨G, la, env, st, f, h⟩ := h
  unfold sStoreD at h
  refine tE_stmtF f h fun G1 la1 st1 x v H1 p1 f1 o1 w => ?_
  cases ev : valX x with
  | none =>
    refine tE_stmtF f1 w fun G2 la2 st2 y b H2 p2 f2 o2 w => ?_
    refine tE_stmtF f2 w fun G3 la3 st3 z c H3 p3 f3 o3 w => ?_
    rw [ev] at w
    exact False.elim w
  | some dv =>
    obtain ⟨l1, l2⟩ := fr_low f p1
    obtain ⟨G1', f1', r1, s1⟩ := OutX.froze f1 o1 l1 l2 ev
    refine tE_stmtF f1' (w.mono s1 (Pre.refl _)) fun G2 la2 st2 y b H2 p2 f2 o2 w => ?_
    refine tE_stmtF f2 w fun G3 la3 st3 z c H3 p3 f3 o3 w => ?_
    rw [ev] at w
    obtain ⟨_, e0, w⟩ := wantS_lift w
    cases e0
    obtain ⟨dk, ek, w⟩ := wantS_lift w
    have r3 := (r1.mono p2.same p2.pre).mono p3.same p3.pre
    have hk := f3.bd.read o3 ek
    cases y with
    | n d => exact False.elim w
    | v d =>
      have o2 : Rep X.K G2 la2 b d := o2
      refine stF_ok (Hs := H3) f3 (o := .v d) (v := b) (o2.mono p3.same p3.pre) w fun a d d' ea c e k => ?_
      subst ea
      exact putD_to c hk r3 e k
    | s j d =>
      refine stF_ok (Hs := H3) f3 (o := .s j d) (v := b) o2 w fun a d d' ea c e k => ?_
      subst ea
      exact putD_to c hk r3 e k
end
end Y

set_option maxHeartbeats 4000000
/-! Y18: dict displays. -/
namespace Y
open PySem L2 PySem.Spec PyProof.Rows He
open PySem.W (Frag)

def pairF (k v : XV) (ps : List (D × D)) (st : Store) : Res (List (D × D)) := match k.fz, v.fz with
  | .v dk, .v dv => .ok ((dk, dv) :: ps) st
  | _, _ => .bad
def iPairs : List (M XV × M XV) → M (List (D × D))
  | [] => fun _ st => .ok [] st
  | (mk, mv) :: r => fun env st => (mk env st).bind fun k st1 => (mv env st1).bind fun v st2 => (iPairs r env st2).bind fun ps st3 => pairF k v ps st3
abbrev ODP (K : Frag) : Env → Hp → List Addr → Hp → Hp → List (D × D) → List (V × V) → Prop := fun _ G la _ _ ps vs => RepL K G la (vs.map (·.1)) (ps.map (·.1)) ∧ RepL K G la (vs.map (·.2)) (ps.map (·.2))
theorem pairs_to {K : Frag} {W : WX} {σ : L2.St} : ∀ (ms : List (M XV × M XV)) {H : Hp} {Q : List (V × V) → Hp → Prop} (_ : ∃ G la env st, Bd K G la st H env σ ∧ Want K W (ODP K env) G la H σ Q (iPairs ms env st)), tPairs (ms.map fun q => (tE K W q.1, tE K W q.2)) σ H Q
  | [], H, Q, h => by
    obtain ⟨G, la, env, st, b, h⟩ := h
    exact h [] H G la (Post.refl b.rel) ⟨.nil, .nil⟩
  | (mk, mv) :: r, H, Q, h => by
    refine tE_bind (α := List (D × D)) (γ := List (V × V)) (k := fun k env st1 => (mv env st1).bind fun v st2 => (iPairs r env st2).bind fun ps st3 => pairF k v ps st3) (O := fun env => ODP K env) (fun _ _ _ _ _ _ _ _ _ _ _ _ _ _ _ o => o) h fun G la env st x v H1 b o w => ?_
    refine ⟨G, la, env, st, b, ?_⟩
    show Want K W (OE K env σ) G la H1 σ _ (mv env st)
    have w : Want K W (ODP K env) G la H1 σ Q ((mv env st).bind fun v st2 => (iPairs r env st2).bind fun ps st3 => pairF x v ps st3) := w
    cases e1 : mv env st with
    | bad => rw [e1] at w; exact w
    | ex c fs st1 => rw [e1] at w; exact w
    | ok y st2 =>
      rw [e1] at w
      intro v2 H2 G2 la2 p2 o2
      obtain ⟨G3, p3, o3⟩ := OutX.freeze p2 o2
      refine pairs_to r ⟨G3, la2, env, st2, b.step p3, ?_⟩
      have w : Want K W (ODP K env) G la H1 σ Q ((iPairs r env st2).bind fun ps st3 => pairF x y ps st3) := w
      have w := Want.after p3 (fun _ _ _ _ _ _ o => o) w
      cases e2 : iPairs r env st2 with
      | bad => rw [e2] at w; exact w
      | ex c fs st1 => rw [e2] at w; exact w
      | ok ps st3 =>
        rw [e2] at w
        have w : Want K W (ODP K env) G3 la2 H2 σ Q (pairF x y ps st3) := w
        intro vs H3 G4 la4 p4 o4
        unfold pairF at w
        split at w
        · rename_i dk dv ek ev
          rw [ek] at o
          rw [ev] at o3
          have o : Rep K G la v dk := o
          have o3 : Rep K G3 la2 v2 dv := o3
          exact w ((v, v2) :: vs) H3 G4 la4 p4 ⟨.cons ((o.mono p3.same p3.pre).mono p4.same p4.pre) o4.1, .cons (o3.mono p4.same p4.pre) o4.2⟩
        · exact w.elim
def mergeD : List (Key × D) → List Key × List D → List Key × List D
  | [], q => q
  | (k, d) :: r, q => mergeD r (putKD q.1 q.2 k d)
def keysP : List (D × D) → Option (List (Key × D))
  | [] => some []
  | (k, d) :: r => (keyD k).bind fun k => (keysP r).bind fun ps => some ((k, d) :: ps)
theorem keysP_rep {K : Frag} {G : Hp} {la : List Addr} : ∀ {vs : List (V × V)} {ps : List (D × D)} {kds : List (Key × D)}, RepL K G la (vs.map (·.1)) (ps.map (·.1)) → RepL K G la (vs.map (·.2)) (ps.map (·.2)) → keysP ps = some kds →
    ∃ kvs : List (Key × V), vs = kvs.map (fun kv => (kV kv.1, kv.2)) ∧ kvs.map (·.1) = kds.map (·.1) ∧ RepL K G la (kvs.map (·.2)) (kds.map (·.2))
  | [], [], kds, _, _, e => by cases e; exact ⟨[], rfl, rfl, .nil⟩
  | [], _ :: _, _, h, _, _ => nomatch h
  | _ :: _, [], _, h, _, _ => nomatch h
  | (a, b) :: vs, (c, d) :: ps, kds, .cons h1 t1, .cons h2 t2, e => by
    unfold keysP at e
    obtain ⟨k, e1, e⟩ := Option.bind_eq_some_iff.mp e
    obtain ⟨kr, e2, e⟩ := Option.bind_eq_some_iff.mp e
    cases e
    obtain ⟨kvs, g1, g2, g3⟩ := keysP_rep t1 t2 e2
    have h1 : Rep K G la a c := h1
    have h2 : Rep K G la b d := h2
    cases h1.key e1
    subst g1
    exact ⟨(k, b) :: kvs, rfl, by rw [List.map_cons, List.map_cons, g2], .cons h2 g3⟩
theorem merge_rep {K : Frag} {G : Hp} {la : List Addr} : ∀ {kvs : List (Key × V)} {kds : List (Key × D)} {acc : List (Key × V)} {q : List Key × List D}, kvs.map (·.1) = kds.map (·.1) → RepL K G la (kvs.map (·.2)) (kds.map (·.2)) → acc.map (·.1) = q.1 → RepL K G la (acc.map (·.2)) q.2 →
    (mergeK acc kvs).map (·.1) = (mergeD kds q).1 ∧ RepL K G la ((mergeK acc kvs).map (·.2)) (mergeD kds q).2
  | [], [], acc, q, _, _, h1, h2 => ⟨h1, h2⟩
  | [], _ :: _, _, _, h, _, _, _ => nomatch h
  | _ :: _, [], _, _, h, _, _, _ => nomatch h
  | (k, v) :: kvs, (k2, d) :: kds, acc, (q1, q2), h, .cons r1 r2, h1, h2 => by
    have h : k :: kvs.map (·.1) = k2 :: kds.map (·.1) := h
    injection h with hk ht
    subst hk
    subst h1
    have r1 : Rep K G la v d := r1
    obtain ⟨g1, g2⟩ := putK_rep (k := k) r1 h2
    exact merge_rep (kvs := kvs) (kds := kds) (acc := putK acc k v) (q := putKD (acc.map (·.1)) q2 k d) ht r2 g1 g2
def iDisp (ms : List (M XV × M XV)) : M XV := fun env st => (iPairs ms env st).bind fun ps st1 => lift ((keysP ps).bind fun kds => if kds.length ≤ 15 then some (.n (.dct (mergeD kds ([], [])).1 (mergeD kds ([], [])).2)) else none) st1
section
variable {X : Cx} {W : WX}
theorem re_disp {pos : Pos} {keys : List (Option PySem.Expr)} {values : List PySem.Expr} {ms : List (M XV × M XV)} (h : PPs X pos keys values (ms.map fun q => (tE X.K W q.1, tE X.K W q.2))) (hall : keys.all (·.isSome) = true := by rfl) (hl : keys.length = values.length := by rfl) (h0 : keys ≠ [] := by intro h; cases h)
    (h15 : keys.length ≤ 15 := by decide) : PE X (.Dict keys values pos) (tE X.K W (iDisp ms)) := by
  refine peImp (pe_disp h hall hl h0 h15) fun σ H Q hq => ?_
  obtain ⟨G, la, env, st, b, hq⟩ := hq
  intro p hp
  have p0 : Post X.K G la H G la st (upd H p (.dK [])) := Post.new b.rel hp
  refine pairs_to ms ⟨G, la, env, st, b.step p0, ?_⟩
  unfold iDisp at hq
  cases e : iPairs ms env st with
  | bad => rw [e] at hq; exact hq
  | ex c fs st1 => rw [e] at hq; exact fun d H' G' la' p1 x => hq d H' G' la' (p0.trans p1) x
  | ok ps st1 =>
    rw [e] at hq
    intro vs H1 G1 la1 p1 o
    obtain ⟨z, e1, w⟩ := want_lift (O := OE X.K env σ) hq
    obtain ⟨kds, e2, e1⟩ := Option.bind_eq_some_iff.mp e1
    split at e1
    · rename_i h15'
      cases e1
      obtain ⟨kvs, g1, g2, g3⟩ := keysP_rep o.1 o.2 e2
      have hkl : kvs.length = kds.length := by
        have := congrArg List.length g2
        simpa using this
      have hn : p ∉ la := b.rel.free hp
      have gp : G p = none := b.rel.sub.none_of hp
      have k1 : H1 p = some (.dK []) := p1.keep p _ upd_same hn
      obtain ⟨m1, m2⟩ := merge_rep (acc := []) (q := ([], [])) g2 g3 rfl .nil
      have hn1 : p ∉ la1 := fun hm => by
        have := p1.newc p hm hn
        rw [upd_same] at this
        cases this
      have gp1 : G1 p = none := by
        cases q : G1 p with
        | none => rfl
        | some u =>
          rcases p1.newg p u q with h | h | h
          · rw [gp] at h; cases h
          · rw [upd_same] at h; cases h
          · exact absurd h hn
      refine ⟨k1, kvs, g1, by rw [hkl]; exact h15', ?_⟩
      exact w (.ref p) _ G1 la1 ((p0.trans p1).putO gp1 hn1 hp) ⟨p, rfl, .dct upd_same m1 m2, gp1, hn1, hp⟩
    · cases e1
end
end Y

set_option maxHeartbeats 4000000
/-! Y19: what the head tells of error classes. -/
namespace Y
open PySem L2 PySem.Spec PyProof.Rows He
open PySem.W (Frag)

def ccOf (K : Frag) (fI : Addr) : Addr := match K.lookup fI with
  | some ⟨_, _, .func fd, _⟩ => (match fd.closure with
    | (_, c) :: _ => c
    | _ => 0)
  | _ => 0
def cdOf (K : Frag) (fI : Addr) : Addr := match K.lookup fI with
  | some ⟨_, _, .func fd, _⟩ => (match fd.code with
    | .ref a => a
    | _ => 0)
  | _ => 0
theorem init_at {K : Frag} {d : DefY} (e : fnA K (d.at_ K) = d.val) (c : d.ok K = true) (hn : d.clo = [("__class__" : Str)]) (hname : d.name = "__init__") :
    ∃ (oc : Value) (od : Option Addr) (kV doc pm : Value) (an : Option Addr) (ct : Value) (osl : Array (Option Value)), K.lookup (d.at_ K) = some ⟨oc, od, .func (PySem.W.fnX "__init__" d.qual d.params d.body d.scope [("__class__", ccOf K (d.at_ K))] .none kV doc pm an (.ref (cdOf K (d.at_ K))) ct), osl⟩ ∧
      PySem.W.codeIn K (.ref (cdOf K (d.at_ K))) d.qual = true := by
  obtain ⟨kp, c2⟩ := ba c
  unfold fnA at e
  unfold ccOf cdOf
  cases q : K.lookup (d.at_ K) with
  | none =>
    rw [q] at c2
    cases c2
  | some o =>
    obtain ⟨oc, od, dt, osl⟩ := o
    rw [q] at c2 e
    cases dt with
    | func fd =>
      obtain ⟨n1, n2, n3, n4, n5, n6, n7, n8, n9, n10, n11, n12, n13, n14, n15⟩ := fd
      have e2 : (some (n1, n2, n3, n4, n5, n6, n7.map (fun q => (q.1, 0)), n15) : FnW) = some (d.name, d.qual, d.params, .stmts d.body, d.scope, mainGlobals, d.clo.map fun x => (x, 0), builtinsNs) := e
      simp only [Option.some.injEq, Prod.mk.injEq] at e2
      obtain ⟨h1, h2, h3, h4, h5, h6, h7, h8⟩ := e2
      have h7 := map_zero h7
      rw [hn] at h7
      rw [hname] at h1
      subst h1 h2 h3 h4 h5 h6 h8
      have c3 : (PySem.W.codeIn K n13 d.qual && (dflB K n8 [] && kwdB K n9 [])) = true := c2
      obtain ⟨k1, k2⟩ := ba c3
      obtain ⟨k3, k4⟩ := ba k2
      have hd : n8 = .none := by
        cases n8 with
        | none => rfl
        | _ => cases k3
      subst hd
      have hcd : ∃ a, n13 = .ref a := by
        cases n13 with
        | ref a => exact ⟨a, rfl⟩
        | _ => cases k1
      obtain ⟨a, rfl⟩ := hcd
      match n7, h7 with
      | [(x, c)], h7 =>
        have h7 : [x] = [("__class__" : Str)] := h7
        injection h7 with h7 _
        subst h7
        exact ⟨oc, od, n9, n10, n11, n12, n14, osl, rfl, k1⟩
    | _ => cases c2
def sxClsB (K : Frag) (C : Addr) : Bool := match K.lookup C with
  | some ⟨.type "type", _, .cls cd, sl⟩ => (match cd.mro, sl.toList with
    | .ref C' :: bm, [_, _, _, _, some (.builtin n), _] => decide (C' = C) && (decide (n = "ValueError.__new__") && (!cd.hasDel && (cd.hasDict && PySem.HandSPX.refsVE bm)))
    | _, _ => false)
  | _ => false
theorem sxCls_ok {K : Frag} {C : Addr} (h : sxClsB K C = true) : ∃ nm q N bs bm sn sub ab col dd k0 k1 k2 k3 k5, K.lookup C = some (excClassObj nm q C N bs bm true sn sub ab col dd k0 k1 k2 k3 k5 "ValueError.__new__") ∧ PySem.HandSPX.refsVE bm = true := by
  unfold sxClsB at h
  split at h
  · rename_i dd cd sl ho
    split at h
    · rename_i C' bm k0 k1 k2 k3 n k5 hm hs
      obtain ⟨g1, h⟩ := ba h
      obtain ⟨g2, h⟩ := ba h
      obtain ⟨g3, h⟩ := ba h
      obtain ⟨g4, g5⟩ := ba h
      have g1 := of_decide_eq_true g1
      have g2 := of_decide_eq_true g2
      have q3 : cd.hasDel = false := by simpa using g3
      clear g3
      obtain ⟨nm, bs, mro, ns, qn, hd, sn, sub, ab, col, del⟩ := cd
      dsimp only at hm q3 g4
      subst hm q3 g4 g1 g2
      have hsl : sl = #[k0, k1, k2, k3, some (.builtin "ValueError.__new__"), k5] := by
        obtain ⟨l⟩ := sl
        simp only at hs
        rw [hs]
      subst hsl
      exact ⟨nm, qn, ns, bs, bm, sn, sub, ab, col, dd, k0, k1, k2, k3, k5, ho, g5⟩
    · cases h
  · cases h
def sxCodeB (file : Str) (K : Frag) (cda : Addr) : Bool := match K.lookup cda with
  | some ⟨_, _, .fields vs, _⟩ => (match vs[2]? with
    | some (Value.str f _) => file == f
    | _ => false)
  | _ => false
theorem sxCode_ok {file : Str} {K : Frag} {cda : Addr} (h : sxCodeB file K cda = true) : ∃ (ccl : Value) (cdd : Option Addr) (vs : Array Value) (ccs : Array (Option Value)) (f : Str) (tf : Tok), K.lookup cda = some ⟨ccl, cdd, .fields vs, ccs⟩ ∧ vs[2]? = some (.str f tf) ∧ (file == f) = true := by
  unfold sxCodeB at h
  split at h
  · rename_i ccl cdd vs ccs ho
    split at h
    · rename_i f tf hv
      exact ⟨ccl, cdd, vs, ccs, f, tf, ho, hv, h⟩
    · cases h
  · cases h
def sxCellB (K : Frag) (cc C : Addr) : Bool := match K.lookup cc with
  | some ⟨_, _, .cell (some (.ref a)), _⟩ => decide (a = C)
  | _ => false
theorem sxCell_ok {K : Frag} {cc C : Addr} (h : sxCellB K cc C = true) : ∃ (cl : Value) (cld : Option Addr) (csl : Array (Option Value)), K.lookup cc = some ⟨cl, cld, .cell (some (.ref C)), csl⟩ := by
  unfold sxCellB at h
  split at h
  · rename_i cl cld a csl ho
    cases of_decide_eq_true h
    exact ⟨cl, cld, csl, ho⟩
  · cases h
def sxB (file : Str) (K : Frag) (c : Str) : Bool :=
  erB K c && (sxClsB K (ga K c) && (eqO (PySem.W.findIn K (.ref (ga K c)) "__setattr__") (some (some (.builtin "object.__setattr__"))) && (eqO (PySem.W.findIn K (.ref (ga K c)) "__init__") (some (some (.ref (ma K (ga K c) "__init__")))) &&
  (decide (PySem.W.typeIn K (.ref (ma K (ga K c) "__init__")) = some (.type "function")) && (eqO (PySem.W.ks_superIn K (ga K c) (ga K c) "__init__") (some (some (.builtin "ValueError.__init__"))) && (decide (PySem.W.subIn K (.ref (ga K c)) (.type "ValueError") = some true) &&
  (decide (PySem.W.mroIn K (ga K c) (.ref (ga K c)) = some true) && (eqO (PySem.W.nsIn K PySem.cStatics "thirdparty.any") (some none) && (sxCodeB file K (cdOf K (ma K (ga K c) "__init__")) && sxCellB K (ccOf K (ma K (ga K c) "__init__")) (ga K c))))))))))
theorem sxc_of {P : Program} {K : Frag} {c file : Str} {d : DefY} (h : sxB file K c = true) (hf : P.main.file = file) (ht : (P.main.scope.names.lookup ("super" : Str)).isSome = false) (hat : d.at_ K = ma K (ga K c) "__init__") (e : fnA K (d.at_ K) = d.val) (ok : d.ok K = true) (hn : d.clo = [("__class__" : Str)] := by rfl) (hname : d.name = "__init__" := by rfl) :
    ErC K (ga K c) ∧ SxC P K (ga K c) (ma K (ga K c) "__init__") (ccOf K (ma K (ga K c) "__init__")) (cdOf K (ma K (ga K c) "__init__")) d.qual d.params d.body d.scope := by
  unfold sxB at h
  obtain ⟨h1, h⟩ := ba h
  obtain ⟨h2, h⟩ := ba h
  obtain ⟨h3, h⟩ := ba h
  obtain ⟨h4, h⟩ := ba h
  obtain ⟨h5, h⟩ := ba h
  obtain ⟨h6, h⟩ := ba h
  obtain ⟨h7, h⟩ := ba h
  obtain ⟨h8, h⟩ := ba h
  obtain ⟨h9, h⟩ := ba h
  obtain ⟨h10, h11⟩ := ba h
  have E := erB_ok h1
  obtain ⟨oc, od, kV, doc, pm, an, ct, osl, g1, g2⟩ := init_at e ok hn hname
  rw [hat] at g1 g2
  subst hf
  exact ⟨E, ⟨sxCls_ok h2, eqO_ok h3, eqO_ok h4, of_decide_eq_true h5, E.kC, E.exC, E.tyC, eqO_ok h6, of_decide_eq_true h7, of_decide_eq_true h8, eqO_ok h9, ⟨oc, od, kV, doc, pm, an, ct, osl, g1⟩, g2, sxCode_ok h10, sxCell_ok h11, ht⟩⟩
def erBaseB (K : Frag) (c : Str) : Bool := erB K c && PySem.W.excIn K (ga K c) [.type "ValueError", .type "Exception", .type "BaseException", .type "object"] "ValueError.__new__"
theorem erBase_ok {K : Frag} {c : Str} (h : erBaseB K c = true) : ErBase K (ga K c) := ⟨erB_ok (ba h).1, (ba h).2⟩
end Y

set_option maxHeartbeats 4000000
/-! Y20: the law's own entry. -/
namespace Y
open PySem L2 PySem.Spec PyProof.Rows He
theorem reps_int {K : PySem.W.Frag} {G : Hp} {la : List Addr} : ∀ ns : List Int, RepL K G la (ns.map V.int) (ns.map D.int)
  | [] => .nil
  | n :: ns => .cons (.int n) (reps_int ns)
theorem law_sp {K : PySem.W.Frag} {f : List D → Store → Res XV} {H : Hp} {a : Addr} {ns : List Int} (hS : SqL K H a (ns.map V.int)) (h : ∃ st', f [.scr (ns.map D.int)] [] = .ok (.v (.bl true)) st') : spY K 1 f [.ref a] H (fun v _ => v = .bl true) (fun _ _ _ => False) := by
  obtain ⟨st', e⟩ := h
  refine ⟨H, [], [], [.scr (ns.map D.int)], rfl, ⟨fun a o h => .inl h, rfl, List.nodup_nil, fun n a d h => by simp at h, fun a h => nomatch h⟩, .cons (.scr hS (reps_int ns)) .nil, ?_⟩
  rw [e]
  intro v H' G' la' p o
  have o : Rep K G' la' v (.bl true) := o
  cases o
  rfl
/-- a law: what it may let out is nothing -/
theorem walk_ofY {l : PySem.W.OpenLaw} {n k : Nat} {q : Program} {loose : List Str} {XP : (Str → Option Value) → Heap → Prop} {YP : World → Heap → Prop} {d : DefRec} {x : Str}
    (hn : l.most = some n) (hn2 : n ≤ sizeLine) (hdf : d.params.defaults = []) (hr : Room k callerA)
    (F : ∀ (w : World) (mg : Str → Option Value) (fa : Addr) (h : Heap), YP w h → h.Ns mainGlobals mg → mg d.name = some (.ref fa) →
      ∃ (K : PySem.W.Frag) (fd : FuncData) (sp : Sp), K.In h ∧ (∀ (s : Shared) (u : Value), BindsTo s fd ⟨[u], []⟩ [(x, u)]) ∧
        (∀ (H : Hp) (a : Addr) (ns : List Int), ns.length ≤ n → L2.Only H → SqL K H a (ns.map V.int) → sp [.ref a] H (fun v _ => v = .bl true) fun _ _ _ => False) ∧
        ∀ base : Heap, K.In base → base.Ns mainGlobals mg → FnOk l.prog w K mg base (L2.CX l.prog w) k fa fd [x] sp) :
    PySem.W.WalkO q loose XP YP l.row.toRowW d [] (fun f vs => PySem.call f vs) := by
  refine Att.attach_call hn hdf fun w s₀ s₁ mg mb fa o pm cd doc a vs ns G Y ho hd hcd hmg hobj hints hlen hg => ?_
  obtain ⟨K, fd, sp, KX, hb, hsp, hF⟩ := F w mg fa _ Y G.T.g hmg
  exact law_call KX G.T.g G.T.b G.T.builtins G.T.nolimit hg hobj hints (Nat.le_trans hlen hn2) hr hF hb (fun H hO hS => hsp H a ns hlen hO hS) fun H e s' z => by
    obtain ⟨_, _, _, _, _, _, _, _, _, _, _, _, h⟩ := z
    exact h
end Y

set_option maxHeartbeats 4000000
/-! Y21: the law's bag of numbers. -/
namespace Y
open PySem L2 PySem.Spec PyProof.Rows He

def bagD (a b c : Int) (l : List Int) : D := .lst [.int a, .int b, .int c, .lst (l.map D.int)]
def bgI (j : Int) : M XV := iPrim (f2 ixD) (evCons (iVar 0) (evCons (iCon (.int j)) evNil))
section
variable {k : Nat} {a b c m : Int} {l : List Int} {st : Store} {env : Env}
theorem bg_ix {j : Int} {d : D} (he : env[0]? = some (some (.v (.cell k)))) (hs : st[k]? = some (some (bagD a b c l))) (hj : atI [D.int a, D.int b, D.int c, D.lst (l.map D.int)] j = some d) : bgI j env st = .ok (.v d) st := by
  simp [bgI, iPrim, evCons, evNil, iVar, iCon, Res.bind, he, XV.fz, conL, XV.con, hs, bagD, f2, ixD, hj, lift]
theorem bg_0 (he : env[0]? = some (some (.v (.cell k)))) (hs : st[k]? = some (some (bagD a b c l))) : bgI 0 env st = .ok (.v (.int a)) st := bg_ix he hs rfl
theorem bg_1 (he : env[0]? = some (some (.v (.cell k)))) (hs : st[k]? = some (some (bagD a b c l))) : bgI 1 env st = .ok (.v (.int b)) st := bg_ix he hs rfl
theorem bg_2 (he : env[0]? = some (some (.v (.cell k)))) (hs : st[k]? = some (some (bagD a b c l))) : bgI 2 env st = .ok (.v (.int c)) st := bg_ix he hs rfl
theorem bg_3 (he : env[0]? = some (some (.v (.cell k)))) (hs : st[k]? = some (some (bagD a b c l))) : bgI 3 env st = .ok (.v (.lst (l.map D.int))) st := bg_ix he hs rfl
/-- the store into the bag -/
theorem bg_put {j : Int} {x : Int} {mx : M XV} {d' : D} (he : env[0]? = some (some (.v (.cell k)))) (hs : st[k]? = some (some (bagD a b c l))) (hx : mx env st = .ok (.v (.int x)) st) (hp : putQ (bagD a b c l) (.int j) (.int x) = some d') : sStore mx (iVar 0) (iCon (.int j)) env st = .nx env (st.set k (some d')) := by
  simp [sStore, hx, Res.fl, iVar, he, iCon, valX, flLift, XV.con, stF, hs, hp]
def tkT0 : M Bool := iBoo (iPrim (f2 eqD) (evCons (bgI 0) (evCons (iCon (.int 0)) evNil)))
theorem tk_T0 (he : env[0]? = some (some (.v (.cell k)))) (hs : st[k]? = some (some (bagD a b c l))) : tkT0 env st = .ok (decide (a = 0)) st := by
  simp [tkT0, iBoo, iPrim, evCons, evNil, bg_0 he hs, Res.bind, iCon, XV.fz, conL, XV.con, f2, eqD, eqQ, lift, isB]
def tkT1 : M Bool := iBoo (iPrim (f2 gtD) (evCons (bgI 0) (evCons (iCon (.int 0)) evNil)))
theorem tk_T1 (he : env[0]? = some (some (.v (.cell k)))) (hs : st[k]? = some (some (bagD a b c l))) : tkT1 env st = .ok (decide (0 < a)) st := by
  simp [tkT1, iBoo, iPrim, evCons, evNil, bg_0 he hs, Res.bind, iCon, XV.fz, conL, XV.con, f2, gtD, lift, isB]
def tkT2 : M Bool := iBoo (iPrim (f2 ltD) (evCons (bgI 2) (evCons (iPrim (f1 lenD) (evCons (bgI 3) evNil)) evNil)))
theorem tk_T2 (he : env[0]? = some (some (.v (.cell k)))) (hs : st[k]? = some (some (bagD a b c l))) : tkT2 env st = .ok (decide (c < l.length)) st := by
  simp [tkT2, iBoo, iPrim, evCons, evNil, bg_2 he hs, bg_3 he hs, Res.bind, iCon, XV.fz, conL, XV.con, f1, f2, ltD, lenD, lift, isB]
def tkP2 : MS := sSet 2 (iPrim (f2 ixD) (evCons (bgI 3) (evCons (bgI 2) evNil)))
theorem tk_P2 {x : Int} (he : env[0]? = some (some (.v (.cell k)))) (hs : st[k]? = some (some (bagD a b c l))) (h0 : 0 ≤ c) (h1 : l[c.toNat]? = some x) : tkP2 env st = .nx (env.set 2 (some (.v (.int x)))) st := by
  have hl : c.toNat < l.length := (List.getElem?_eq_some_iff.mp h1).1
  have hat : atI (l.map D.int) c = some (.int x) := by
    unfold atI ixN
    rw [if_pos h0, if_pos (by rw [List.length_map]; omega), Option.bind_some, List.getElem?_map, h1]
    rfl
  simp [tkP2, sSet, iPrim, evCons, evNil, bg_2 he hs, bg_3 he hs, Res.bind, Res.fl, XV.fz, conL, XV.con, f2, ixD, hat, lift, asV, flLift]
def tkP3 : MS := sAugS iadD (iCon (.int 1)) (iVar 0) (iCon (.int 2))
theorem tk_P3 (he : env[0]? = some (some (.v (.cell k)))) (hs : st[k]? = some (some (bagD a b c l))) : tkP3 env st = .nx env (st.set k (some (bagD a b (c + 1) l))) := by
  have hat : atI [D.int a, D.int b, D.int c, D.lst (l.map D.int)] 2 = some (.int c) := rfl
  have hix : ixN 4 2 = some 2 := rfl
  simp [tkP3, sAugS, iVar, he, iCon, Res.fl, noN, XV.con, hs, bagD, getI, hat, vOf, flLift, iadD, stF, putQ, hix]
def tkT4 : M Bool := iBoo (iPrim (f2 geD) (evCons (iVar 2) (evCons (iCon (.int 1000000000000000000)) evNil)))
theorem tk_T4 {x : Int} (h2 : env[2]? = some (some (.v (.int x)))) : tkT4 env st = .ok (decide (1000000000000000000 ≤ x)) st := by
  simp [tkT4, iBoo, iPrim, evCons, evNil, iVar, h2, Res.bind, iCon, XV.fz, conL, XV.con, f2, geD, lift, isB]
def tkP4 : MS := sIf tkT4 (sStore (iVar 2) (iVar 0) (iCon (.int 0))) sNil
theorem tk_P4 {x : Int} (he : env[0]? = some (some (.v (.cell k)))) (hs : st[k]? = some (some (bagD a b c l))) (h2 : env[2]? = some (some (.v (.int x)))) : tkP4 env st = .nx env (st.set k (some (bagD (if 1000000000000000000 ≤ x then x else a) b c l))) := by
  have hv : iVar 2 env st = .ok (.v (.int x)) st := by simp [iVar, h2]
  have hst : st.set k (some (bagD a b c l)) = st := by
    obtain ⟨hk, e⟩ := List.getElem?_eq_some_iff.mp hs
    rw [← e, List.set_getElem_self]
  by_cases h : 1000000000000000000 ≤ x
  · have := bg_put (j := 0) (mx := iVar 2) he hs hv (d' := bagD x b c l) rfl
    simp [tkP4, sIf, tk_T4 h2, Res.fl, h, this]
  · simp [tkP4, sIf, tk_T4 h2, Res.fl, h, sNil, hst]
def tkE5 : M XV := iPrim (f2 modD) (evCons (iPrim (f2 addD) (evCons (iPrim (f2 addD) (evCons (iPrim (f2 mulD) (evCons (bgI 1) (evCons (iCon (.int 48271)) evNil))) (evCons (iPrim (f2 modD) (evCons (iVar 2) (evCons (iCon (.int 2147483647)) evNil))) evNil))) (evCons (iPrim (f2 mulD) (evCons (iCon (.int 7919)) (evCons (bgI 2) evNil))) evNil))) (evCons (iCon (.int 2147483647)) evNil))
theorem log2_lt {n : Int} (h0 : 0 ≤ n) (h : n < 2 ^ 64) : n.natAbs.log2 < 64 := by
  by_cases z : n.natAbs = 0
  · rw [z]; decide
  · exact (Nat.log2_lt z).mpr (by omega)
theorem tk_E5 {x : Int} (he : env[0]? = some (some (.v (.cell k)))) (hs : st[k]? = some (some (bagD a b c l))) (h2 : env[2]? = some (some (.v (.int x)))) (hb0 : 0 ≤ b) (hb1 : b < 2147483647) (hc0 : 0 ≤ c) (hc1 : c < 2 ^ 40) :
    tkE5 env st = .ok (.v (.int ((b * 48271 + x.fmod 2147483647 + 7919 * c).fmod 2147483647))) st := by
  have l1 : b.natAbs.log2 < 64 := log2_lt hb0 (by omega)
  have l2 : c.natAbs.log2 < 64 := log2_lt hc0 (by omega)
  have l3 : (48271 : Int).natAbs.log2 = 15 := by decide +kernel
  have l4 : (7919 : Int).natAbs.log2 = 12 := by decide +kernel
  have q1 : b.natAbs.log2 + (48271 : Int).natAbs.log2 < 1000000 := by omega
  have q2 : (7919 : Int).natAbs.log2 + c.natAbs.log2 < 1000000 := by omega
  simp only [tkE5, iPrim, evCons, evNil, bg_1 he hs, bg_2 he hs, Res.bind, iCon, iVar, h2, XV.fz, conL, XV.con, f2, mulD, if_pos q1, if_pos q2, modD, if_pos (show (2147483647 : Int) ≠ 0 by decide), addD, lift, Option.bind]
def tkP5 : MS := sStore tkE5 (iVar 0) (iCon (.int 1))
theorem tk_P5 {x : Int} (he : env[0]? = some (some (.v (.cell k)))) (hs : st[k]? = some (some (bagD a b c l))) (h2 : env[2]? = some (some (.v (.int x)))) (hb0 : 0 ≤ b) (hb1 : b < 2147483647) (hc0 : 0 ≤ c) (hc1 : c < 2 ^ 40) :
    tkP5 env st = .nx env (st.set k (some (bagD a ((b * 48271 + x.fmod 2147483647 + 7919 * c).fmod 2147483647) c l))) :=
  bg_put (j := 1) he hs (tk_E5 he hs h2 hb0 hb1 hc0 hc1) rfl
def tkA : MS := sCons (sSet 2 (iCon (.int 0))) (sCons (sIf tkT2 tkP2 sNil) (sCons tkP3 (sCons tkP4 tkP5)))
theorem fmod_rng {x n : Int} (h : 0 < n) : 0 ≤ x.fmod n ∧ x.fmod n < n := ⟨Int.fmod_nonneg_of_pos _ h, Int.fmod_lt_of_pos _ h⟩
theorem set_get' {x : D} (hs : ∃ d, st[k]? = some (some d)) : (st.set k (some x))[k]? = some (some x) := by
  obtain ⟨d, hs⟩ := hs
  exact List.getElem?_set_self (List.getElem?_eq_some_iff.mp hs).1
theorem tk_A (he : env[0]? = some (some (.v (.cell k)))) (h6 : env.length = 6) (hs : st[k]? = some (some (bagD a b c l))) (hb0 : 0 ≤ b) (hb1 : b < 2147483647) (hc0 : 0 ≤ c) (hc1 : c < 2 ^ 40 - 1) (ha : a = 0) (hl : ∀ x ∈ l, 0 ≤ x) :
    ∃ a' b' x, tkA env st = .nx (env.set 2 (some (.v (.int x)))) (st.set k (some (bagD a' b' (c + 1) l))) ∧ 0 ≤ a' ∧ 0 ≤ b' ∧ b' < 2147483647 := by
  have key : ∀ (x : Int), 0 ≤ x → (sIf tkT2 tkP2 sNil) (env.set 2 (some (.v (.int 0)))) st = .nx (env.set 2 (some (.v (.int x)))) st → ∃ a' b' x, tkA env st = .nx (env.set 2 (some (.v (.int x)))) (st.set k (some (bagD a' b' (c + 1) l))) ∧ 0 ≤ a' ∧ 0 ≤ b' ∧ b' < 2147483647 := fun x hx e => by
    have he' : (env.set 2 (some (.v (.int x))))[0]? = some (some (.v (.cell k))) := by rw [List.getElem?_set_ne (by decide)]; exact he
    have h2' : (env.set 2 (some (Sl.v (.int x))))[2]? = some (some (.v (.int x))) := List.getElem?_set_self (by omega)
    have g1 := set_get' (k := k) (x := bagD a b (c + 1) l) ⟨_, hs⟩
    have g2 := set_get' (k := k) (x := bagD (if 1000000000000000000 ≤ x then x else a) b (c + 1) l) ⟨_, hs⟩
    refine ⟨if 1000000000000000000 ≤ x then x else a, (b * 48271 + x.fmod 2147483647 + 7919 * (c + 1)).fmod 2147483647, x, ?_, by split <;> omega, (fmod_rng (by decide)).1, (fmod_rng (by decide)).2⟩
    have s1 : sSet 2 (iCon (.int 0)) env st = .nx (env.set 2 (some (.v (.int 0)))) st := rfl
    simp only [tkA, sCons, s1, Fl.bind, e, tk_P3 he' hs, tk_P4 he' g1 h2', List.set_set, tk_P5 he' g2 h2' hb0 hb1 (show 0 ≤ c + 1 by omega) (show c + 1 < 2 ^ 40 by omega)]
  have he0 : (env.set 2 (some (Sl.v (.int 0))))[0]? = some (some (.v (.cell k))) := by rw [List.getElem?_set_ne (by decide)]; exact he
  by_cases hcl : c < l.length
  · obtain ⟨x, hx⟩ : ∃ x, l[c.toNat]? = some x := ⟨l[c.toNat]'(by omega), List.getElem?_eq_getElem (by omega)⟩
    refine key x (hl x (List.mem_of_getElem? hx)) ?_
    simp [sIf, tk_T2 he0 hs, Res.fl, hcl, tk_P2 he0 hs hc0 hx, List.set_set]
  · refine key 0 (Int.le_refl 0) ?_
    simp [sIf, tk_T2 he0 hs, Res.fl, hcl, sNil]
def tkB : MS := sCons (sSet 3 (iPrim (f2 modD) (evCons (bgI 0) (evCons (iVar 1) evNil)))) (sCons (sStore (iPrim (f2 fdivD) (evCons (bgI 0) (evCons (iVar 1) evNil))) (iVar 0) (iCon (.int 0))) (sRet (iVar 3)))
theorem tk_B (he : env[0]? = some (some (.v (.cell k)))) (h1 : env[1]? = some (some (.v (.int m)))) (h6 : env.length = 6) (hs : st[k]? = some (some (bagD a b c l))) (hm : 0 < m) (hm2 : m.natAbs.log2 < 9000) :
    tkB env st = .rt (.v (.int (a.fmod m))) (st.set k (some (bagD (a.fdiv m) b c l))) := by
  have e1 : sSet 3 (iPrim (f2 modD) (evCons (bgI 0) (evCons (iVar 1) evNil))) env st = .nx (env.set 3 (some (.v (.int (a.fmod m))))) st := by
    simp only [sSet, iPrim, evCons, evNil, bg_0 he hs, iVar, h1, Res.bind, Res.fl, XV.fz, conL, XV.con, f2, modD, if_pos (show m ≠ 0 by omega), lift, Option.bind, asV, flLift]
  have he' : (env.set 3 (some (Sl.v (.int (a.fmod m)))))[0]? = some (some (.v (.cell k))) := by rw [List.getElem?_set_ne (by decide)]; exact he
  have h1' : (env.set 3 (some (Sl.v (.int (a.fmod m)))))[1]? = some (some (.v (.int m))) := by rw [List.getElem?_set_ne (by decide)]; exact h1
  have h3' : (env.set 3 (some (Sl.v (.int (a.fmod m)))))[3]? = some (some (.v (.int (a.fmod m)))) := List.getElem?_set_self (by omega)
  have ex : iPrim (f2 fdivD) (evCons (bgI 0) (evCons (iVar 1) evNil)) (env.set 3 (some (.v (.int (a.fmod m))))) st = .ok (.v (.int (a.fdiv m))) st := by
    simp only [iPrim, evCons, evNil, bg_0 he' hs, iVar, h1', Res.bind, XV.fz, conL, XV.con, f2, fdivD, if_pos (show m ≠ 0 ∧ m.natAbs.log2 < 9000 from ⟨by omega, hm2⟩), lift, Option.bind]
  have e2 := bg_put (j := 0) he' hs ex (d' := bagD (a.fdiv m) b c l) rfl
  simp only [tkB, sCons, e1, Fl.bind, e2, sRet, iVar, h3', Res.fl, XV.out]
def tkS1 : MS := sSet 4 (iPrim (f2 modD) (evCons (iPrim (f2 mulD) (evCons (iPrim (f2 addD) (evCons (bgI 1) (evCons (iCon (.int 1)) evNil))) (evCons (iCon (.int 39373)) evNil))) (evCons (iCon (.int 1000000007)) evNil)))
def tkS2 : MS := sSet 5 (iPrim (f2 modD) (evCons (iPrim (f2 mulD) (evCons (iPrim (f2 modD) (evCons (iPrim (f2 mulD) (evCons (iVar 4) (evCons (iVar 4) evNil))) (evCons (iCon (.int 998244353)) evNil))) (evCons (iCon (.int 30011)) evNil))) (evCons (iCon (.int 998244353)) evNil)))
def tkS3 : MS := sIf (iBoo (iPrim (f2 gtD) (evCons (iVar 1) (evCons (iCon (.int 1000000)) evNil)))) (sRet (iPrim (f2 modD) (evCons (iPrim (f2 addD) (evCons (iPrim (f2 mulD) (evCons (iVar 5) (evCons (iCon (.int 1000000007)) evNil))) (evCons (iVar 4) evNil))) (evCons (iVar 1) evNil)))) sNil
def tkS4 : MS := sRet (iPrim (f2 modD) (evCons (iPrim (f2 fdivD) (evCons (iVar 5) (evCons (iCon (.int 7)) evNil))) (evCons (iVar 1) evNil)))
theorem tk_C (he : env[0]? = some (some (.v (.cell k)))) (h1 : env[1]? = some (some (.v (.int m)))) (h6 : env.length = 6) (hs : st[k]? = some (some (bagD a b c l))) (hb0 : 0 ≤ b) (hb1 : b < 2147483647) (hm : 0 < m) :
    ∃ v, sCons tkS1 (sCons tkS2 (sCons tkS3 tkS4)) env st = .rt (.v (.int v)) st ∧ 0 ≤ v ∧ v < m := by
  obtain ⟨x, hx⟩ : ∃ x, x = ((b + 1) * 39373).fmod 1000000007 := ⟨_, rfl⟩
  have x0 : 0 ≤ x ∧ x < 1000000007 := hx ▸ fmod_rng (by decide)
  obtain ⟨y, hy⟩ : ∃ y, y = (((x * x).fmod 998244353) * 30011).fmod 998244353 := ⟨_, rfl⟩
  have y0 : 0 ≤ y ∧ y < 998244353 := hy ▸ fmod_rng (by decide)
  have z0 : 0 ≤ (x * x).fmod 998244353 ∧ (x * x).fmod 998244353 < 998244353 := fmod_rng (by decide)
  have l0 : (b + 1).natAbs.log2 < 64 := log2_lt (by omega) (by omega)
  have l1 : x.natAbs.log2 < 64 := log2_lt x0.1 (by omega)
  have l2 : ((x * x).fmod 998244353).natAbs.log2 < 64 := log2_lt z0.1 (by omega)
  have l3 : y.natAbs.log2 < 64 := log2_lt y0.1 (by omega)
  have c1 : (39373 : Int).natAbs.log2 < 64 := by decide +kernel
  have c2 : (30011 : Int).natAbs.log2 < 64 := by decide +kernel
  have c3 : (1000000007 : Int).natAbs.log2 < 64 := by decide +kernel
  have c4 : (7 : Int).natAbs.log2 < 9000 := by decide +kernel
  have q0 : (b + 1).natAbs.log2 + (39373 : Int).natAbs.log2 < 1000000 := by omega
  have q1 : x.natAbs.log2 + x.natAbs.log2 < 1000000 := by omega
  have q2 : ((x * x).fmod 998244353).natAbs.log2 + (30011 : Int).natAbs.log2 < 1000000 := by omega
  have q3 : y.natAbs.log2 + (1000000007 : Int).natAbs.log2 < 1000000 := by omega
  have n1 : (1000000007 : Int) ≠ 0 := by decide
  have n2 : (998244353 : Int) ≠ 0 := by decide
  have n3 : (7 : Int) ≠ 0 ∧ (7 : Int).natAbs.log2 < 9000 := ⟨by decide, c4⟩
  have n4 : m ≠ 0 := by omega
  have e1 : tkS1 env st = .nx (env.set 4 (some (.v (.int x)))) st := by
    simp only [tkS1, sSet, iPrim, evCons, evNil, bg_1 he hs, iCon, Res.bind, Res.fl, XV.fz, conL, XV.con, f2, addD, mulD, if_pos q0, modD, if_pos n1, lift, Option.bind, asV, flLift, hx]
  have g4 : (env.set 4 (some (Sl.v (.int x))))[4]? = some (some (.v (.int x))) := List.getElem?_set_self (by omega)
  have e2 : tkS2 (env.set 4 (some (.v (.int x)))) st = .nx ((env.set 4 (some (.v (.int x)))).set 5 (some (.v (.int y)))) st := by
    simp only [tkS2, sSet, iPrim, evCons, evNil, iVar, g4, iCon, Res.bind, Res.fl, XV.fz, conL, XV.con, f2, mulD, if_pos q1, if_pos q2, modD, if_pos n2, lift, Option.bind, asV, flLift, hy]
  obtain ⟨env2, henv2⟩ : ∃ e, e = (env.set 4 (some (Sl.v (.int x)))).set 5 (some (.v (.int y))) := ⟨_, rfl⟩
  have g1 : env2[1]? = some (some (.v (.int m))) := by
    rw [henv2, List.getElem?_set_ne (by decide), List.getElem?_set_ne (by decide)]
    exact h1
  have g4' : env2[4]? = some (some (.v (.int x))) := by
    rw [henv2, List.getElem?_set_ne (by decide)]
    exact g4
  have g5 : env2[5]? = some (some (.v (.int y))) := by
    rw [henv2]
    exact List.getElem?_set_self (by rw [List.length_set]; omega)
  rw [← henv2] at e2
  have hc : iBoo (iPrim (f2 gtD) (evCons (iVar 1) (evCons (iCon (.int 1000000)) evNil))) env2 st = .ok (decide (1000000 < m)) st := by
    simp only [iBoo, iPrim, evCons, evNil, iVar, g1, iCon, Res.bind, XV.fz, conL, XV.con, f2, gtD, lift, Option.bind, isB]
  by_cases hbig : 1000000 < m
  · have er : sRet (iPrim (f2 modD) (evCons (iPrim (f2 addD) (evCons (iPrim (f2 mulD) (evCons (iVar 5) (evCons (iCon (.int 1000000007)) evNil))) (evCons (iVar 4) evNil))) (evCons (iVar 1) evNil))) env2 st = .rt (.v (.int ((y * 1000000007 + x).fmod m))) st := by
      simp only [sRet, iPrim, evCons, evNil, iVar, g1, g4', g5, iCon, Res.bind, Res.fl, XV.fz, conL, XV.con, f2, mulD, if_pos q3, addD, modD, if_pos n4, lift, Option.bind, XV.out]
    refine ⟨(y * 1000000007 + x).fmod m, ?_, fmod_rng hm⟩
    have e3 : tkS3 env2 st = .rt (.v (.int ((y * 1000000007 + x).fmod m))) st := by
      simp only [tkS3, sIf, hc, Res.fl, decide_eq_true hbig, if_true, er]
    simp only [sCons, e1, Fl.bind, e2, e3]
  · have e3 : tkS3 env2 st = .nx env2 st := by
      simp only [tkS3, sIf, hc, Res.fl, decide_eq_false hbig, Bool.false_eq_true, if_false, sNil]
    refine ⟨(y.fdiv 7).fmod m, ?_, fmod_rng hm⟩
    have e4 : tkS4 env2 st = .rt (.v (.int ((y.fdiv 7).fmod m))) st := by
      simp only [tkS4, sRet, iPrim, evCons, evNil, iVar, g1, g5, iCon, Res.bind, Res.fl, XV.fz, conL, XV.con, f2, fdivD, if_pos n3, modD, if_pos n4, lift, Option.bind, XV.out]
    simp only [sCons, e1, Fl.bind, e2, e3, e4]
def takeM : MS := sCons (sIf tkT0 tkA sNil) (sCons (sIf tkT1 tkB sNil) (sCons tkS1 (sCons tkS2 (sCons tkS3 tkS4))))
/-- the bag's numbers are as they should -/
structure BagOk (a b c : Int) (l : List Int) : Prop where
  a0 : 0 ≤ a
  b0 : 0 ≤ b
  b1 : b < 2147483647
  c0 : 0 ≤ c
  l0 : ∀ x ∈ l, 0 ≤ x
theorem take_ok (o : BagOk a b c l) (hc : c < 2 ^ 40 - 1) (hs : st[k]? = some (some (bagD a b c l))) (hm : 0 < m) (hm2 : m.natAbs.log2 < 9000) :
    ∃ a' b' c' v, runF 6 takeM [.cell k, .int m] st = .ok (.v (.int v)) (st.set k (some (bagD a' b' c' l))) ∧ BagOk a' b' c' l ∧ c' ≤ c + 1 ∧ 0 ≤ v ∧ v < m := by
  obtain ⟨env, henv⟩ : ∃ e : Env, e = ([D.cell k, .int m].map (fun d => some (Sl.v d)) ++ List.replicate (6 - [D.cell k, D.int m].length) none) := ⟨_, rfl⟩
  have he : env[0]? = some (some (.v (.cell k))) := by rw [henv]; rfl
  have h1 : env[1]? = some (some (.v (.int m))) := by rw [henv]; rfl
  have h6 : env.length = 6 := by rw [henv]; rfl
  have tail : ∀ (env : Env) (st1 : Store) (a b c : Int), env[0]? = some (some (.v (.cell k))) → env[1]? = some (some (.v (.int m))) → env.length = 6 → st1[k]? = some (some (bagD a b c l)) → BagOk a b c l → ∃ a' v, (sCons (sIf tkT1 tkB sNil) (sCons tkS1 (sCons tkS2 (sCons tkS3 tkS4)))) env st1 = .rt (.v (.int v)) (st1.set k (some (bagD a' b c l))) ∧ 0 ≤ a' ∧ 0 ≤ v ∧ v < m := fun env st1 a b c he h1 h6 hs o => by
    by_cases ha : 0 < a
    · refine ⟨a.fdiv m, a.fmod m, ?_, ?_, fmod_rng hm⟩
      · simp only [sCons, sIf, tk_T1 he hs, Res.fl, decide_eq_true ha, if_true, tk_B he h1 h6 hs hm hm2, Fl.bind]
      · rw [Int.fdiv_eq_ediv_of_nonneg _ (by omega)]
        exact Int.ediv_nonneg (by omega) (by omega)
    · obtain ⟨v, e, v0, v1⟩ := tk_C (env := env) he h1 h6 hs o.b0 o.b1 hm
      have hst : st1.set k (some (bagD a b c l)) = st1 := by
        obtain ⟨hk, e⟩ := List.getElem?_eq_some_iff.mp hs
        rw [← e, List.set_getElem_self]
      refine ⟨a, v, ?_, o.a0, v0, v1⟩
      rw [hst]
      have e0 : sIf tkT1 tkB sNil env st1 = .nx env st1 := by
        simp only [sIf, tk_T1 he hs, Res.fl, decide_eq_false ha, Bool.false_eq_true, if_false, sNil]
      show (sIf tkT1 tkB sNil env st1).bind _ = _
      rw [e0]
      exact e
  by_cases ha : a = 0
  · obtain ⟨a', b', x, e, a0, b0, b1⟩ := tk_A he h6 hs o.b0 o.b1 o.c0 hc ha o.l0
    have hs' := set_get' (k := k) (x := bagD a' b' (c + 1) l) ⟨_, hs⟩
    obtain ⟨a2, v, e2, a20, v0, v1⟩ := tail (env.set 2 (some (.v (.int x)))) _ a' b' (c + 1) (by rw [List.getElem?_set_ne (by decide)]; exact he) (by rw [List.getElem?_set_ne (by decide)]; exact h1) (by rw [List.length_set]; exact h6) hs' ⟨a0, b0, b1, by have := o.c0; omega, o.l0⟩
    rw [List.set_set] at e2
    refine ⟨a2, b', c + 1, v, ?_, ⟨a20, b0, b1, by have := o.c0; omega, o.l0⟩, Int.le_refl _, v0, v1⟩
    have e3 : takeM env st = .rt (.v (.int v)) (st.set k (some (bagD a2 b' (c + 1) l))) := by
      show ((sIf tkT0 tkA sNil) env st).bind _ = _
      simp only [sIf, tk_T0 he hs, Res.fl, decide_eq_true ha, if_true, e, Fl.bind]
      exact e2
    show (takeM _ st).res = _
    rw [← henv, e3]
    rfl
  · obtain ⟨a2, v, e2, a20, v0, v1⟩ := tail env st a b c he h1 h6 hs o
    refine ⟨a2, b, c, v, ?_, ⟨a20, o.b0, o.b1, o.c0, o.l0⟩, by omega, v0, v1⟩
    have e3 : takeM env st = .rt (.v (.int v)) (st.set k (some (bagD a2 b c l))) := by
      show ((sIf tkT0 tkA sNil) env st).bind _ = _
      simp only [sIf, tk_T0 he hs, Res.fl, decide_eq_false ha, Bool.false_eq_true, if_false, sNil, Fl.bind]
      exact e2
    show (takeM _ st).res = _
    rw [← henv, e3]
    rfl
def bagM : MS := sRet (iArgs fLst (evCons (iCon (.int 0)) (evCons (iCon (.int 1234567891)) (evCons (iCon (.int 0)) (evCons (iLc [1] (iSrc lstQ (iSl (iVar 0) (iNo) (iPt (iCon (.int 63))))) (pNm 1) (iYes) (iPrim (f1 absD) (evCons (iVar 1) (evNil)))) (evNil))))))
theorem abs_iter (env : Env) (h : env.length = 2) (st : Store) : ∀ (ms : List Int) (acc : List Int), acc.length + ms.length < sizeLine → ∃ l : List Int, cIter (pNm 1) iYes (iPrim (f1 absD) (evCons (iVar 1) (evNil))) env (ms.map D.int) (acc.map D.int) st = some ((acc ++ l).map D.int, st) ∧ (∀ x ∈ l, 0 ≤ x) ∧ l.length = ms.length
  | [], acc, _ => ⟨[], by rw [List.append_nil]; rfl, (fun x h => by cases h), rfl⟩
  | m :: ms, acc, hl => by
    have hl : acc.length + (ms.length + 1) < sizeLine := hl
    obtain ⟨l, e, p, q⟩ := abs_iter env h st ms (acc ++ [if m < 0 then -m else m]) (by rw [List.length_append]; simp only [List.length_cons, List.length_nil]; omega)
    have hg : (env.set 1 (some (Sl.v (.int m))))[1]? = some (some (.v (.int m))) := List.getElem?_set_self (by omega)
    refine ⟨(if m < 0 then -m else m) :: l, ?_, fun x hx => ?_, by rw [List.length_cons, List.length_cons, q]⟩
    · have hacc : (acc.map D.int).length < sizeLine := by rw [List.length_map]; omega
      have e1 : iPrim (f1 absD) (evCons (iVar 1) (evNil)) (env.set 1 (some (Sl.v (.int m)))) st = .ok (.v (.int (if m < 0 then -m else m))) st := by
        simp only [iPrim, evCons, evNil, iVar, hg, Res.bind, XV.fz, conL, XV.con, f1, absD, lift, Option.bind]
      have e2 : acc.map D.int ++ [D.int (if m < 0 then -m else m)] = (acc ++ [if m < 0 then -m else m]).map D.int := by rw [List.map_append]; rfl
      simp only [List.map_cons, cIter, pNm, iYes, if_true, e1, valX, Option.bind, if_pos hacc, e2, e]
      rw [List.append_assoc]
      rfl
    · rcases List.mem_cons.mp hx with rfl | hx
      · split <;> omega
      · exact p x hx
theorem bag_ok (ns : List Int) (h : ns.length ≤ 63) (st : Store) : ∃ l : List Int, runF 2 bagM [.scr (ns.map D.int)] st = .ok (.n (bagD 0 1234567891 0 l)) st ∧ (∀ x ∈ l, 0 ≤ x) ∧ l.length ≤ 63 := by
  obtain ⟨ms, hms, hl⟩ : ∃ ms : List Int, cutL (ns.map D.int) none (some 63) = ms.map D.int ∧ ms.length ≤ 63 := by
    refine ⟨(ns.drop (HT.sIx (ns.map D.int).length 0 none)).take (HT.sIx (ns.map D.int).length (ns.map D.int).length (some 63) - HT.sIx (ns.map D.int).length 0 none), ?_, ?_⟩
    · unfold cutL
      rw [List.map_take, List.map_drop]
    · rw [List.length_take, List.length_drop]
      omega
  have hs : (63 : Nat) < sizeLine := by rw [sizeLine_eq]; decide
  obtain ⟨l, e, p, q⟩ := abs_iter ([some (Sl.v (.scr (ns.map D.int))), none]) rfl st ms [] (by simp only [List.length_nil]; omega)
  refine ⟨l, ?_, p, by omega⟩
  have e1 : iSrc lstQ (iSl (iVar 0) (iNo) (iPt (iCon (.int 63)))) [some (Sl.v (.scr (ns.map D.int))), none] st = .ok (ms.map D.int) st := by
    simp [iSrc, iSl, iVar, iNo, iPt, iCon, isI, lift, Res.bind, XV.fz, XV.con, slD, hms, valX, lstQ]
  have e2 : iLc [1] (iSrc lstQ (iSl (iVar 0) (iNo) (iPt (iCon (.int 63))))) (pNm 1) (iYes) (iPrim (f1 absD) (evCons (iVar 1) (evNil))) [some (Sl.v (.scr (ns.map D.int))), none] st = .ok (.n (.lst (l.map D.int))) st := by
    have ew : wipeE [some (Sl.v (.scr (ns.map D.int))), none] [1] = [some (Sl.v (.scr (ns.map D.int))), none] := rfl
    have e : cIter (pNm 1) iYes (iPrim (f1 absD) (evCons (iVar 1) (evNil))) [some (Sl.v (.scr (ns.map D.int))), none] (ms.map D.int) [] st = some (l.map D.int, st) := e
    simp only [iLc, e1, Res.bind, ew, e]
  have h4 : (4 : Nat) ≤ sizeLine := by omega
  show (bagM [some (Sl.v (.scr (ns.map D.int))), none] st).res = _
  simp only [bagM, sRet, iArgs, evCons, evNil, e2, iCon, Res.bind, XV.fz, fLst, getD, Option.bind, List.length_cons, List.length_nil, if_pos h4, lift, Res.fl, XV.out, Fl.res]
  rfl
end
end Y

set_option maxHeartbeats 4000000
namespace K17
open PySem L2 PySem.Spec PyProof.Rows Y
abbrev Pr : Program := PySem.Challenge.pw_suitedpairs_k17_errors_apart
def top (i : Nat) : PySem.Stmt := PySem.Challenge.pw_suitedpairs_k17_errors_apart.main.body.getD i (.Pass ⟨0, 0, 0, 0⟩)
def inCls (s : PySem.Stmt) (j : Nat) : PySem.Stmt := match s with
  | .ClassDef (body := b) .. => b.getD j (.Pass ⟨0, 0, 0, 0⟩)
  | s => s
def flT : FlT := []
def owL : List PySem.Str := []
def kitT : Kit := [(((.inr ("Wrong" : PySem.Str)), (.inr ("Wrong" : PySem.Str))), true), (((.inr ("Wrong" : PySem.Str)), (.inr ("BadPair" : PySem.Str))), false), (((.inr ("Wrong" : PySem.Str)), (.inr ("NoKind" : PySem.Str))), false), (((.inr ("Wrong" : PySem.Str)), (.inr ("NotComplete" : PySem.Str))), false), (((.inr ("Wrong" : PySem.Str)), (.inr ("Lonely" : PySem.Str))), false), (((.inr ("Wrong" : PySem.Str)), (.inr ("TooMany" : PySem.Str))), false), (((.inr ("Wrong" : PySem.Str)), (.inr ("Crowded" : PySem.Str))), false), (((.inr ("Wrong" : PySem.Str)), (.inr ("Taken" : PySem.Str))), false), (((.inr ("Wrong" : PySem.Str)), (.inr ("NotWaiting" : PySem.Str))), false), (((.inr ("Wrong" : PySem.Str)), (.inr ("Full" : PySem.Str))), false), (((.inr ("Wrong" : PySem.Str)), (.inr ("Broken" : PySem.Str))), false), (((.inr ("Wrong" : PySem.Str)), (.inr ("Nothing" : PySem.Str))), false), (((.inr ("Wrong" : PySem.Str)), (.inr ("NoText" : PySem.Str))), false), (((.inr ("Wrong" : PySem.Str)), (.inr ("NoCommand" : PySem.Str))), false), (((.inr ("Wrong" : PySem.Str)), (.inr ("SuitError" : PySem.Str))), true), (((.inr ("Wrong" : PySem.Str)), (.inl "ValueError")), true), (((.inr ("SuitError" : PySem.Str)), (.inr ("Wrong" : PySem.Str))), false), (((.inr ("BadPair" : PySem.Str)), (.inr ("Wrong" : PySem.Str))), false), (((.inr ("BadPair" : PySem.Str)), (.inr ("BadPair" : PySem.Str))), true), (((.inr ("BadPair" : PySem.Str)), (.inr ("NoKind" : PySem.Str))), false), (((.inr ("BadPair" : PySem.Str)), (.inr ("NotComplete" : PySem.Str))), false), (((.inr ("BadPair" : PySem.Str)), (.inr ("Lonely" : PySem.Str))), false), (((.inr ("BadPair" : PySem.Str)), (.inr ("TooMany" : PySem.Str))), false), (((.inr ("BadPair" : PySem.Str)), (.inr ("Crowded" : PySem.Str))), false), (((.inr ("BadPair" : PySem.Str)), (.inr ("Taken" : PySem.Str))), false), (((.inr ("BadPair" : PySem.Str)), (.inr ("NotWaiting" : PySem.Str))), false), (((.inr ("BadPair" : PySem.Str)), (.inr ("Full" : PySem.Str))), false), (((.inr ("BadPair" : PySem.Str)), (.inr ("Broken" : PySem.Str))), false), (((.inr ("BadPair" : PySem.Str)), (.inr ("Nothing" : PySem.Str))), false), (((.inr ("BadPair" : PySem.Str)), (.inr ("NoText" : PySem.Str))), false), (((.inr ("BadPair" : PySem.Str)), (.inr ("NoCommand" : PySem.Str))), false), (((.inr ("BadPair" : PySem.Str)), (.inr ("SuitError" : PySem.Str))), true), (((.inr ("BadPair" : PySem.Str)), (.inl "ValueError")), true), (((.inr ("SuitError" : PySem.Str)), (.inr ("BadPair" : PySem.Str))), false), (((.inr ("NoKind" : PySem.Str)), (.inr ("Wrong" : PySem.Str))), false), (((.inr ("NoKind" : PySem.Str)), (.inr ("BadPair" : PySem.Str))), false), (((.inr ("NoKind" : PySem.Str)), (.inr ("NoKind" : PySem.Str))), true), (((.inr ("NoKind" : PySem.Str)), (.inr ("NotComplete" : PySem.Str))), false), (((.inr ("NoKind" : PySem.Str)), (.inr ("Lonely" : PySem.Str))), false), (((.inr ("NoKind" : PySem.Str)), (.inr ("TooMany" : PySem.Str))), false), (((.inr ("NoKind" : PySem.Str)), (.inr ("Crowded" : PySem.Str))), false), (((.inr ("NoKind" : PySem.Str)), (.inr ("Taken" : PySem.Str))), false), (((.inr ("NoKind" : PySem.Str)), (.inr ("NotWaiting" : PySem.Str))), false), (((.inr ("NoKind" : PySem.Str)), (.inr ("Full" : PySem.Str))), false), (((.inr ("NoKind" : PySem.Str)), (.inr ("Broken" : PySem.Str))), false), (((.inr ("NoKind" : PySem.Str)), (.inr ("Nothing" : PySem.Str))), false), (((.inr ("NoKind" : PySem.Str)), (.inr ("NoText" : PySem.Str))), false), (((.inr ("NoKind" : PySem.Str)), (.inr ("NoCommand" : PySem.Str))), false), (((.inr ("NoKind" : PySem.Str)), (.inr ("SuitError" : PySem.Str))), true), (((.inr ("NoKind" : PySem.Str)), (.inl "ValueError")), true), (((.inr ("SuitError" : PySem.Str)), (.inr ("NoKind" : PySem.Str))), false), (((.inr ("NotComplete" : PySem.Str)), (.inr ("Wrong" : PySem.Str))), false), (((.inr ("NotComplete" : PySem.Str)), (.inr ("BadPair" : PySem.Str))), false), (((.inr ("NotComplete" : PySem.Str)), (.inr ("NoKind" : PySem.Str))), false), (((.inr ("NotComplete" : PySem.Str)), (.inr ("NotComplete" : PySem.Str))), true), (((.inr ("NotComplete" : PySem.Str)), (.inr ("Lonely" : PySem.Str))), false), (((.inr ("NotComplete" : PySem.Str)), (.inr ("TooMany" : PySem.Str))), false), (((.inr ("NotComplete" : PySem.Str)), (.inr ("Crowded" : PySem.Str))), false), (((.inr ("NotComplete" : PySem.Str)), (.inr ("Taken" : PySem.Str))), false), (((.inr ("NotComplete" : PySem.Str)), (.inr ("NotWaiting" : PySem.Str))), false), (((.inr ("NotComplete" : PySem.Str)), (.inr ("Full" : PySem.Str))), false), (((.inr ("NotComplete" : PySem.Str)), (.inr ("Broken" : PySem.Str))), false), (((.inr ("NotComplete" : PySem.Str)), (.inr ("Nothing" : PySem.Str))), false), (((.inr ("NotComplete" : PySem.Str)), (.inr ("NoText" : PySem.Str))), false), (((.inr ("NotComplete" : PySem.Str)), (.inr ("NoCommand" : PySem.Str))), false), (((.inr ("NotComplete" : PySem.Str)), (.inr ("SuitError" : PySem.Str))), true), (((.inr ("NotComplete" : PySem.Str)), (.inl "ValueError")), true), (((.inr ("SuitError" : PySem.Str)), (.inr ("NotComplete" : PySem.Str))), false), (((.inr ("Lonely" : PySem.Str)), (.inr ("Wrong" : PySem.Str))), false), (((.inr ("Lonely" : PySem.Str)), (.inr ("BadPair" : PySem.Str))), false), (((.inr ("Lonely" : PySem.Str)), (.inr ("NoKind" : PySem.Str))), false), (((.inr ("Lonely" : PySem.Str)), (.inr ("NotComplete" : PySem.Str))), false), (((.inr ("Lonely" : PySem.Str)), (.inr ("Lonely" : PySem.Str))), true), (((.inr ("Lonely" : PySem.Str)), (.inr ("TooMany" : PySem.Str))), false), (((.inr ("Lonely" : PySem.Str)), (.inr ("Crowded" : PySem.Str))), false), (((.inr ("Lonely" : PySem.Str)), (.inr ("Taken" : PySem.Str))), false), (((.inr ("Lonely" : PySem.Str)), (.inr ("NotWaiting" : PySem.Str))), false), (((.inr ("Lonely" : PySem.Str)), (.inr ("Full" : PySem.Str))), false), (((.inr ("Lonely" : PySem.Str)), (.inr ("Broken" : PySem.Str))), false), (((.inr ("Lonely" : PySem.Str)), (.inr ("Nothing" : PySem.Str))), false), (((.inr ("Lonely" : PySem.Str)), (.inr ("NoText" : PySem.Str))), false), (((.inr ("Lonely" : PySem.Str)), (.inr ("NoCommand" : PySem.Str))), false), (((.inr ("Lonely" : PySem.Str)), (.inr ("SuitError" : PySem.Str))), true), (((.inr ("Lonely" : PySem.Str)), (.inl "ValueError")), true), (((.inr ("SuitError" : PySem.Str)), (.inr ("Lonely" : PySem.Str))), false), (((.inr ("TooMany" : PySem.Str)), (.inr ("Wrong" : PySem.Str))), false), (((.inr ("TooMany" : PySem.Str)), (.inr ("BadPair" : PySem.Str))), false), (((.inr ("TooMany" : PySem.Str)), (.inr ("NoKind" : PySem.Str))), false), (((.inr ("TooMany" : PySem.Str)), (.inr ("NotComplete" : PySem.Str))), false), (((.inr ("TooMany" : PySem.Str)), (.inr ("Lonely" : PySem.Str))), false), (((.inr ("TooMany" : PySem.Str)), (.inr ("TooMany" : PySem.Str))), true), (((.inr ("TooMany" : PySem.Str)), (.inr ("Crowded" : PySem.Str))), false), (((.inr ("TooMany" : PySem.Str)), (.inr ("Taken" : PySem.Str))), false), (((.inr ("TooMany" : PySem.Str)), (.inr ("NotWaiting" : PySem.Str))), false), (((.inr ("TooMany" : PySem.Str)), (.inr ("Full" : PySem.Str))), false), (((.inr ("TooMany" : PySem.Str)), (.inr ("Broken" : PySem.Str))), false), (((.inr ("TooMany" : PySem.Str)), (.inr ("Nothing" : PySem.Str))), false), (((.inr ("TooMany" : PySem.Str)), (.inr ("NoText" : PySem.Str))), false), (((.inr ("TooMany" : PySem.Str)), (.inr ("NoCommand" : PySem.Str))), false), (((.inr ("TooMany" : PySem.Str)), (.inr ("SuitError" : PySem.Str))), true), (((.inr ("TooMany" : PySem.Str)), (.inl "ValueError")), true), (((.inr ("SuitError" : PySem.Str)), (.inr ("TooMany" : PySem.Str))), false), (((.inr ("Crowded" : PySem.Str)), (.inr ("Wrong" : PySem.Str))), false), (((.inr ("Crowded" : PySem.Str)), (.inr ("BadPair" : PySem.Str))), false), (((.inr ("Crowded" : PySem.Str)), (.inr ("NoKind" : PySem.Str))), false), (((.inr ("Crowded" : PySem.Str)), (.inr ("NotComplete" : PySem.Str))), false), (((.inr ("Crowded" : PySem.Str)), (.inr ("Lonely" : PySem.Str))), false), (((.inr ("Crowded" : PySem.Str)), (.inr ("TooMany" : PySem.Str))), false), (((.inr ("Crowded" : PySem.Str)), (.inr ("Crowded" : PySem.Str))), true), (((.inr ("Crowded" : PySem.Str)), (.inr ("Taken" : PySem.Str))), false), (((.inr ("Crowded" : PySem.Str)), (.inr ("NotWaiting" : PySem.Str))), false), (((.inr ("Crowded" : PySem.Str)), (.inr ("Full" : PySem.Str))), false), (((.inr ("Crowded" : PySem.Str)), (.inr ("Broken" : PySem.Str))), false), (((.inr ("Crowded" : PySem.Str)), (.inr ("Nothing" : PySem.Str))), false), (((.inr ("Crowded" : PySem.Str)), (.inr ("NoText" : PySem.Str))), false), (((.inr ("Crowded" : PySem.Str)), (.inr ("NoCommand" : PySem.Str))), false), (((.inr ("Crowded" : PySem.Str)), (.inr ("SuitError" : PySem.Str))), true), (((.inr ("Crowded" : PySem.Str)), (.inl "ValueError")), true), (((.inr ("SuitError" : PySem.Str)), (.inr ("Crowded" : PySem.Str))), false), (((.inr ("Taken" : PySem.Str)), (.inr ("Wrong" : PySem.Str))), false), (((.inr ("Taken" : PySem.Str)), (.inr ("BadPair" : PySem.Str))), false), (((.inr ("Taken" : PySem.Str)), (.inr ("NoKind" : PySem.Str))), false), (((.inr ("Taken" : PySem.Str)), (.inr ("NotComplete" : PySem.Str))), false), (((.inr ("Taken" : PySem.Str)), (.inr ("Lonely" : PySem.Str))), false), (((.inr ("Taken" : PySem.Str)), (.inr ("TooMany" : PySem.Str))), false), (((.inr ("Taken" : PySem.Str)), (.inr ("Crowded" : PySem.Str))), false), (((.inr ("Taken" : PySem.Str)), (.inr ("Taken" : PySem.Str))), true), (((.inr ("Taken" : PySem.Str)), (.inr ("NotWaiting" : PySem.Str))), false), (((.inr ("Taken" : PySem.Str)), (.inr ("Full" : PySem.Str))), false), (((.inr ("Taken" : PySem.Str)), (.inr ("Broken" : PySem.Str))), false), (((.inr ("Taken" : PySem.Str)), (.inr ("Nothing" : PySem.Str))), false), (((.inr ("Taken" : PySem.Str)), (.inr ("NoText" : PySem.Str))), false), (((.inr ("Taken" : PySem.Str)), (.inr ("NoCommand" : PySem.Str))), false), (((.inr ("Taken" : PySem.Str)), (.inr ("SuitError" : PySem.Str))), true), (((.inr ("Taken" : PySem.Str)), (.inl "ValueError")), true), (((.inr ("SuitError" : PySem.Str)), (.inr ("Taken" : PySem.Str))), false), (((.inr ("NotWaiting" : PySem.Str)), (.inr ("Wrong" : PySem.Str))), false), (((.inr ("NotWaiting" : PySem.Str)), (.inr ("BadPair" : PySem.Str))), false), (((.inr ("NotWaiting" : PySem.Str)), (.inr ("NoKind" : PySem.Str))), false), (((.inr ("NotWaiting" : PySem.Str)), (.inr ("NotComplete" : PySem.Str))), false), (((.inr ("NotWaiting" : PySem.Str)), (.inr ("Lonely" : PySem.Str))), false), (((.inr ("NotWaiting" : PySem.Str)), (.inr ("TooMany" : PySem.Str))), false), (((.inr ("NotWaiting" : PySem.Str)), (.inr ("Crowded" : PySem.Str))), false), (((.inr ("NotWaiting" : PySem.Str)), (.inr ("Taken" : PySem.Str))), false), (((.inr ("NotWaiting" : PySem.Str)), (.inr ("NotWaiting" : PySem.Str))), true), (((.inr ("NotWaiting" : PySem.Str)), (.inr ("Full" : PySem.Str))), false), (((.inr ("NotWaiting" : PySem.Str)), (.inr ("Broken" : PySem.Str))), false), (((.inr ("NotWaiting" : PySem.Str)), (.inr ("Nothing" : PySem.Str))), false), (((.inr ("NotWaiting" : PySem.Str)), (.inr ("NoText" : PySem.Str))), false), (((.inr ("NotWaiting" : PySem.Str)), (.inr ("NoCommand" : PySem.Str))), false), (((.inr ("NotWaiting" : PySem.Str)), (.inr ("SuitError" : PySem.Str))), true), (((.inr ("NotWaiting" : PySem.Str)), (.inl "ValueError")), true), (((.inr ("SuitError" : PySem.Str)), (.inr ("NotWaiting" : PySem.Str))), false), (((.inr ("Full" : PySem.Str)), (.inr ("Wrong" : PySem.Str))), false), (((.inr ("Full" : PySem.Str)), (.inr ("BadPair" : PySem.Str))), false), (((.inr ("Full" : PySem.Str)), (.inr ("NoKind" : PySem.Str))), false), (((.inr ("Full" : PySem.Str)), (.inr ("NotComplete" : PySem.Str))), false), (((.inr ("Full" : PySem.Str)), (.inr ("Lonely" : PySem.Str))), false), (((.inr ("Full" : PySem.Str)), (.inr ("TooMany" : PySem.Str))), false), (((.inr ("Full" : PySem.Str)), (.inr ("Crowded" : PySem.Str))), false), (((.inr ("Full" : PySem.Str)), (.inr ("Taken" : PySem.Str))), false), (((.inr ("Full" : PySem.Str)), (.inr ("NotWaiting" : PySem.Str))), false), (((.inr ("Full" : PySem.Str)), (.inr ("Full" : PySem.Str))), true), (((.inr ("Full" : PySem.Str)), (.inr ("Broken" : PySem.Str))), false), (((.inr ("Full" : PySem.Str)), (.inr ("Nothing" : PySem.Str))), false), (((.inr ("Full" : PySem.Str)), (.inr ("NoText" : PySem.Str))), false), (((.inr ("Full" : PySem.Str)), (.inr ("NoCommand" : PySem.Str))), false), (((.inr ("Full" : PySem.Str)), (.inr ("SuitError" : PySem.Str))), true), (((.inr ("Full" : PySem.Str)), (.inl "ValueError")), true), (((.inr ("SuitError" : PySem.Str)), (.inr ("Full" : PySem.Str))), false), (((.inr ("Broken" : PySem.Str)), (.inr ("Wrong" : PySem.Str))), false), (((.inr ("Broken" : PySem.Str)), (.inr ("BadPair" : PySem.Str))), false), (((.inr ("Broken" : PySem.Str)), (.inr ("NoKind" : PySem.Str))), false), (((.inr ("Broken" : PySem.Str)), (.inr ("NotComplete" : PySem.Str))), false), (((.inr ("Broken" : PySem.Str)), (.inr ("Lonely" : PySem.Str))), false), (((.inr ("Broken" : PySem.Str)), (.inr ("TooMany" : PySem.Str))), false), (((.inr ("Broken" : PySem.Str)), (.inr ("Crowded" : PySem.Str))), false), (((.inr ("Broken" : PySem.Str)), (.inr ("Taken" : PySem.Str))), false), (((.inr ("Broken" : PySem.Str)), (.inr ("NotWaiting" : PySem.Str))), false), (((.inr ("Broken" : PySem.Str)), (.inr ("Full" : PySem.Str))), false), (((.inr ("Broken" : PySem.Str)), (.inr ("Broken" : PySem.Str))), true), (((.inr ("Broken" : PySem.Str)), (.inr ("Nothing" : PySem.Str))), false), (((.inr ("Broken" : PySem.Str)), (.inr ("NoText" : PySem.Str))), false), (((.inr ("Broken" : PySem.Str)), (.inr ("NoCommand" : PySem.Str))), false), (((.inr ("Broken" : PySem.Str)), (.inr ("SuitError" : PySem.Str))), true), (((.inr ("Broken" : PySem.Str)), (.inl "ValueError")), true), (((.inr ("SuitError" : PySem.Str)), (.inr ("Broken" : PySem.Str))), false), (((.inr ("Nothing" : PySem.Str)), (.inr ("Wrong" : PySem.Str))), false), (((.inr ("Nothing" : PySem.Str)), (.inr ("BadPair" : PySem.Str))), false), (((.inr ("Nothing" : PySem.Str)), (.inr ("NoKind" : PySem.Str))), false), (((.inr ("Nothing" : PySem.Str)), (.inr ("NotComplete" : PySem.Str))), false), (((.inr ("Nothing" : PySem.Str)), (.inr ("Lonely" : PySem.Str))), false), (((.inr ("Nothing" : PySem.Str)), (.inr ("TooMany" : PySem.Str))), false), (((.inr ("Nothing" : PySem.Str)), (.inr ("Crowded" : PySem.Str))), false), (((.inr ("Nothing" : PySem.Str)), (.inr ("Taken" : PySem.Str))), false), (((.inr ("Nothing" : PySem.Str)), (.inr ("NotWaiting" : PySem.Str))), false), (((.inr ("Nothing" : PySem.Str)), (.inr ("Full" : PySem.Str))), false), (((.inr ("Nothing" : PySem.Str)), (.inr ("Broken" : PySem.Str))), false), (((.inr ("Nothing" : PySem.Str)), (.inr ("Nothing" : PySem.Str))), true), (((.inr ("Nothing" : PySem.Str)), (.inr ("NoText" : PySem.Str))), false), (((.inr ("Nothing" : PySem.Str)), (.inr ("NoCommand" : PySem.Str))), false), (((.inr ("Nothing" : PySem.Str)), (.inr ("SuitError" : PySem.Str))), true), (((.inr ("Nothing" : PySem.Str)), (.inl "ValueError")), true), (((.inr ("SuitError" : PySem.Str)), (.inr ("Nothing" : PySem.Str))), false), (((.inr ("NoText" : PySem.Str)), (.inr ("Wrong" : PySem.Str))), false), (((.inr ("NoText" : PySem.Str)), (.inr ("BadPair" : PySem.Str))), false), (((.inr ("NoText" : PySem.Str)), (.inr ("NoKind" : PySem.Str))), false), (((.inr ("NoText" : PySem.Str)), (.inr ("NotComplete" : PySem.Str))), false), (((.inr ("NoText" : PySem.Str)), (.inr ("Lonely" : PySem.Str))), false), (((.inr ("NoText" : PySem.Str)), (.inr ("TooMany" : PySem.Str))), false), (((.inr ("NoText" : PySem.Str)), (.inr ("Crowded" : PySem.Str))), false), (((.inr ("NoText" : PySem.Str)), (.inr ("Taken" : PySem.Str))), false), (((.inr ("NoText" : PySem.Str)), (.inr ("NotWaiting" : PySem.Str))), false), (((.inr ("NoText" : PySem.Str)), (.inr ("Full" : PySem.Str))), false), (((.inr ("NoText" : PySem.Str)), (.inr ("Broken" : PySem.Str))), false), (((.inr ("NoText" : PySem.Str)), (.inr ("Nothing" : PySem.Str))), false), (((.inr ("NoText" : PySem.Str)), (.inr ("NoText" : PySem.Str))), true), (((.inr ("NoText" : PySem.Str)), (.inr ("NoCommand" : PySem.Str))), false), (((.inr ("NoText" : PySem.Str)), (.inr ("SuitError" : PySem.Str))), true), (((.inr ("NoText" : PySem.Str)), (.inl "ValueError")), true), (((.inr ("SuitError" : PySem.Str)), (.inr ("NoText" : PySem.Str))), false), (((.inr ("NoCommand" : PySem.Str)), (.inr ("Wrong" : PySem.Str))), false), (((.inr ("NoCommand" : PySem.Str)), (.inr ("BadPair" : PySem.Str))), false), (((.inr ("NoCommand" : PySem.Str)), (.inr ("NoKind" : PySem.Str))), false), (((.inr ("NoCommand" : PySem.Str)), (.inr ("NotComplete" : PySem.Str))), false), (((.inr ("NoCommand" : PySem.Str)), (.inr ("Lonely" : PySem.Str))), false), (((.inr ("NoCommand" : PySem.Str)), (.inr ("TooMany" : PySem.Str))), false), (((.inr ("NoCommand" : PySem.Str)), (.inr ("Crowded" : PySem.Str))), false), (((.inr ("NoCommand" : PySem.Str)), (.inr ("Taken" : PySem.Str))), false), (((.inr ("NoCommand" : PySem.Str)), (.inr ("NotWaiting" : PySem.Str))), false), (((.inr ("NoCommand" : PySem.Str)), (.inr ("Full" : PySem.Str))), false), (((.inr ("NoCommand" : PySem.Str)), (.inr ("Broken" : PySem.Str))), false), (((.inr ("NoCommand" : PySem.Str)), (.inr ("Nothing" : PySem.Str))), false), (((.inr ("NoCommand" : PySem.Str)), (.inr ("NoText" : PySem.Str))), false), (((.inr ("NoCommand" : PySem.Str)), (.inr ("NoCommand" : PySem.Str))), true), (((.inr ("NoCommand" : PySem.Str)), (.inr ("SuitError" : PySem.Str))), true), (((.inr ("NoCommand" : PySem.Str)), (.inl "ValueError")), true), (((.inr ("SuitError" : PySem.Str)), (.inr ("NoCommand" : PySem.Str))), false), (((.inr ("SuitError" : PySem.Str)), (.inl "ValueError")), true), (((.inl "NoneType"), (.inl "list")), false), (((.inl "NoneType"), (.inl "dict")), false), (((.inl "bool"), (.inl "list")), false), (((.inl "bool"), (.inl "dict")), false), (((.inl "int"), (.inl "list")), false), (((.inl "int"), (.inl "dict")), false), (((.inl "str"), (.inl "list")), false), (((.inl "str"), (.inl "dict")), false), (((.inl "list"), (.inl "list")), true), (((.inl "list"), (.inl "dict")), false), (((.inl "tuple"), (.inl "list")), false), (((.inl "tuple"), (.inl "dict")), false), (((.inl "dict"), (.inl "list")), false), (((.inl "dict"), (.inl "dict")), true)]
def nfT : NfT := []
def xfL : FlT := [(("Wrong" : PySem.Str), ("place" : PySem.Str)), (("BadPair" : PySem.Str), ("at" : PySem.Str)), (("NoKind" : PySem.Str), ("kind" : PySem.Str)), (("NotComplete" : PySem.Str), ("left" : PySem.Str)), (("Lonely" : PySem.Str), ("kind" : PySem.Str)), (("TooMany" : PySem.Str), ("limit" : PySem.Str)), (("Crowded" : PySem.Str), ("members" : PySem.Str)), (("Taken" : PySem.Str), ("name" : PySem.Str)), (("NotWaiting" : PySem.Str), ("name" : PySem.Str)), (("Full" : PySem.Str), ("limit" : PySem.Str)), (("Broken" : PySem.Str), ("at" : PySem.Str))]
def erL : List PySem.Str := [("Wrong" : PySem.Str), ("BadPair" : PySem.Str), ("NoKind" : PySem.Str), ("NotComplete" : PySem.Str), ("Lonely" : PySem.Str), ("TooMany" : PySem.Str), ("Crowded" : PySem.Str), ("Taken" : PySem.Str), ("NotWaiting" : PySem.Str), ("Full" : PySem.Str), ("Broken" : PySem.Str), ("Nothing" : PySem.Str), ("NoText" : PySem.Str), ("NoCommand" : PySem.Str), ("SuitError" : PySem.Str)]
abbrev s_l_bag : PySem.Stmt := top 17
def d_l_bag : DefY := ⟨gAt ("_law_bag" : PySem.Str), ("_law_bag" : PySem.Str), ("_law_bag" : PySem.Str), defArgs s_l_bag, defBody s_l_bag, defScope s_l_bag, []⟩
abbrev s_l_take : PySem.Stmt := top 18
def d_l_take : DefY := ⟨gAt ("_law_take" : PySem.Str), ("_law_take" : PySem.Str), ("_law_take" : PySem.Str), defArgs s_l_take, defBody s_l_take, defScope s_l_take, []⟩
abbrev s_l_made : PySem.Stmt := top 19
def d_l_made : DefY := ⟨gAt ("_law_made" : PySem.Str), ("_law_made" : PySem.Str), ("_law_made" : PySem.Str), defArgs s_l_made, defBody s_l_made, defScope s_l_made, []⟩
abbrev s_l_classes : PySem.Stmt := top 20
def d_l_classes : DefY := ⟨gAt ("_law_classes" : PySem.Str), ("_law_classes" : PySem.Str), ("_law_classes" : PySem.Str), defArgs s_l_classes, defBody s_l_classes, defScope s_l_classes, []⟩
abbrev s_l_fields : PySem.Stmt := top 21
def d_l_fields : DefY := ⟨gAt ("_law_fields" : PySem.Str), ("_law_fields" : PySem.Str), ("_law_fields" : PySem.Str), defArgs s_l_fields, defBody s_l_fields, defScope s_l_fields, []⟩
abbrev s_law : PySem.Stmt := top 22
def d_law : DefY := ⟨gAt ("law" : PySem.Str), ("law" : PySem.Str), ("law" : PySem.Str), defArgs s_law, defBody s_law, defScope s_law, []⟩
abbrev s_Wrongu_initu : PySem.Stmt := inCls (top 2) 0
def d_Wrongu_initu : DefY := ⟨mAt ("Wrong" : PySem.Str) "__init__", "__init__", ("Wrong.__init__" : PySem.Str), defArgs s_Wrongu_initu, defBody s_Wrongu_initu, defScope s_Wrongu_initu, ["__class__"]⟩
abbrev s_BadPairu_initu : PySem.Stmt := inCls (top 3) 0
def d_BadPairu_initu : DefY := ⟨mAt ("BadPair" : PySem.Str) "__init__", "__init__", ("BadPair.__init__" : PySem.Str), defArgs s_BadPairu_initu, defBody s_BadPairu_initu, defScope s_BadPairu_initu, ["__class__"]⟩
abbrev s_NoKindu_initu : PySem.Stmt := inCls (top 4) 0
def d_NoKindu_initu : DefY := ⟨mAt ("NoKind" : PySem.Str) "__init__", "__init__", ("NoKind.__init__" : PySem.Str), defArgs s_NoKindu_initu, defBody s_NoKindu_initu, defScope s_NoKindu_initu, ["__class__"]⟩
abbrev s_NotCompleteu_initu : PySem.Stmt := inCls (top 5) 0
def d_NotCompleteu_initu : DefY := ⟨mAt ("NotComplete" : PySem.Str) "__init__", "__init__", ("NotComplete.__init__" : PySem.Str), defArgs s_NotCompleteu_initu, defBody s_NotCompleteu_initu, defScope s_NotCompleteu_initu, ["__class__"]⟩
abbrev s_Lonelyu_initu : PySem.Stmt := inCls (top 6) 0
def d_Lonelyu_initu : DefY := ⟨mAt ("Lonely" : PySem.Str) "__init__", "__init__", ("Lonely.__init__" : PySem.Str), defArgs s_Lonelyu_initu, defBody s_Lonelyu_initu, defScope s_Lonelyu_initu, ["__class__"]⟩
abbrev s_TooManyu_initu : PySem.Stmt := inCls (top 7) 0
def d_TooManyu_initu : DefY := ⟨mAt ("TooMany" : PySem.Str) "__init__", "__init__", ("TooMany.__init__" : PySem.Str), defArgs s_TooManyu_initu, defBody s_TooManyu_initu, defScope s_TooManyu_initu, ["__class__"]⟩
abbrev s_Crowdedu_initu : PySem.Stmt := inCls (top 8) 0
def d_Crowdedu_initu : DefY := ⟨mAt ("Crowded" : PySem.Str) "__init__", "__init__", ("Crowded.__init__" : PySem.Str), defArgs s_Crowdedu_initu, defBody s_Crowdedu_initu, defScope s_Crowdedu_initu, ["__class__"]⟩
abbrev s_Takenu_initu : PySem.Stmt := inCls (top 9) 0
def d_Takenu_initu : DefY := ⟨mAt ("Taken" : PySem.Str) "__init__", "__init__", ("Taken.__init__" : PySem.Str), defArgs s_Takenu_initu, defBody s_Takenu_initu, defScope s_Takenu_initu, ["__class__"]⟩
abbrev s_NotWaitingu_initu : PySem.Stmt := inCls (top 10) 0
def d_NotWaitingu_initu : DefY := ⟨mAt ("NotWaiting" : PySem.Str) "__init__", "__init__", ("NotWaiting.__init__" : PySem.Str), defArgs s_NotWaitingu_initu, defBody s_NotWaitingu_initu, defScope s_NotWaitingu_initu, ["__class__"]⟩
abbrev s_Fullu_initu : PySem.Stmt := inCls (top 11) 0
def d_Fullu_initu : DefY := ⟨mAt ("Full" : PySem.Str) "__init__", "__init__", ("Full.__init__" : PySem.Str), defArgs s_Fullu_initu, defBody s_Fullu_initu, defScope s_Fullu_initu, ["__class__"]⟩
abbrev s_Brokenu_initu : PySem.Stmt := inCls (top 12) 0
def d_Brokenu_initu : DefY := ⟨mAt ("Broken" : PySem.Str) "__init__", "__init__", ("Broken.__init__" : PySem.Str), defArgs s_Brokenu_initu, defBody s_Brokenu_initu, defScope s_Brokenu_initu, ["__class__"]⟩
abbrev s_Nothingu_initu : PySem.Stmt := inCls (top 13) 0
def d_Nothingu_initu : DefY := ⟨mAt ("Nothing" : PySem.Str) "__init__", "__init__", ("Nothing.__init__" : PySem.Str), defArgs s_Nothingu_initu, defBody s_Nothingu_initu, defScope s_Nothingu_initu, ["__class__"]⟩
abbrev s_NoTextu_initu : PySem.Stmt := inCls (top 14) 0
def d_NoTextu_initu : DefY := ⟨mAt ("NoText" : PySem.Str) "__init__", "__init__", ("NoText.__init__" : PySem.Str), defArgs s_NoTextu_initu, defBody s_NoTextu_initu, defScope s_NoTextu_initu, ["__class__"]⟩
abbrev s_NoCommandu_initu : PySem.Stmt := inCls (top 15) 0
def d_NoCommandu_initu : DefY := ⟨mAt ("NoCommand" : PySem.Str) "__init__", "__init__", ("NoCommand.__init__" : PySem.Str), defArgs s_NoCommandu_initu, defBody s_NoCommandu_initu, defScope s_NoCommandu_initu, ["__class__"]⟩
def fns : List DefY := [d_l_bag, d_l_take, d_l_made, d_l_classes, d_l_fields, d_law, d_Wrongu_initu, d_BadPairu_initu, d_NoKindu_initu, d_NotCompleteu_initu, d_Lonelyu_initu, d_TooManyu_initu, d_Crowdedu_initu, d_Takenu_initu, d_NotWaitingu_initu, d_Fullu_initu, d_Brokenu_initu, d_Nothingu_initu, d_NoTextu_initu, d_NoCommandu_initu]
def exL (K : PySem.W.Frag) : List Bool := [flT.ok K,
  owL.all (insB K),
  kitT.ok K,
  xfT K xfL,
  erL.all (erB K),
  erBaseB K ("SuitError" : PySem.Str),
  (sxB Pr.main.file K ("Wrong" : PySem.Str) && decide (PySem.W.findIn K (.ref (He.ga K ("Wrong" : PySem.Str))) ("place" : PySem.Str) = some none)),
  (sxB Pr.main.file K ("BadPair" : PySem.Str) && decide (PySem.W.findIn K (.ref (He.ga K ("BadPair" : PySem.Str))) ("at" : PySem.Str) = some none)),
  (sxB Pr.main.file K ("NoKind" : PySem.Str) && decide (PySem.W.findIn K (.ref (He.ga K ("NoKind" : PySem.Str))) ("kind" : PySem.Str) = some none)),
  (sxB Pr.main.file K ("NotComplete" : PySem.Str) && decide (PySem.W.findIn K (.ref (He.ga K ("NotComplete" : PySem.Str))) ("left" : PySem.Str) = some none)),
  (sxB Pr.main.file K ("Lonely" : PySem.Str) && decide (PySem.W.findIn K (.ref (He.ga K ("Lonely" : PySem.Str))) ("kind" : PySem.Str) = some none)),
  (sxB Pr.main.file K ("TooMany" : PySem.Str) && decide (PySem.W.findIn K (.ref (He.ga K ("TooMany" : PySem.Str))) ("limit" : PySem.Str) = some none)),
  (sxB Pr.main.file K ("Crowded" : PySem.Str) && decide (PySem.W.findIn K (.ref (He.ga K ("Crowded" : PySem.Str))) ("members" : PySem.Str) = some none)),
  (sxB Pr.main.file K ("Taken" : PySem.Str) && decide (PySem.W.findIn K (.ref (He.ga K ("Taken" : PySem.Str))) ("name" : PySem.Str) = some none)),
  (sxB Pr.main.file K ("NotWaiting" : PySem.Str) && decide (PySem.W.findIn K (.ref (He.ga K ("NotWaiting" : PySem.Str))) ("name" : PySem.Str) = some none)),
  (sxB Pr.main.file K ("Full" : PySem.Str) && decide (PySem.W.findIn K (.ref (He.ga K ("Full" : PySem.Str))) ("limit" : PySem.Str) = some none)),
  (sxB Pr.main.file K ("Broken" : PySem.Str) && decide (PySem.W.findIn K (.ref (He.ga K ("Broken" : PySem.Str))) ("at" : PySem.Str) = some none)),
  sxB Pr.main.file K ("Nothing" : PySem.Str),
  sxB Pr.main.file K ("NoText" : PySem.Str),
  sxB Pr.main.file K ("NoCommand" : PySem.Str),
  (He.Fa.glo ("TooMany" : PySem.Str)).ok K,
  (He.Fa.glo ("Lonely" : PySem.Str)).ok K,
  (He.Fa.glo ("NotComplete" : PySem.Str)).ok K,
  (He.Fa.glo ("NoKind" : PySem.Str)).ok K,
  (He.Fa.glo ("BadPair" : PySem.Str)).ok K,
  (He.Fa.glo ("Wrong" : PySem.Str)).ok K,
  (He.Fa.glo ("Broken" : PySem.Str)).ok K,
  (He.Fa.glo ("Full" : PySem.Str)).ok K,
  (He.Fa.glo ("NotWaiting" : PySem.Str)).ok K,
  (He.Fa.glo ("Taken" : PySem.Str)).ok K,
  (He.Fa.glo ("Crowded" : PySem.Str)).ok K,
  (He.Fa.glo ("NoCommand" : PySem.Str)).ok K,
  (He.Fa.glo ("NoText" : PySem.Str)).ok K,
  (He.Fa.glo ("Nothing" : PySem.Str)).ok K,
  (He.Fa.glo ("_law_bag" : PySem.Str)).ok K,
  (He.Fa.glo ("_law_take" : PySem.Str)).ok K,
  (He.Fa.glo ("_law_made" : PySem.Str)).ok K,
  (He.Fa.glo ("_law_classes" : PySem.Str)).ok K,
  (He.Fa.glo ("SuitError" : PySem.Str)).ok K,
  (He.Fa.glo ("_law_fields" : PySem.Str)).ok K,
  (He.Fa.glo ("law" : PySem.Str)).ok K,
  (He.Fa.free ("abs" : PySem.Str)).ok K,
  (He.Fa.free ("len" : PySem.Str)).ok K,
  (He.Fa.free ("super" : PySem.Str)).ok K,
  (He.Fa.free ("isinstance" : PySem.Str)).ok K,
  (He.Fa.free ("range" : PySem.Str)).ok K,
  (He.Fa.free ("ValueError" : PySem.Str)).ok K,
  (He.Fa.free ("list" : PySem.Str)).ok K,
  (He.Fa.free ("dict" : PySem.Str)).ok K,
  (He.Fa.free ("any" : PySem.Str)).ok K]
def exB (K : PySem.W.Frag) : Bool := (exL K).all id
structure Kn (w : World) (K : PySem.W.Frag) (mg : PySem.Str → Option Value) : Prop where
  says : SaysY exB fns K
  fl : flT.ok K = true
  ow : owL.all (insB K) = true
  kit : kitT.ok K = true
  xf : xfT K xfL = true
  er : erL.all (erB K) = true
  er_SuitError : ErBase K (He.ga K ("SuitError" : PySem.Str))
  er_Wrong : Er1 Pr w K (He.ga K ("Wrong" : PySem.Str)) ("place" : PySem.Str)
  er_BadPair : Er1 Pr w K (He.ga K ("BadPair" : PySem.Str)) ("at" : PySem.Str)
  er_NoKind : Er1 Pr w K (He.ga K ("NoKind" : PySem.Str)) ("kind" : PySem.Str)
  er_NotComplete : Er1 Pr w K (He.ga K ("NotComplete" : PySem.Str)) ("left" : PySem.Str)
  er_Lonely : Er1 Pr w K (He.ga K ("Lonely" : PySem.Str)) ("kind" : PySem.Str)
  er_TooMany : Er1 Pr w K (He.ga K ("TooMany" : PySem.Str)) ("limit" : PySem.Str)
  er_Crowded : Er1 Pr w K (He.ga K ("Crowded" : PySem.Str)) ("members" : PySem.Str)
  er_Taken : Er1 Pr w K (He.ga K ("Taken" : PySem.Str)) ("name" : PySem.Str)
  er_NotWaiting : Er1 Pr w K (He.ga K ("NotWaiting" : PySem.Str)) ("name" : PySem.Str)
  er_Full : Er1 Pr w K (He.ga K ("Full" : PySem.Str)) ("limit" : PySem.Str)
  er_Broken : Er1 Pr w K (He.ga K ("Broken" : PySem.Str)) ("at" : PySem.Str)
  er_Nothing : Er0 Pr w K (He.ga K ("Nothing" : PySem.Str))
  er_NoText : Er0 Pr w K (He.ga K ("NoText" : PySem.Str))
  er_NoCommand : Er0 Pr w K (He.ga K ("NoCommand" : PySem.Str))
  g_TooMany : mg ("TooMany" : PySem.Str) = some (.ref (He.ga K ("TooMany" : PySem.Str)))
  g_Lonely : mg ("Lonely" : PySem.Str) = some (.ref (He.ga K ("Lonely" : PySem.Str)))
  g_NotComplete : mg ("NotComplete" : PySem.Str) = some (.ref (He.ga K ("NotComplete" : PySem.Str)))
  g_NoKind : mg ("NoKind" : PySem.Str) = some (.ref (He.ga K ("NoKind" : PySem.Str)))
  g_BadPair : mg ("BadPair" : PySem.Str) = some (.ref (He.ga K ("BadPair" : PySem.Str)))
  g_Wrong : mg ("Wrong" : PySem.Str) = some (.ref (He.ga K ("Wrong" : PySem.Str)))
  g_Broken : mg ("Broken" : PySem.Str) = some (.ref (He.ga K ("Broken" : PySem.Str)))
  g_Full : mg ("Full" : PySem.Str) = some (.ref (He.ga K ("Full" : PySem.Str)))
  g_NotWaiting : mg ("NotWaiting" : PySem.Str) = some (.ref (He.ga K ("NotWaiting" : PySem.Str)))
  g_Taken : mg ("Taken" : PySem.Str) = some (.ref (He.ga K ("Taken" : PySem.Str)))
  g_Crowded : mg ("Crowded" : PySem.Str) = some (.ref (He.ga K ("Crowded" : PySem.Str)))
  g_NoCommand : mg ("NoCommand" : PySem.Str) = some (.ref (He.ga K ("NoCommand" : PySem.Str)))
  g_NoText : mg ("NoText" : PySem.Str) = some (.ref (He.ga K ("NoText" : PySem.Str)))
  g_Nothing : mg ("Nothing" : PySem.Str) = some (.ref (He.ga K ("Nothing" : PySem.Str)))
  g_l_bag : mg ("_law_bag" : PySem.Str) = some (.ref (He.ga K ("_law_bag" : PySem.Str)))
  g_l_take : mg ("_law_take" : PySem.Str) = some (.ref (He.ga K ("_law_take" : PySem.Str)))
  g_l_made : mg ("_law_made" : PySem.Str) = some (.ref (He.ga K ("_law_made" : PySem.Str)))
  g_l_classes : mg ("_law_classes" : PySem.Str) = some (.ref (He.ga K ("_law_classes" : PySem.Str)))
  g_SuitError : mg ("SuitError" : PySem.Str) = some (.ref (He.ga K ("SuitError" : PySem.Str)))
  g_l_fields : mg ("_law_fields" : PySem.Str) = some (.ref (He.ga K ("_law_fields" : PySem.Str)))
  g_law : mg ("law" : PySem.Str) = some (.ref (He.ga K ("law" : PySem.Str)))
  n_abs : mg ("abs" : PySem.Str) = none
  n_len : mg ("len" : PySem.Str) = none
  n_super : mg ("super" : PySem.Str) = none
  n_isinstance : mg ("isinstance" : PySem.Str) = none
  n_range : mg ("range" : PySem.Str) = none
  n_ValueError : mg ("ValueError" : PySem.Str) = none
  n_list : mg ("list" : PySem.Str) = none
  n_dict : mg ("dict" : PySem.Str) = none
  n_any : mg ("any" : PySem.Str) = none
theorem exL_get {K : PySem.W.Frag} (h : exB K = true) (i : Nat) {b : Bool} (e : (exL K)[i]? = some b := by rfl) : b = true := List.all_eq_true.mp h b (List.mem_of_getElem? e)
theorem mkEr_Wrong {w : World} {K : PySem.W.Frag} (c : SaysY exB fns K) (h : (sxB Pr.main.file K ("Wrong" : PySem.Str) && decide (PySem.W.findIn K (.ref (He.ga K ("Wrong" : PySem.Str))) ("place" : PySem.Str) = some none)) = true) : Er1 Pr w K (He.ga K ("Wrong" : PySem.Str)) ("place" : PySem.Str) := by
  obtain ⟨h1, h2⟩ := He.ba h
  obtain ⟨e, ok⟩ := c.at_ 6 (d := d_Wrongu_initu)
  obtain ⟨E, T⟩ := sxc_of (P := Pr) h1 rfl (by kernel_rfl) rfl e ok
  exact er1_of E T ⟨⟨_, rfl, rfl⟩, rfl, rfl, rfl, rfl, rfl, rfl, by decide +kernel, fun _ _ _ _ => ⟨_, rfl⟩, fun _ _ _ _ => rfl, fun _ _ _ _ => rfl⟩ (of_decide_eq_true h2) rfl (by decide) (by decide) (fun _ _ _ _ _ _ _ => rfl) (fun _ => rfl)
theorem mkEr_BadPair {w : World} {K : PySem.W.Frag} (c : SaysY exB fns K) (h : (sxB Pr.main.file K ("BadPair" : PySem.Str) && decide (PySem.W.findIn K (.ref (He.ga K ("BadPair" : PySem.Str))) ("at" : PySem.Str) = some none)) = true) : Er1 Pr w K (He.ga K ("BadPair" : PySem.Str)) ("at" : PySem.Str) := by
  obtain ⟨h1, h2⟩ := He.ba h
  obtain ⟨e, ok⟩ := c.at_ 7 (d := d_BadPairu_initu)
  obtain ⟨E, T⟩ := sxc_of (P := Pr) h1 rfl (by kernel_rfl) rfl e ok
  exact er1_of E T ⟨⟨_, rfl, rfl⟩, rfl, rfl, rfl, rfl, rfl, rfl, by decide +kernel, fun _ _ _ _ => ⟨_, rfl⟩, fun _ _ _ _ => rfl, fun _ _ _ _ => rfl⟩ (of_decide_eq_true h2) rfl (by decide) (by decide) (fun _ _ _ _ _ _ _ => rfl) (fun _ => rfl)
theorem mkEr_NoKind {w : World} {K : PySem.W.Frag} (c : SaysY exB fns K) (h : (sxB Pr.main.file K ("NoKind" : PySem.Str) && decide (PySem.W.findIn K (.ref (He.ga K ("NoKind" : PySem.Str))) ("kind" : PySem.Str) = some none)) = true) : Er1 Pr w K (He.ga K ("NoKind" : PySem.Str)) ("kind" : PySem.Str) := by
  obtain ⟨h1, h2⟩ := He.ba h
  obtain ⟨e, ok⟩ := c.at_ 8 (d := d_NoKindu_initu)
  obtain ⟨E, T⟩ := sxc_of (P := Pr) h1 rfl (by kernel_rfl) rfl e ok
  exact er1_of E T ⟨⟨_, rfl, rfl⟩, rfl, rfl, rfl, rfl, rfl, rfl, by decide +kernel, fun _ _ _ _ => ⟨_, rfl⟩, fun _ _ _ _ => rfl, fun _ _ _ _ => rfl⟩ (of_decide_eq_true h2) rfl (by decide) (by decide) (fun _ _ _ _ _ _ _ => rfl) (fun _ => rfl)
theorem mkEr_NotComplete {w : World} {K : PySem.W.Frag} (c : SaysY exB fns K) (h : (sxB Pr.main.file K ("NotComplete" : PySem.Str) && decide (PySem.W.findIn K (.ref (He.ga K ("NotComplete" : PySem.Str))) ("left" : PySem.Str) = some none)) = true) : Er1 Pr w K (He.ga K ("NotComplete" : PySem.Str)) ("left" : PySem.Str) := by
  obtain ⟨h1, h2⟩ := He.ba h
  obtain ⟨e, ok⟩ := c.at_ 9 (d := d_NotCompleteu_initu)
  obtain ⟨E, T⟩ := sxc_of (P := Pr) h1 rfl (by kernel_rfl) rfl e ok
  exact er1_of E T ⟨⟨_, rfl, rfl⟩, rfl, rfl, rfl, rfl, rfl, rfl, by decide +kernel, fun _ _ _ _ => ⟨_, rfl⟩, fun _ _ _ _ => rfl, fun _ _ _ _ => rfl⟩ (of_decide_eq_true h2) rfl (by decide) (by decide) (fun _ _ _ _ _ _ _ => rfl) (fun _ => rfl)
theorem mkEr_Lonely {w : World} {K : PySem.W.Frag} (c : SaysY exB fns K) (h : (sxB Pr.main.file K ("Lonely" : PySem.Str) && decide (PySem.W.findIn K (.ref (He.ga K ("Lonely" : PySem.Str))) ("kind" : PySem.Str) = some none)) = true) : Er1 Pr w K (He.ga K ("Lonely" : PySem.Str)) ("kind" : PySem.Str) := by
  obtain ⟨h1, h2⟩ := He.ba h
  obtain ⟨e, ok⟩ := c.at_ 10 (d := d_Lonelyu_initu)
  obtain ⟨E, T⟩ := sxc_of (P := Pr) h1 rfl (by kernel_rfl) rfl e ok
  exact er1_of E T ⟨⟨_, rfl, rfl⟩, rfl, rfl, rfl, rfl, rfl, rfl, by decide +kernel, fun _ _ _ _ => ⟨_, rfl⟩, fun _ _ _ _ => rfl, fun _ _ _ _ => rfl⟩ (of_decide_eq_true h2) rfl (by decide) (by decide) (fun _ _ _ _ _ _ _ => rfl) (fun _ => rfl)
theorem mkEr_TooMany {w : World} {K : PySem.W.Frag} (c : SaysY exB fns K) (h : (sxB Pr.main.file K ("TooMany" : PySem.Str) && decide (PySem.W.findIn K (.ref (He.ga K ("TooMany" : PySem.Str))) ("limit" : PySem.Str) = some none)) = true) : Er1 Pr w K (He.ga K ("TooMany" : PySem.Str)) ("limit" : PySem.Str) := by
  obtain ⟨h1, h2⟩ := He.ba h
  obtain ⟨e, ok⟩ := c.at_ 11 (d := d_TooManyu_initu)
  obtain ⟨E, T⟩ := sxc_of (P := Pr) h1 rfl (by kernel_rfl) rfl e ok
  exact er1_of E T ⟨⟨_, rfl, rfl⟩, rfl, rfl, rfl, rfl, rfl, rfl, by decide +kernel, fun _ _ _ _ => ⟨_, rfl⟩, fun _ _ _ _ => rfl, fun _ _ _ _ => rfl⟩ (of_decide_eq_true h2) rfl (by decide) (by decide) (fun _ _ _ _ _ _ _ => rfl) (fun _ => rfl)
theorem mkEr_Crowded {w : World} {K : PySem.W.Frag} (c : SaysY exB fns K) (h : (sxB Pr.main.file K ("Crowded" : PySem.Str) && decide (PySem.W.findIn K (.ref (He.ga K ("Crowded" : PySem.Str))) ("members" : PySem.Str) = some none)) = true) : Er1 Pr w K (He.ga K ("Crowded" : PySem.Str)) ("members" : PySem.Str) := by
  obtain ⟨h1, h2⟩ := He.ba h
  obtain ⟨e, ok⟩ := c.at_ 12 (d := d_Crowdedu_initu)
  obtain ⟨E, T⟩ := sxc_of (P := Pr) h1 rfl (by kernel_rfl) rfl e ok
  exact er1_of E T ⟨⟨_, rfl, rfl⟩, rfl, rfl, rfl, rfl, rfl, rfl, by decide +kernel, fun _ _ _ _ => ⟨_, rfl⟩, fun _ _ _ _ => rfl, fun _ _ _ _ => rfl⟩ (of_decide_eq_true h2) rfl (by decide) (by decide) (fun _ _ _ _ _ _ _ => rfl) (fun _ => rfl)
theorem mkEr_Taken {w : World} {K : PySem.W.Frag} (c : SaysY exB fns K) (h : (sxB Pr.main.file K ("Taken" : PySem.Str) && decide (PySem.W.findIn K (.ref (He.ga K ("Taken" : PySem.Str))) ("name" : PySem.Str) = some none)) = true) : Er1 Pr w K (He.ga K ("Taken" : PySem.Str)) ("name" : PySem.Str) := by
  obtain ⟨h1, h2⟩ := He.ba h
  obtain ⟨e, ok⟩ := c.at_ 13 (d := d_Takenu_initu)
  obtain ⟨E, T⟩ := sxc_of (P := Pr) h1 rfl (by kernel_rfl) rfl e ok
  exact er1_of E T ⟨⟨_, rfl, rfl⟩, rfl, rfl, rfl, rfl, rfl, rfl, by decide +kernel, fun _ _ _ _ => ⟨_, rfl⟩, fun _ _ _ _ => rfl, fun _ _ _ _ => rfl⟩ (of_decide_eq_true h2) rfl (by decide) (by decide) (fun _ _ _ _ _ _ _ => rfl) (fun _ => rfl)
theorem mkEr_NotWaiting {w : World} {K : PySem.W.Frag} (c : SaysY exB fns K) (h : (sxB Pr.main.file K ("NotWaiting" : PySem.Str) && decide (PySem.W.findIn K (.ref (He.ga K ("NotWaiting" : PySem.Str))) ("name" : PySem.Str) = some none)) = true) : Er1 Pr w K (He.ga K ("NotWaiting" : PySem.Str)) ("name" : PySem.Str) := by
  obtain ⟨h1, h2⟩ := He.ba h
  obtain ⟨e, ok⟩ := c.at_ 14 (d := d_NotWaitingu_initu)
  obtain ⟨E, T⟩ := sxc_of (P := Pr) h1 rfl (by kernel_rfl) rfl e ok
  exact er1_of E T ⟨⟨_, rfl, rfl⟩, rfl, rfl, rfl, rfl, rfl, rfl, by decide +kernel, fun _ _ _ _ => ⟨_, rfl⟩, fun _ _ _ _ => rfl, fun _ _ _ _ => rfl⟩ (of_decide_eq_true h2) rfl (by decide) (by decide) (fun _ _ _ _ _ _ _ => rfl) (fun _ => rfl)
theorem mkEr_Full {w : World} {K : PySem.W.Frag} (c : SaysY exB fns K) (h : (sxB Pr.main.file K ("Full" : PySem.Str) && decide (PySem.W.findIn K (.ref (He.ga K ("Full" : PySem.Str))) ("limit" : PySem.Str) = some none)) = true) : Er1 Pr w K (He.ga K ("Full" : PySem.Str)) ("limit" : PySem.Str) := by
  obtain ⟨h1, h2⟩ := He.ba h
  obtain ⟨e, ok⟩ := c.at_ 15 (d := d_Fullu_initu)
  obtain ⟨E, T⟩ := sxc_of (P := Pr) h1 rfl (by kernel_rfl) rfl e ok
  exact er1_of E T ⟨⟨_, rfl, rfl⟩, rfl, rfl, rfl, rfl, rfl, rfl, by decide +kernel, fun _ _ _ _ => ⟨_, rfl⟩, fun _ _ _ _ => rfl, fun _ _ _ _ => rfl⟩ (of_decide_eq_true h2) rfl (by decide) (by decide) (fun _ _ _ _ _ _ _ => rfl) (fun _ => rfl)
theorem mkEr_Broken {w : World} {K : PySem.W.Frag} (c : SaysY exB fns K) (h : (sxB Pr.main.file K ("Broken" : PySem.Str) && decide (PySem.W.findIn K (.ref (He.ga K ("Broken" : PySem.Str))) ("at" : PySem.Str) = some none)) = true) : Er1 Pr w K (He.ga K ("Broken" : PySem.Str)) ("at" : PySem.Str) := by
  obtain ⟨h1, h2⟩ := He.ba h
  obtain ⟨e, ok⟩ := c.at_ 16 (d := d_Brokenu_initu)
  obtain ⟨E, T⟩ := sxc_of (P := Pr) h1 rfl (by kernel_rfl) rfl e ok
  exact er1_of E T ⟨⟨_, rfl, rfl⟩, rfl, rfl, rfl, rfl, rfl, rfl, by decide +kernel, fun _ _ _ _ => ⟨_, rfl⟩, fun _ _ _ _ => rfl, fun _ _ _ _ => rfl⟩ (of_decide_eq_true h2) rfl (by decide) (by decide) (fun _ _ _ _ _ _ _ => rfl) (fun _ => rfl)
theorem mkEr_Nothing {w : World} {K : PySem.W.Frag} (c : SaysY exB fns K) (h : sxB Pr.main.file K ("Nothing" : PySem.Str) = true) : Er0 Pr w K (He.ga K ("Nothing" : PySem.Str)) := by
  obtain ⟨e, ok⟩ := c.at_ 17 (d := d_Nothingu_initu)
  obtain ⟨E, T⟩ := sxc_of (P := Pr) h rfl (by kernel_rfl) rfl e ok
  exact er0_of E T ⟨⟨_, rfl, rfl⟩, rfl, rfl, rfl, rfl, rfl, rfl, by decide +kernel, fun _ _ _ _ => ⟨_, rfl⟩, fun _ _ _ _ => rfl, fun _ _ _ _ => rfl⟩ (fun _ _ _ _ _ _ => rfl)
theorem mkEr_NoText {w : World} {K : PySem.W.Frag} (c : SaysY exB fns K) (h : sxB Pr.main.file K ("NoText" : PySem.Str) = true) : Er0 Pr w K (He.ga K ("NoText" : PySem.Str)) := by
  obtain ⟨e, ok⟩ := c.at_ 18 (d := d_NoTextu_initu)
  obtain ⟨E, T⟩ := sxc_of (P := Pr) h rfl (by kernel_rfl) rfl e ok
  exact er0_of E T ⟨⟨_, rfl, rfl⟩, rfl, rfl, rfl, rfl, rfl, rfl, by decide +kernel, fun _ _ _ _ => ⟨_, rfl⟩, fun _ _ _ _ => rfl, fun _ _ _ _ => rfl⟩ (fun _ _ _ _ _ _ => rfl)
theorem mkEr_NoCommand {w : World} {K : PySem.W.Frag} (c : SaysY exB fns K) (h : sxB Pr.main.file K ("NoCommand" : PySem.Str) = true) : Er0 Pr w K (He.ga K ("NoCommand" : PySem.Str)) := by
  obtain ⟨e, ok⟩ := c.at_ 19 (d := d_NoCommandu_initu)
  obtain ⟨E, T⟩ := sxc_of (P := Pr) h rfl (by kernel_rfl) rfl e ok
  exact er0_of E T ⟨⟨_, rfl, rfl⟩, rfl, rfl, rfl, rfl, rfl, rfl, by decide +kernel, fun _ _ _ _ => ⟨_, rfl⟩, fun _ _ _ _ => rfl, fun _ _ _ _ => rfl⟩ (fun _ _ _ _ _ _ => rfl)
theorem kn_of {K : PySem.W.Frag} {h0 : Heap} {mg : PySem.Str → Option Value} (X : K.In h0) (G : h0.Ns mainGlobals mg) (c : SaysY exB fns K) {w : World} : Kn w K mg where
  says := c
  fl := by
    have h := exL_get c.more 0
    exact h
  ow := by
    have h := exL_get c.more 1
    exact h
  kit := by
    have h := exL_get c.more 2
    exact h
  xf := by
    have h := exL_get c.more 3
    exact h
  er := by
    have h := exL_get c.more 4
    exact h
  er_SuitError := by
    have h := exL_get c.more 5
    exact erBase_ok h
  er_Wrong := by
    have h := exL_get c.more 6
    exact mkEr_Wrong c h
  er_BadPair := by
    have h := exL_get c.more 7
    exact mkEr_BadPair c h
  er_NoKind := by
    have h := exL_get c.more 8
    exact mkEr_NoKind c h
  er_NotComplete := by
    have h := exL_get c.more 9
    exact mkEr_NotComplete c h
  er_Lonely := by
    have h := exL_get c.more 10
    exact mkEr_Lonely c h
  er_TooMany := by
    have h := exL_get c.more 11
    exact mkEr_TooMany c h
  er_Crowded := by
    have h := exL_get c.more 12
    exact mkEr_Crowded c h
  er_Taken := by
    have h := exL_get c.more 13
    exact mkEr_Taken c h
  er_NotWaiting := by
    have h := exL_get c.more 14
    exact mkEr_NotWaiting c h
  er_Full := by
    have h := exL_get c.more 15
    exact mkEr_Full c h
  er_Broken := by
    have h := exL_get c.more 16
    exact mkEr_Broken c h
  er_Nothing := by
    have h := exL_get c.more 17
    exact mkEr_Nothing c h
  er_NoText := by
    have h := exL_get c.more 18
    exact mkEr_NoText c h
  er_NoCommand := by
    have h := exL_get c.more 19
    exact mkEr_NoCommand c h
  g_TooMany := by
    have h := exL_get c.more 20
    exact He.glo_ok X G h
  g_Lonely := by
    have h := exL_get c.more 21
    exact He.glo_ok X G h
  g_NotComplete := by
    have h := exL_get c.more 22
    exact He.glo_ok X G h
  g_NoKind := by
    have h := exL_get c.more 23
    exact He.glo_ok X G h
  g_BadPair := by
    have h := exL_get c.more 24
    exact He.glo_ok X G h
  g_Wrong := by
    have h := exL_get c.more 25
    exact He.glo_ok X G h
  g_Broken := by
    have h := exL_get c.more 26
    exact He.glo_ok X G h
  g_Full := by
    have h := exL_get c.more 27
    exact He.glo_ok X G h
  g_NotWaiting := by
    have h := exL_get c.more 28
    exact He.glo_ok X G h
  g_Taken := by
    have h := exL_get c.more 29
    exact He.glo_ok X G h
  g_Crowded := by
    have h := exL_get c.more 30
    exact He.glo_ok X G h
  g_NoCommand := by
    have h := exL_get c.more 31
    exact He.glo_ok X G h
  g_NoText := by
    have h := exL_get c.more 32
    exact He.glo_ok X G h
  g_Nothing := by
    have h := exL_get c.more 33
    exact He.glo_ok X G h
  g_l_bag := by
    have h := exL_get c.more 34
    exact He.glo_ok X G h
  g_l_take := by
    have h := exL_get c.more 35
    exact He.glo_ok X G h
  g_l_made := by
    have h := exL_get c.more 36
    exact He.glo_ok X G h
  g_l_classes := by
    have h := exL_get c.more 37
    exact He.glo_ok X G h
  g_SuitError := by
    have h := exL_get c.more 38
    exact He.glo_ok X G h
  g_l_fields := by
    have h := exL_get c.more 39
    exact He.glo_ok X G h
  g_law := by
    have h := exL_get c.more 40
    exact He.glo_ok X G h
  n_abs := by
    have h := exL_get c.more 41
    exact He.free_ok X G h
  n_len := by
    have h := exL_get c.more 42
    exact He.free_ok X G h
  n_super := by
    have h := exL_get c.more 43
    exact He.free_ok X G h
  n_isinstance := by
    have h := exL_get c.more 44
    exact He.free_ok X G h
  n_range := by
    have h := exL_get c.more 45
    exact He.free_ok X G h
  n_ValueError := by
    have h := exL_get c.more 46
    exact He.free_ok X G h
  n_list := by
    have h := exL_get c.more 47
    exact He.free_ok X G h
  n_dict := by
    have h := exL_get c.more 48
    exact He.free_ok X G h
  n_any := by
    have h := exL_get c.more 49
    exact He.free_ok X G h
theorem ru1 {k : Nat} {A : Around} (hr : Room k A) : A.units + 1 < cLine := by
  have := hr.un
  omega
theorem room2 {k j : Nat} {A : Around} (hr : Room k A) (h : j + 2 ≤ k) : Room (j + 2) A := hr.mono h
theorem ru5 {k : Nat} {A : Around} (hr : Room k A) : A.units + 65 < cLine := by
  have := hr.un
  omega

/-! _law_bag -/
def N_l_bag : List PySem.Str := ["_law_script", "_law_cell"]
theorem sc_l_bag : FnScope N_l_bag ["_law_script"] (defScope s_l_bag) := ⟨rfl, rfl, rfl, by decide +kernel, rfl, by decide +kernel, by decide +kernel⟩
noncomputable def M_l_bag : MS := sRet (iArgs fLst (evCons (iCon (.int 0)) (evCons (iCon (.int 1234567891)) (evCons (iCon (.int 0)) (evCons (iLc [1] (iSrc lstQ (iSl (iVar 0) (iNo) (iPt (iCon (.int 63))))) (pNm 1) (iYes) (iPrim (f1 absD) (evCons (iVar 1) (evNil)))) (evNil))))))
noncomputable def G_l_bag : List D → Store → Res XV := runF 2 M_l_bag
theorem ok_l_bag {w : World} {K : PySem.W.Frag} {mg : PySem.Str → Option Value} {base : Heap} (kn : Kn w K mg) : Def Pr w K mg base 1 (He.ga K ("_law_bag" : PySem.Str)) (spY K 1 G_l_bag) := by
  obtain ⟨fd, F⟩ := kn.says.def_ 0 (d := d_l_bag) rfl
  have nd := sc_l_bag.nd
  exact (def_pack (k := 0) F sc_l_bag rfl (fun _ _ _ _ _ _ us hl => match us, hl with | [_], _ => rfl) fun cdv A outer s H E hr G0 la0 H0 => rss_one (rs_ret (re_lst (ra_cons (re_int) (ra_cons (re_int) (ra_cons (re_int) (ra_cons (re_lc (own := [(("_law_cell" : PySem.Str), 1)]) rfl nd (ri_list (re_slice (re_var (pv 0)) (ro_none) (ro_some (re_int)))) (blkOk_by (by kernel_rfl)) tg_nm (by decide) (fun s H C cl fp => pg_name nd rfl (Or.inl rfl)) (fun s H C cl fp => rts_nil) (fun s H C cl fp => re_callB c_abs rfl kn.n_abs rfl (ra_cons (re_var (pv 1)) (ra_nil)))) (ra_nil))))))))

/-! _law_take -/
def N_l_take : List PySem.Str := ["_law_bag_here", "_law_many", "_law_cell", "_law_value", "_law_begin", "_law_second"]
theorem sc_l_take : FnScope N_l_take ["_law_bag_here", "_law_many"] (defScope s_l_take) := ⟨rfl, rfl, rfl, by decide +kernel, rfl, by decide +kernel, by decide +kernel⟩
noncomputable def M_l_take : MS := sCons (sIf (iBoo (iPrim (f2 eqD) (evCons (iPrim (f2 ixD) (evCons (iVar 0) (evCons (iCon (.int 0)) evNil))) (evCons (iCon (.int 0)) evNil)))) (sCons (sSet 2 (iCon (.int 0))) (sCons (sIf (iBoo (iPrim (f2 ltD) (evCons (iPrim (f2 ixD) (evCons (iVar 0) (evCons (iCon (.int 2)) evNil))) (evCons (iPrim (f1 lenD) (evCons (iPrim (f2 ixD) (evCons (iVar 0) (evCons (iCon (.int 3)) evNil))) (evNil))) evNil)))) (sSet 2 (iPrim (f2 ixD) (evCons (iPrim (f2 ixD) (evCons (iVar 0) (evCons (iCon (.int 3)) evNil))) (evCons (iPrim (f2 ixD) (evCons (iVar 0) (evCons (iCon (.int 2)) evNil))) evNil)))) (sNil)) (sCons (sAugS iadD (iCon (.int 1)) (iVar 0) (iCon (.int 2))) (sCons (sIf (iBoo (iPrim (f2 geD) (evCons (iVar 2) (evCons (iCon (.int 1000000000000000000)) evNil)))) (sStore (iVar 2) (iVar 0) (iCon (.int 0))) (sNil)) (sStore (iPrim (f2 modD) (evCons (iPrim (f2 addD) (evCons (iPrim (f2 addD) (evCons (iPrim (f2 mulD) (evCons (iPrim (f2 ixD) (evCons (iVar 0) (evCons (iCon (.int 1)) evNil))) (evCons (iCon (.int 48271)) evNil))) (evCons (iPrim (f2 modD) (evCons (iVar 2) (evCons (iCon (.int 2147483647)) evNil))) evNil))) (evCons (iPrim (f2 mulD) (evCons (iCon (.int 7919)) (evCons (iPrim (f2 ixD) (evCons (iVar 0) (evCons (iCon (.int 2)) evNil))) evNil))) evNil))) (evCons (iCon (.int 2147483647)) evNil))) (iVar 0) (iCon (.int 1))))))) (sNil)) (sCons (sIf (iBoo (iPrim (f2 gtD) (evCons (iPrim (f2 ixD) (evCons (iVar 0) (evCons (iCon (.int 0)) evNil))) (evCons (iCon (.int 0)) evNil)))) (sCons (sSet 3 (iPrim (f2 modD) (evCons (iPrim (f2 ixD) (evCons (iVar 0) (evCons (iCon (.int 0)) evNil))) (evCons (iVar 1) evNil)))) (sCons (sStore (iPrim (f2 fdivD) (evCons (iPrim (f2 ixD) (evCons (iVar 0) (evCons (iCon (.int 0)) evNil))) (evCons (iVar 1) evNil))) (iVar 0) (iCon (.int 0))) (sRet (iVar 3)))) (sNil)) (sCons (sSet 4 (iPrim (f2 modD) (evCons (iPrim (f2 mulD) (evCons (iPrim (f2 addD) (evCons (iPrim (f2 ixD) (evCons (iVar 0) (evCons (iCon (.int 1)) evNil))) (evCons (iCon (.int 1)) evNil))) (evCons (iCon (.int 39373)) evNil))) (evCons (iCon (.int 1000000007)) evNil)))) (sCons (sSet 5 (iPrim (f2 modD) (evCons (iPrim (f2 mulD) (evCons (iPrim (f2 modD) (evCons (iPrim (f2 mulD) (evCons (iVar 4) (evCons (iVar 4) evNil))) (evCons (iCon (.int 998244353)) evNil))) (evCons (iCon (.int 30011)) evNil))) (evCons (iCon (.int 998244353)) evNil)))) (sCons (sIf (iBoo (iPrim (f2 gtD) (evCons (iVar 1) (evCons (iCon (.int 1000000)) evNil)))) (sRet (iPrim (f2 modD) (evCons (iPrim (f2 addD) (evCons (iPrim (f2 mulD) (evCons (iVar 5) (evCons (iCon (.int 1000000007)) evNil))) (evCons (iVar 4) evNil))) (evCons (iVar 1) evNil)))) (sNil)) (sRet (iPrim (f2 modD) (evCons (iPrim (f2 fdivD) (evCons (iVar 5) (evCons (iCon (.int 7)) evNil))) (evCons (iVar 1) evNil))))))))
noncomputable def G_l_take : List D → Store → Res XV := runF 6 M_l_take
theorem ok_l_take {w : World} {K : PySem.W.Frag} {mg : PySem.Str → Option Value} {base : Heap} (kn : Kn w K mg) : Def Pr w K mg base 1 (He.ga K ("_law_take" : PySem.Str)) (spY K 2 G_l_take) := by
  obtain ⟨fd, F⟩ := kn.says.def_ 1 (d := d_l_take) rfl
  have nd := sc_l_take.nd
  exact (def_pack (k := 0) F sc_l_take rfl (fun _ _ _ _ _ _ us hl => match us, hl with | [_, _], _ => rfl) fun cdv A outer s H E hr G0 la0 H0 => rss_cons (rs_if (rt_cmpD (y_eq hr.units) (re_ix (ru1 hr) (re_var (pv 0)) (re_int) (fun _ _ => rfl)) (re_int) (nomark _)) (rss_cons (rs_setG (ps_set nd rfl (Or.inl rfl) (re_int))) (rss_cons (rs_if (rt_cmpD y_lt (re_ix (ru1 hr) (re_var (pv 0)) (re_int) (fun _ _ => rfl)) (re_callB c_len rfl kn.n_len rfl (ra_cons (re_ix (ru1 hr) (re_var (pv 0)) (re_int) (fun _ _ => rfl)) (ra_nil))) (nomark _)) (rss_one (rs_setG (ps_set nd rfl (Or.inl rfl) (re_ix (ru1 hr) (re_ix (ru1 hr) (re_var (pv 0)) (re_int) (fun _ _ => rfl)) (re_ix (ru1 hr) (re_var (pv 0)) (re_int) (fun _ _ => rfl)) (fun _ _ => rfl))))) (rss_nil)) (rss_cons (rs_augS y_iadd (re_int) (re_var (pv 0)) (re_int)) (rss_cons (rs_if (rt_cmpD y_ge (re_var (pv 2)) (re_int) (nomark _)) (rss_one (rs_store (re_var (pv 2)) (re_var (pv 0)) (re_int))) (rss_nil)) (rss_one (rs_store (re_op y_mod (re_op y_add (re_op y_add (re_op y_mul (re_ix (ru1 hr) (re_var (pv 0)) (re_int) (fun _ _ => rfl)) (re_int)) (re_op y_mod (re_var (pv 2)) (re_int))) (re_op y_mul (re_int) (re_ix (ru1 hr) (re_var (pv 0)) (re_int) (fun _ _ => rfl)))) (re_int)) (re_var (pv 0)) (re_int))))))) (rss_nil)) (rss_cons (rs_if (rt_cmpD y_gt (re_ix (ru1 hr) (re_var (pv 0)) (re_int) (fun _ _ => rfl)) (re_int) (nomark _)) (rss_cons (rs_setG (ps_set nd rfl (Or.inl rfl) (re_op y_mod (re_ix (ru1 hr) (re_var (pv 0)) (re_int) (fun _ _ => rfl)) (re_var (pv 1))))) (rss_cons (rs_store (re_op y_fdiv (re_ix (ru1 hr) (re_var (pv 0)) (re_int) (fun _ _ => rfl)) (re_var (pv 1))) (re_var (pv 0)) (re_int)) (rss_one (rs_ret (re_var (pv 3)))))) (rss_nil)) (rss_cons (rs_setG (ps_set nd rfl (Or.inl rfl) (re_op y_mod (re_op y_mul (re_op y_add (re_ix (ru1 hr) (re_var (pv 0)) (re_int) (fun _ _ => rfl)) (re_int)) (re_int)) (re_int)))) (rss_cons (rs_setG (ps_set nd rfl (Or.inl rfl) (re_op y_mod (re_op y_mul (re_op y_mod (re_op y_mul (re_var (pv 4)) (re_var (pv 4))) (re_int)) (re_int)) (re_int)))) (rss_cons (rs_if (rt_cmpD y_gt (re_var (pv 1)) (re_int) (nomark _)) (rss_one (rs_ret (re_op y_mod (re_op y_add (re_op y_mul (re_var (pv 5)) (re_int)) (re_var (pv 4))) (re_var (pv 1))))) (rss_nil)) (rss_one (rs_ret (re_op y_mod (re_op y_fdiv (re_var (pv 5)) (re_int)) (re_var (pv 1))))))))))

/-! _law_made -/
def N_l_made : List PySem.Str := ["_law_thing", "_law_found"]
theorem sc_l_made : FnScope N_l_made ["_law_thing"] (defScope s_l_made) := ⟨rfl, rfl, rfl, by decide +kernel, rfl, by decide +kernel, by decide +kernel⟩
noncomputable def M_l_made : MS := sCons (sSet 1 (iArgs fLst (evCons (iEr1 ("Wrong" : PySem.Str) ("place" : PySem.Str) (iVar 0)) (evCons (iEr1 ("BadPair" : PySem.Str) ("at" : PySem.Str) (iVar 0)) (evCons (iEr1 ("NoKind" : PySem.Str) ("kind" : PySem.Str) (iVar 0)) (evCons (iEr1 ("NotComplete" : PySem.Str) ("left" : PySem.Str) (iVar 0)) (evCons (iEr1 ("Lonely" : PySem.Str) ("kind" : PySem.Str) (iVar 0)) (evCons (iEr1 ("TooMany" : PySem.Str) ("limit" : PySem.Str) (iVar 0)) (evNil))))))))) (sCons (sSet 1 (iPrim (f2 addD) (evCons (iVar 1) (evCons (iArgs fLst (evCons (iEr1 ("Crowded" : PySem.Str) ("members" : PySem.Str) (iVar 0)) (evCons (iEr1 ("Taken" : PySem.Str) ("name" : PySem.Str) (iVar 0)) (evCons (iEr1 ("NotWaiting" : PySem.Str) ("name" : PySem.Str) (iVar 0)) (evCons (iEr1 ("Full" : PySem.Str) ("limit" : PySem.Str) (iVar 0)) (evCons (iEr1 ("Broken" : PySem.Str) ("at" : PySem.Str) (iVar 0)) (evNil))))))) evNil)))) (sRet (iPrim (f2 addD) (evCons (iVar 1) (evCons (iArgs fLst (evCons (iEr0 ("Nothing" : PySem.Str)) (evCons (iEr0 ("NoText" : PySem.Str)) (evCons (iEr0 ("NoCommand" : PySem.Str)) (evNil))))) evNil)))))
noncomputable def G_l_made : List D → Store → Res XV := runF 2 M_l_made
theorem ok_l_made {w : World} {K : PySem.W.Frag} {mg : PySem.Str → Option Value} {base : Heap} (kn : Kn w K mg) : Def Pr w K mg base 3 (He.ga K ("_law_made" : PySem.Str)) (spY K 1 G_l_made) := by
  obtain ⟨fd, F⟩ := kn.says.def_ 2 (d := d_l_made) rfl
  have nd := sc_l_made.nd
  exact (def_pack (k := 2) F sc_l_made rfl (fun _ _ _ _ _ _ us hl => match us, hl with | [_], _ => rfl) fun cdv A outer s H E hr G0 la0 H0 => rss_cons (rs_setG (ps_set nd rfl (Or.inl rfl) (re_lst (ra_cons (re_er1 (k := 0) kn.er_Wrong (room2 hr (by decide)) kn.n_super kn.g_Wrong (re_var (pv 0))) (ra_cons (re_er1 (k := 0) kn.er_BadPair (room2 hr (by decide)) kn.n_super kn.g_BadPair (re_var (pv 0))) (ra_cons (re_er1 (k := 0) kn.er_NoKind (room2 hr (by decide)) kn.n_super kn.g_NoKind (re_var (pv 0))) (ra_cons (re_er1 (k := 0) kn.er_NotComplete (room2 hr (by decide)) kn.n_super kn.g_NotComplete (re_var (pv 0))) (ra_cons (re_er1 (k := 0) kn.er_Lonely (room2 hr (by decide)) kn.n_super kn.g_Lonely (re_var (pv 0))) (ra_cons (re_er1 (k := 0) kn.er_TooMany (room2 hr (by decide)) kn.n_super kn.g_TooMany (re_var (pv 0))) (ra_nil)))))))))) (rss_cons (rs_setG (ps_set nd rfl (Or.inl rfl) (re_op y_add (re_var (pv 1)) (re_lst (ra_cons (re_er1 (k := 0) kn.er_Crowded (room2 hr (by decide)) kn.n_super kn.g_Crowded (re_var (pv 0))) (ra_cons (re_er1 (k := 0) kn.er_Taken (room2 hr (by decide)) kn.n_super kn.g_Taken (re_var (pv 0))) (ra_cons (re_er1 (k := 0) kn.er_NotWaiting (room2 hr (by decide)) kn.n_super kn.g_NotWaiting (re_var (pv 0))) (ra_cons (re_er1 (k := 0) kn.er_Full (room2 hr (by decide)) kn.n_super kn.g_Full (re_var (pv 0))) (ra_cons (re_er1 (k := 0) kn.er_Broken (room2 hr (by decide)) kn.n_super kn.g_Broken (re_var (pv 0))) (ra_nil)))))))))) (rss_one (rs_ret (re_op y_add (re_var (pv 1)) (re_lst (ra_cons (re_er0 (k := 0) kn.er_Nothing (room2 hr (by decide)) kn.n_super kn.g_Nothing) (ra_cons (re_er0 (k := 0) kn.er_NoText (room2 hr (by decide)) kn.n_super kn.g_NoText) (ra_cons (re_er0 (k := 0) kn.er_NoCommand (room2 hr (by decide)) kn.n_super kn.g_NoCommand) (ra_nil))))))))))

/-! _law_classes -/
def N_l_classes : List PySem.Str := ["_law_e", "_law_found"]
theorem sc_l_classes : FnScope N_l_classes ["_law_e"] (defScope s_l_classes) := ⟨rfl, rfl, rfl, by decide +kernel, rfl, by decide +kernel, by decide +kernel⟩
noncomputable def M_l_classes : MS := sCons (sSet 1 (iArgs fLst (evCons (iPrim (f1 (isiE owL erL kitT (.inr ("Wrong" : PySem.Str)))) (evCons (iVar 0) evNil)) (evCons (iPrim (f1 (isiE owL erL kitT (.inr ("BadPair" : PySem.Str)))) (evCons (iVar 0) evNil)) (evCons (iPrim (f1 (isiE owL erL kitT (.inr ("NoKind" : PySem.Str)))) (evCons (iVar 0) evNil)) (evCons (iPrim (f1 (isiE owL erL kitT (.inr ("NotComplete" : PySem.Str)))) (evCons (iVar 0) evNil)) (evNil))))))) (sCons (sSet 1 (iPrim (f2 addD) (evCons (iVar 1) (evCons (iArgs fLst (evCons (iPrim (f1 (isiE owL erL kitT (.inr ("Lonely" : PySem.Str)))) (evCons (iVar 0) evNil)) (evCons (iPrim (f1 (isiE owL erL kitT (.inr ("TooMany" : PySem.Str)))) (evCons (iVar 0) evNil)) (evCons (iPrim (f1 (isiE owL erL kitT (.inr ("Crowded" : PySem.Str)))) (evCons (iVar 0) evNil)) (evCons (iPrim (f1 (isiE owL erL kitT (.inr ("Taken" : PySem.Str)))) (evCons (iVar 0) evNil)) (evNil)))))) evNil)))) (sCons (sSet 1 (iPrim (f2 addD) (evCons (iVar 1) (evCons (iArgs fLst (evCons (iPrim (f1 (isiE owL erL kitT (.inr ("NotWaiting" : PySem.Str)))) (evCons (iVar 0) evNil)) (evCons (iPrim (f1 (isiE owL erL kitT (.inr ("Full" : PySem.Str)))) (evCons (iVar 0) evNil)) (evCons (iPrim (f1 (isiE owL erL kitT (.inr ("Broken" : PySem.Str)))) (evCons (iVar 0) evNil)) (evCons (iPrim (f1 (isiE owL erL kitT (.inr ("Nothing" : PySem.Str)))) (evCons (iVar 0) evNil)) (evNil)))))) evNil)))) (sRet (iPrim (f2 addD) (evCons (iVar 1) (evCons (iArgs fLst (evCons (iPrim (f1 (isiE owL erL kitT (.inr ("NoText" : PySem.Str)))) (evCons (iVar 0) evNil)) (evCons (iPrim (f1 (isiE owL erL kitT (.inr ("NoCommand" : PySem.Str)))) (evCons (iVar 0) evNil)) (evNil)))) evNil))))))
noncomputable def G_l_classes : List D → Store → Res XV := runF 2 M_l_classes
theorem ok_l_classes {w : World} {K : PySem.W.Frag} {mg : PySem.Str → Option Value} {base : Heap} (kn : Kn w K mg) : Def Pr w K mg base 1 (He.ga K ("_law_classes" : PySem.Str)) (spY K 1 G_l_classes) := by
  obtain ⟨fd, F⟩ := kn.says.def_ 3 (d := d_l_classes) rfl
  have nd := sc_l_classes.nd
  exact (def_pack (k := 0) F sc_l_classes rfl (fun _ _ _ _ _ _ us hl => match us, hl with | [_], _ => rfl) fun cdv A outer s H E hr G0 la0 H0 => rss_cons (rs_setG (ps_set nd rfl (Or.inl rfl) (re_lst (ra_cons (re_isiE (c := (.inr ("Wrong" : PySem.Str))) kn.ow kn.er kn.kit rfl kn.n_isinstance (re_var (pv 0)) (pe_glob rfl kn.g_Wrong rfl)) (ra_cons (re_isiE (c := (.inr ("BadPair" : PySem.Str))) kn.ow kn.er kn.kit rfl kn.n_isinstance (re_var (pv 0)) (pe_glob rfl kn.g_BadPair rfl)) (ra_cons (re_isiE (c := (.inr ("NoKind" : PySem.Str))) kn.ow kn.er kn.kit rfl kn.n_isinstance (re_var (pv 0)) (pe_glob rfl kn.g_NoKind rfl)) (ra_cons (re_isiE (c := (.inr ("NotComplete" : PySem.Str))) kn.ow kn.er kn.kit rfl kn.n_isinstance (re_var (pv 0)) (pe_glob rfl kn.g_NotComplete rfl)) (ra_nil)))))))) (rss_cons (rs_setG (ps_set nd rfl (Or.inl rfl) (re_op y_add (re_var (pv 1)) (re_lst (ra_cons (re_isiE (c := (.inr ("Lonely" : PySem.Str))) kn.ow kn.er kn.kit rfl kn.n_isinstance (re_var (pv 0)) (pe_glob rfl kn.g_Lonely rfl)) (ra_cons (re_isiE (c := (.inr ("TooMany" : PySem.Str))) kn.ow kn.er kn.kit rfl kn.n_isinstance (re_var (pv 0)) (pe_glob rfl kn.g_TooMany rfl)) (ra_cons (re_isiE (c := (.inr ("Crowded" : PySem.Str))) kn.ow kn.er kn.kit rfl kn.n_isinstance (re_var (pv 0)) (pe_glob rfl kn.g_Crowded rfl)) (ra_cons (re_isiE (c := (.inr ("Taken" : PySem.Str))) kn.ow kn.er kn.kit rfl kn.n_isinstance (re_var (pv 0)) (pe_glob rfl kn.g_Taken rfl)) (ra_nil))))))))) (rss_cons (rs_setG (ps_set nd rfl (Or.inl rfl) (re_op y_add (re_var (pv 1)) (re_lst (ra_cons (re_isiE (c := (.inr ("NotWaiting" : PySem.Str))) kn.ow kn.er kn.kit rfl kn.n_isinstance (re_var (pv 0)) (pe_glob rfl kn.g_NotWaiting rfl)) (ra_cons (re_isiE (c := (.inr ("Full" : PySem.Str))) kn.ow kn.er kn.kit rfl kn.n_isinstance (re_var (pv 0)) (pe_glob rfl kn.g_Full rfl)) (ra_cons (re_isiE (c := (.inr ("Broken" : PySem.Str))) kn.ow kn.er kn.kit rfl kn.n_isinstance (re_var (pv 0)) (pe_glob rfl kn.g_Broken rfl)) (ra_cons (re_isiE (c := (.inr ("Nothing" : PySem.Str))) kn.ow kn.er kn.kit rfl kn.n_isinstance (re_var (pv 0)) (pe_glob rfl kn.g_Nothing rfl)) (ra_nil))))))))) (rss_one (rs_ret (re_op y_add (re_var (pv 1)) (re_lst (ra_cons (re_isiE (c := (.inr ("NoText" : PySem.Str))) kn.ow kn.er kn.kit rfl kn.n_isinstance (re_var (pv 0)) (pe_glob rfl kn.g_NoText rfl)) (ra_cons (re_isiE (c := (.inr ("NoCommand" : PySem.Str))) kn.ow kn.er kn.kit rfl kn.n_isinstance (re_var (pv 0)) (pe_glob rfl kn.g_NoCommand rfl)) (ra_nil))))))))))

/-! _law_fields -/
def N_l_fields : List PySem.Str := ["_law_raised", "_law_found"]
theorem sc_l_fields : FnScope N_l_fields ["_law_raised"] (defScope s_l_fields) := ⟨rfl, rfl, rfl, by decide +kernel, rfl, by decide +kernel, by decide +kernel⟩
noncomputable def M_l_fields : MS := sCons (sSet 1 (iArgs fLst (evCons (iPrim (f1 (xfD xfL ("place" : PySem.Str))) (evCons (iPrim (f2 ixD) (evCons (iVar 0) (evCons (iCon (.int 0)) evNil))) evNil)) (evCons (iPrim (f1 (xfD xfL ("at" : PySem.Str))) (evCons (iPrim (f2 ixD) (evCons (iVar 0) (evCons (iCon (.int 1)) evNil))) evNil)) (evCons (iPrim (f1 (xfD xfL ("kind" : PySem.Str))) (evCons (iPrim (f2 ixD) (evCons (iVar 0) (evCons (iCon (.int 2)) evNil))) evNil)) (evCons (iPrim (f1 (xfD xfL ("left" : PySem.Str))) (evCons (iPrim (f2 ixD) (evCons (iVar 0) (evCons (iCon (.int 3)) evNil))) evNil)) (evCons (iPrim (f1 (xfD xfL ("kind" : PySem.Str))) (evCons (iPrim (f2 ixD) (evCons (iVar 0) (evCons (iCon (.int 4)) evNil))) evNil)) (evCons (iPrim (f1 (xfD xfL ("limit" : PySem.Str))) (evCons (iPrim (f2 ixD) (evCons (iVar 0) (evCons (iCon (.int 5)) evNil))) evNil)) (evNil))))))))) (sRet (iPrim (f2 addD) (evCons (iVar 1) (evCons (iArgs fLst (evCons (iPrim (f1 (xfD xfL ("members" : PySem.Str))) (evCons (iPrim (f2 ixD) (evCons (iVar 0) (evCons (iCon (.int 6)) evNil))) evNil)) (evCons (iPrim (f1 (xfD xfL ("name" : PySem.Str))) (evCons (iPrim (f2 ixD) (evCons (iVar 0) (evCons (iCon (.int 7)) evNil))) evNil)) (evCons (iPrim (f1 (xfD xfL ("name" : PySem.Str))) (evCons (iPrim (f2 ixD) (evCons (iVar 0) (evCons (iCon (.int 8)) evNil))) evNil)) (evCons (iPrim (f1 (xfD xfL ("limit" : PySem.Str))) (evCons (iPrim (f2 ixD) (evCons (iVar 0) (evCons (iCon (.int 9)) evNil))) evNil)) (evCons (iPrim (f1 (xfD xfL ("at" : PySem.Str))) (evCons (iPrim (f2 ixD) (evCons (iVar 0) (evCons (iCon (.int 10)) evNil))) evNil)) (evNil))))))) evNil))))
noncomputable def G_l_fields : List D → Store → Res XV := runF 2 M_l_fields
theorem ok_l_fields {w : World} {K : PySem.W.Frag} {mg : PySem.Str → Option Value} {base : Heap} (kn : Kn w K mg) : Def Pr w K mg base 1 (He.ga K ("_law_fields" : PySem.Str)) (spY K 1 G_l_fields) := by
  obtain ⟨fd, F⟩ := kn.says.def_ 4 (d := d_l_fields) rfl
  have nd := sc_l_fields.nd
  exact (def_pack (k := 0) F sc_l_fields rfl (fun _ _ _ _ _ _ us hl => match us, hl with | [_], _ => rfl) fun cdv A outer s H E hr G0 la0 H0 => rss_cons (rs_setG (ps_set nd rfl (Or.inl rfl) (re_lst (ra_cons (re_xf kn.xf (re_ix (ru1 hr) (re_var (pv 0)) (re_int) (fun _ _ => rfl))) (ra_cons (re_xf kn.xf (re_ix (ru1 hr) (re_var (pv 0)) (re_int) (fun _ _ => rfl))) (ra_cons (re_xf kn.xf (re_ix (ru1 hr) (re_var (pv 0)) (re_int) (fun _ _ => rfl))) (ra_cons (re_xf kn.xf (re_ix (ru1 hr) (re_var (pv 0)) (re_int) (fun _ _ => rfl))) (ra_cons (re_xf kn.xf (re_ix (ru1 hr) (re_var (pv 0)) (re_int) (fun _ _ => rfl))) (ra_cons (re_xf kn.xf (re_ix (ru1 hr) (re_var (pv 0)) (re_int) (fun _ _ => rfl))) (ra_nil)))))))))) (rss_one (rs_ret (re_op y_add (re_var (pv 1)) (re_lst (ra_cons (re_xf kn.xf (re_ix (ru1 hr) (re_var (pv 0)) (re_int) (fun _ _ => rfl))) (ra_cons (re_xf kn.xf (re_ix (ru1 hr) (re_var (pv 0)) (re_int) (fun _ _ => rfl))) (ra_cons (re_xf kn.xf (re_ix (ru1 hr) (re_var (pv 0)) (re_int) (fun _ _ => rfl))) (ra_cons (re_xf kn.xf (re_ix (ru1 hr) (re_var (pv 0)) (re_int) (fun _ _ => rfl))) (ra_cons (re_xf kn.xf (re_ix (ru1 hr) (re_var (pv 0)) (re_int) (fun _ _ => rfl))) (ra_nil)))))))))))

/-! law -/
def N_law : List PySem.Str := ["_law_script", "_law_bag_here", "_law_turn", "_law_some", "_law_thing", "_law_raised", "_law_at", "_law_place", "_law_fields_here", "_law_one", "_law_base"]
theorem sc_law : FnScope N_law ["_law_script"] (defScope s_law) := ⟨rfl, rfl, rfl, by decide +kernel, rfl, by decide +kernel, by decide +kernel⟩
noncomputable def M_law : MS := sCons (sSetC 1 (iCall 1 G_l_bag (evCons (iVar 0) (evNil)))) (sCons (sFor (iRng rng1Q (evCons (iCon (.int 3)) (evNil))) (pNm 2) (sCons (sSet 3 (iArgs fLst (evCons (iCon .non) (evCons (iCon (.bl true)) (evCons (iPrim (f1 negD) (evCons (iCon (.int 1)) evNil)) (evCons (iPrim (f2 powD) (evCons (iCon (.int 10)) (evCons (iCon (.int 39)) evNil))) (evCons (iCon (.str ("" : PySem.Str))) (evCons (iCon (.str ("ab" : PySem.Str))) (evCons (iCell (iArgs fLst (evCons (iCon (.int 1)) (evCons (iArgs fLst (evCons (iCon (.int 2)) (evNil))) (evNil))))) (evCons (iArgs fTup (evNil)) (evCons (iArgs fTup (evCons (iCon (.int 1)) (evCons (iCon (.str ("a" : PySem.Str))) (evNil)))) (evCons (iCell (iDisp [(iCon (.str ("a" : PySem.Str)), iArgs fLst (evCons (iCon (.int 1)) (evNil)))])) (evCons (iCell (iArgs fLst (evNil))) (evCons (iCell (iArgs fLst (evCons (iCon (.str ("x" : PySem.Str))) (evNil)))) (evNil))))))))))))))) (sCons (sSet 4 (iPrim (f2 ixD) (evCons (iVar 3) (evCons (iCall 2 G_l_take (evCons (iVar 1) (evCons (iCon (.int 12)) (evNil)))) evNil)))) (sCons (sSet 5 (iCall 1 G_l_made (evCons (iVar 4) (evNil)))) (sCons (sFor (iRng rng1Q (evCons (iCon (.int 14)) (evNil))) (pNm 6) (sCons (sIf (iBoo (iPrim (f2 neD) (evCons (iCall 1 G_l_classes (evCons (iPrim (f2 ixD) (evCons (iVar 5) (evCons (iVar 6) evNil))) (evNil))) (evCons (iLc [7] (iRng rng1Q (evCons (iCon (.int 14)) (evNil))) (pNm 7) (iYes) (iPrim (f2 eqD) (evCons (iVar 7) (evCons (iVar 6) evNil)))) evNil)))) (sRet (iCon (.bl false))) (sNil)) (sIf (iOrT (iNotT (iTru (iPrim (f1 (isiE owL erL kitT (.inr ("SuitError" : PySem.Str)))) (evCons (iPrim (f2 ixD) (evCons (iVar 5) (evCons (iVar 6) evNil))) evNil)))) (iNotT (iTru (iPrim (f1 (isiE owL erL kitT (.inl "ValueError"))) (evCons (iPrim (f2 ixD) (evCons (iVar 5) (evCons (iVar 6) evNil))) evNil))))) (sRet (iCon (.bl false))) (sNil)))) (sCons (sSet 8 (iCall 1 G_l_fields (evCons (iVar 5) (evNil)))) (sCons (sIf (iOrT (iBoo (iPrim (f2 neD) (evCons (iLc [9] (iSrc lstQ (iVar 8)) (pNm 9) (iYes) (iPrim (f2 isND) (evCons (iVar 9) (evCons (iCon .non) evNil)))) (evCons (iPrim (f2 mulD) (evCons (iArgs fLst (evCons (iPrim (f2 isND) (evCons (iVar 4) (evCons (iCon .non) evNil))) (evNil))) (evCons (iCon (.int 11)) evNil))) evNil)))) (iBoo (iPrim (f2 neS) (evCons (iVar 8) (evCons (iPrim (f2 mulD) (evCons (iArgs fLst (evCons (iVar 4) (evNil))) (evCons (iCon (.int 11)) evNil))) evNil))))) (sRet (iCon (.bl false))) (sNil)) (sCons (sIf (iTru (iPrim (f1 (isiE owL erL kitT (.inl "list"))) (evCons (iVar 4) evNil))) (sApp (iVar 4) (iCon (.int 7))) (sNil)) (sCons (sIf (iTru (iPrim (f1 (isiE owL erL kitT (.inl "dict"))) (evCons (iVar 4) evNil))) (sStoreD (iCon (.int 7)) (iVar 4) (iCon (.str ("b" : PySem.Str)))) (sNil)) (sIf (iBoo (iPrim (f2 neS) (evCons (iCall 1 G_l_fields (evCons (iVar 5) (evNil))) (evCons (iPrim (f2 mulD) (evCons (iArgs fLst (evCons (iVar 4) (evNil))) (evCons (iCon (.int 11)) evNil))) evNil)))) (sRet (iCon (.bl false))) (sNil))))))))))) (sCons (sFor (iSrc lstQ (iArgs fLst (evCons (iErB ("SuitError" : PySem.Str) (evCons (iCon (.str ("words" : PySem.Str))) (evNil))) (evCons (iEr0 ("SuitError" : PySem.Str)) (evCons (iErB ("SuitError" : PySem.Str) (evCons (iCon (.str ("words" : PySem.Str))) (evCons (iCon (.str ("more" : PySem.Str))) (evNil)))) (evNil)))))) (pNm 10) (sIf (iOrT (iNotT (iTru (iPrim (f1 (isiE owL erL kitT (.inl "ValueError"))) (evCons (iVar 10) evNil)))) (iTru (iPrim (f1 anyD) (evCons (iCall 1 G_l_classes (evCons (iVar 10) (evNil))) (evNil))))) (sRet (iCon (.bl false))) (sNil))) (sRet (iCon (.bl true)))))
noncomputable def G_law : List D → Store → Res XV := runF 11 M_law
theorem okF_law {w : World} {K : PySem.W.Frag} {mg : PySem.Str → Option Value} {base : Heap} {fd : FuncData} (kn : Kn w K mg) (F : L2.FunD K d_law.name d_law.qual d_law.params d_law.body d_law.scope [] [] (He.ga K "law") fd) : L2.FnOk Pr w K mg base (L2.CX Pr w) 4 (He.ga K ("law" : PySem.Str)) fd ["_law_script"] (spY K 1 G_law) := by
  have nd := sc_law.nd
  exact (def_ok (k := 3) F sc_law rfl fun cdv A outer s H E hr G0 la0 H0 => rss_cons (rs_setCG (ps_set nd rfl (Or.inl rfl) (rd_call (ok_l_bag kn) hr (by decide) takesY kn.g_l_bag (ra_cons (re_var (pv 0)) (ra_nil))))) (rss_cons (rs_for passesY rfl (ri_range1 rfl kn.n_range (re_int)) (pg_name nd rfl (Or.inl rfl)) tg_nm (rss_cons (rs_setG (ps_set nd rfl (Or.inl rfl) (re_lst (ra_cons (re_non) (ra_cons (re_bl) (ra_cons (re_neg (re_int)) (ra_cons (re_op y_pow (re_int) (re_int)) (ra_cons (re_str) (ra_cons (re_str) (ra_cons (re_cell (re_lst (ra_cons (re_int) (ra_cons (re_lst (ra_cons (re_int) (ra_nil))) (ra_nil))))) (ra_cons (re_tup (ra_nil)) (ra_cons (re_tup (ra_cons (re_int) (ra_cons (re_str) (ra_nil)))) (ra_cons (re_cell (re_disp (ms := [(iCon (.str ("a" : PySem.Str)), iArgs fLst (evCons (iCon (.int 1)) (evNil)))]) (pps_cons (re_str) (re_lst (ra_cons (re_int) (ra_nil))) (pps_nil)))) (ra_cons (re_cell (re_lst (ra_nil))) (ra_cons (re_cell (re_lst (ra_cons (re_str) (ra_nil)))) (ra_nil)))))))))))))))) (rss_cons (rs_setG (ps_set nd rfl (Or.inl rfl) (re_ix (ru1 hr) (re_var (pv 3)) (rd_call (ok_l_take kn) hr (by decide) takesY kn.g_l_take (ra_cons (re_var (pv 1)) (ra_cons (re_int) (ra_nil)))) (fun _ _ => rfl)))) (rss_cons (rs_setG (ps_set nd rfl (Or.inl rfl) (rd_call (ok_l_made kn) hr (by decide) takesY kn.g_l_made (ra_cons (re_var (pv 4)) (ra_nil))))) (rss_cons (rs_for passesY rfl (ri_range1 rfl kn.n_range (re_int)) (pg_name nd rfl (Or.inr rfl)) tg_nm (rss_cons (rs_if (rt_cmpD (y_ne hr.units) (rd_call (ok_l_classes kn) hr (by decide) takesY kn.g_l_classes (ra_cons (re_ix (ru1 hr) (re_var (pv 5)) (re_var (pv 6)) (fun _ _ => rfl)) (ra_nil))) (re_lc (own := [(("_law_place" : PySem.Str), 7)]) rfl nd (ri_range1 rfl kn.n_range (re_int)) (blkOk_by (by kernel_rfl)) tg_nm (by decide) (fun s H C cl fp => pg_name nd rfl (Or.inl rfl)) (fun s H C cl fp => rts_nil) (fun s H C cl fp => re_cmp (y_eq hr.units) (re_var (pv 7)) (re_var (pv 6)) (nomark _))) (nomark _)) (rss_one (rs_ret (re_bl))) (rss_nil)) (rss_one (rs_if (PW.pt (rw_or (rt_not (rt_tru (re_isiE (c := (.inr ("SuitError" : PySem.Str))) kn.ow kn.er kn.kit rfl kn.n_isinstance (re_ix (ru1 hr) (re_var (pv 5)) (re_var (pv 6)) (fun _ _ => rfl)) (pe_glob rfl kn.g_SuitError rfl)))) (rw_or1 (rt_not (rt_tru (re_isiE (c := (.inl "ValueError")) kn.ow kn.er kn.kit rfl kn.n_isinstance (re_ix (ru1 hr) (re_var (pv 5)) (re_var (pv 6)) (fun _ _ => rfl)) (pe_bltn rfl kn.n_ValueError rfl rfl))))))) (rss_one (rs_ret (re_bl))) (rss_nil))))) (rss_cons (rs_setG (ps_set nd rfl (Or.inl rfl) (rd_call (ok_l_fields kn) hr (by decide) takesY kn.g_l_fields (ra_cons (re_var (pv 5)) (ra_nil))))) (rss_cons (rs_if (PW.pt (rw_or (rt_cmpD (y_ne hr.units) (re_lc (own := [(("_law_one" : PySem.Str), 9)]) rfl nd (ri_list (re_var (pv 8))) (blkOk_by (by kernel_rfl)) tg_nm (by decide) (fun s H C cl fp => pg_name nd rfl (Or.inl rfl)) (fun s H C cl fp => rts_nil) (fun s H C cl fp => re_cmp y_is (re_var (pv 9)) (re_non) (nomark _))) (re_op y_mul (re_lst (ra_cons (re_cmp y_is (re_var (pv 4)) (re_non) (nomark _)) (ra_nil))) (re_int)) (nomark _)) (rw_or1 (rt_cmpD (y_neS hr.units) (re_var (pv 8)) (re_op y_mul (re_lst (ra_cons (re_var (pv 4)) (ra_nil))) (re_int)) (nomark _))))) (rss_one (rs_ret (re_bl))) (rss_nil)) (rss_cons (rs_if (rt_tru (re_isiE (c := (.inl "list")) kn.ow kn.er kn.kit rfl kn.n_isinstance (re_var (pv 4)) (pe_bltn rfl kn.n_list rfl rfl))) (rss_one (rs_app (pe_bm PySem.F.plainAttrs_list PySem.F.slot_list_append PySem.F.type_list_append mt_append (re_var (pv 4)) (pa_cons (re_int) pa_nil)))) (rss_nil)) (rss_cons (rs_if (rt_tru (re_isiE (c := (.inl "dict")) kn.ow kn.er kn.kit rfl kn.n_isinstance (re_var (pv 4)) (pe_bltn rfl kn.n_dict rfl rfl))) (rss_one (rs_storeD (ru1 hr) (re_int) (re_var (pv 4)) (re_str))) (rss_nil)) (rss_one (rs_if (rt_cmpD (y_neS hr.units) (rd_call (ok_l_fields kn) hr (by decide) takesY kn.g_l_fields (ra_cons (re_var (pv 5)) (ra_nil))) (re_op y_mul (re_lst (ra_cons (re_var (pv 4)) (ra_nil))) (re_int)) (nomark _)) (rss_one (rs_ret (re_bl))) (rss_nil)))))))))))) (rss_cons (rs_for passesY rfl (ri_list (re_lst (ra_cons (re_erB kn.er_SuitError kn.g_SuitError (ra_cons (re_str) (ra_nil))) (ra_cons (re_erB0 kn.er_SuitError kn.g_SuitError) (ra_cons (re_erB kn.er_SuitError kn.g_SuitError (ra_cons (re_str) (ra_cons (re_str) (ra_nil)))) (ra_nil)))))) (pg_name nd rfl (Or.inl rfl)) tg_nm (rss_one (rs_if (PW.pt (rw_or (rt_not (rt_tru (re_isiE (c := (.inl "ValueError")) kn.ow kn.er kn.kit rfl kn.n_isinstance (re_var (pv 10)) (pe_bltn rfl kn.n_ValueError rfl rfl)))) (rw_or1 (rt_tru (re_callB (c_any rfl) rfl kn.n_any rfl (ra_cons (rd_call (ok_l_classes kn) hr (by decide) takesY kn.g_l_classes (ra_cons (re_var (pv 10)) (ra_nil))) (ra_nil))))))) (rss_one (rs_ret (re_bl))) (rss_nil)))) (rss_one (rs_ret (re_bl))))))
def lawLvl : Nat := 4
theorem law_fd {w : World} {K : PySem.W.Frag} {mg : PySem.Str → Option Value} (kn : Kn w K mg) : ∃ fd, L2.FunD K d_law.name d_law.qual d_law.params d_law.body d_law.scope [] [] (He.ga K "law") fd := kn.says.def_ 5 (d := d_law) rfl
end K17

set_option maxHeartbeats 400000
namespace K17
open PySem L2 PySem.Spec PyProof.Rows Y
noncomputable def pS3 : MS := sSet 3 (iArgs fLst (evCons (iCon .non) (evCons (iCon (.bl true)) (evCons (iPrim (f1 negD) (evCons (iCon (.int 1)) evNil)) (evCons (iPrim (f2 powD) (evCons (iCon (.int 10)) (evCons (iCon (.int 39)) evNil))) (evCons (iCon (.str ("" : PySem.Str))) (evCons (iCon (.str ("ab" : PySem.Str))) (evCons (iCell (iArgs fLst (evCons (iCon (.int 1)) (evCons (iArgs fLst (evCons (iCon (.int 2)) (evNil))) (evNil))))) (evCons (iArgs fTup (evNil)) (evCons (iArgs fTup (evCons (iCon (.int 1)) (evCons (iCon (.str ("a" : PySem.Str))) (evNil)))) (evCons (iCell (iDisp [(iCon (.str ("a" : PySem.Str)), iArgs fLst (evCons (iCon (.int 1)) (evNil)))])) (evCons (iCell (iArgs fLst (evNil))) (evCons (iCell (iArgs fLst (evCons (iCon (.str ("x" : PySem.Str))) (evNil)))) (evNil))))))))))))))
noncomputable def pS4 : MS := sSet 4 (iPrim (f2 ixD) (evCons (iVar 3) (evCons (iCall 2 G_l_take (evCons (iVar 1) (evCons (iCon (.int 12)) (evNil)))) evNil)))
noncomputable def pMade : MS := sSet 5 (iCall 1 G_l_made (evCons (iVar 4) (evNil)))
noncomputable def pLoop : MS := sFor (iRng rng1Q (evCons (iCon (.int 14)) (evNil))) (pNm 6) (sCons (sIf (iBoo (iPrim (f2 neD) (evCons (iCall 1 G_l_classes (evCons (iPrim (f2 ixD) (evCons (iVar 5) (evCons (iVar 6) evNil))) (evNil))) (evCons (iLc [7] (iRng rng1Q (evCons (iCon (.int 14)) (evNil))) (pNm 7) (iYes) (iPrim (f2 eqD) (evCons (iVar 7) (evCons (iVar 6) evNil)))) evNil)))) (sRet (iCon (.bl false))) (sNil)) (sIf (iOrT (iNotT (iTru (iPrim (f1 (isiE owL erL kitT (.inr ("SuitError" : PySem.Str)))) (evCons (iPrim (f2 ixD) (evCons (iVar 5) (evCons (iVar 6) evNil))) evNil)))) (iNotT (iTru (iPrim (f1 (isiE owL erL kitT (.inl "ValueError"))) (evCons (iPrim (f2 ixD) (evCons (iVar 5) (evCons (iVar 6) evNil))) evNil))))) (sRet (iCon (.bl false))) (sNil)))
noncomputable def pTail : MS := sCons (sSet 8 (iCall 1 G_l_fields (evCons (iVar 5) (evNil)))) (sCons (sIf (iOrT (iBoo (iPrim (f2 neD) (evCons (iLc [9] (iSrc lstQ (iVar 8)) (pNm 9) (iYes) (iPrim (f2 isND) (evCons (iVar 9) (evCons (iCon .non) evNil)))) (evCons (iPrim (f2 mulD) (evCons (iArgs fLst (evCons (iPrim (f2 isND) (evCons (iVar 4) (evCons (iCon .non) evNil))) (evNil))) (evCons (iCon (.int 11)) evNil))) evNil)))) (iBoo (iPrim (f2 neS) (evCons (iVar 8) (evCons (iPrim (f2 mulD) (evCons (iArgs fLst (evCons (iVar 4) (evNil))) (evCons (iCon (.int 11)) evNil))) evNil))))) (sRet (iCon (.bl false))) (sNil)) (sCons (sIf (iTru (iPrim (f1 (isiE owL erL kitT (.inl "list"))) (evCons (iVar 4) evNil))) (sApp (iVar 4) (iCon (.int 7))) (sNil)) (sCons (sIf (iTru (iPrim (f1 (isiE owL erL kitT (.inl "dict"))) (evCons (iVar 4) evNil))) (sStoreD (iCon (.int 7)) (iVar 4) (iCon (.str ("b" : PySem.Str)))) (sNil)) (sIf (iBoo (iPrim (f2 neS) (evCons (iCall 1 G_l_fields (evCons (iVar 5) (evNil))) (evCons (iPrim (f2 mulD) (evCons (iArgs fLst (evCons (iVar 4) (evNil))) (evCons (iCon (.int 11)) evNil))) evNil)))) (sRet (iCon (.bl false))) (sNil)))))
noncomputable def pB : MS := sCons pS3 (sCons pS4 (sCons pMade (sCons pLoop pTail)))
noncomputable def pBases : MS := sCons (sFor (iSrc lstQ (iArgs fLst (evCons (iErB ("SuitError" : PySem.Str) (evCons (iCon (.str ("words" : PySem.Str))) (evNil))) (evCons (iEr0 ("SuitError" : PySem.Str)) (evCons (iErB ("SuitError" : PySem.Str) (evCons (iCon (.str ("words" : PySem.Str))) (evCons (iCon (.str ("more" : PySem.Str))) (evNil)))) (evNil)))))) (pNm 10) (sIf (iOrT (iNotT (iTru (iPrim (f1 (isiE owL erL kitT (.inl "ValueError"))) (evCons (iVar 10) evNil)))) (iTru (iPrim (f1 anyD) (evCons (iCall 1 G_l_classes (evCons (iVar 10) (evNil))) (evNil))))) (sRet (iCon (.bl false))) (sNil))) (sRet (iCon (.bl true)))
noncomputable def pAll : MS := sCons (sSetC 1 (iCall 1 G_l_bag (evCons (iVar 0) (evNil)))) (sCons (sFor (iRng rng1Q (evCons (iCon (.int 3)) (evNil))) (pNm 2) pB) pBases)
theorem M_eq : M_law = pAll := rfl
theorem take_eq : G_l_take = runF 6 takeM := rfl
theorem bag_eq : G_l_bag = runF 2 bagM := rfl
def errs (d : D) : List D := [.exv "Wrong" ["place"] [d], .exv "BadPair" ["at"] [d], .exv "NoKind" ["kind"] [d], .exv "NotComplete" ["left"] [d], .exv "Lonely" ["kind"] [d], .exv "TooMany" ["limit"] [d], .exv "Crowded" ["members"] [d], .exv "Taken" ["name"] [d], .exv "NotWaiting" ["name"] [d], .exv "Full" ["limit"] [d], .exv "Broken" ["at"] [d], .exv "Nothing" [] [], .exv "NoText" [] [], .exv "NoCommand" [] []]
theorem made_eq (x0 x1 x2 x3 x5 x6 x7 x8 x9 x10 : Option Sl) (d : D) (st : Store) : pMade [x0, x1, x2, x3, some (.v d), x5, x6, x7, x8, x9, x10] st = .nx [x0, x1, x2, x3, some (.v d), some (.v (.lst (errs d))), x6, x7, x8, x9, x10] st := by
  kernel_rfl
theorem loop_eq (x0 x1 x2 x3 x4 x6 x7 x8 x9 x10 : Option Sl) (d : D) (st : Store) : pLoop [x0, x1, x2, x3, x4, some (.v (.lst (errs d))), x6, x7, x8, x9, x10] st = .nx [x0, x1, x2, x3, x4, some (.v (.lst (errs d))), some (.v (.int 13)), x7, x8, x9, x10] st := by
  kernel_rfl
def some12 (k : Nat) : List D := [.non, .bl true, .int (-1), .int (10 ^ 39), .str "", .str "ab", .cell k, .tup [], .tup [.int 1, .str "a"], .cell (k + 1), .cell (k + 2), .cell (k + 3)]
theorem s3_0 (x0 x2 x3 x4 x5 x6 x7 x8 x9 x10 : Option Sl) (s0 : Option D) : pS3 [x0, some (.v (.cell 0)), x2, x3, x4, x5, x6, x7, x8, x9, x10] [s0] = .nx [x0, some (.v (.cell 0)), x2, some (.v (.lst (some12 1))), x4, x5, x6, x7, x8, x9, x10] [s0, some (.lst [.int 1, .lst [.int 2]]), some (.dct [.inr "a"] [.lst [.int 1]]), some (.lst []), some (.lst [.str "x"])] := by
  kernel_rfl
theorem tl_0_0 (x0 x2 x3 x4 x5 x6 x7 x8 x9 x10 : Option Sl) (s0 : Option D) : pTail [x0, some (.v (.cell 0)), x2, some (.v (.lst (some12 1))), some (.v (.non : D)), some (.v (.lst (errs (.non : D)))), x6, x7, x8, x9, x10] [s0, some (.lst [.int 1, .lst [.int 2]]), some (.dct [.inr "a"] [.lst [.int 1]]), some (.lst []), some (.lst [.str "x"])] = .nx [x0, some (.v (.cell 0)), x2, some (.v (.lst (some12 1))), some (.v (.non : D)), some (.v (.lst (errs (.non : D)))), x6, x7, some (.v (.lst (List.replicate 11 (.non : D)))), x9, x10] [s0, some (.lst [.int 1, .lst [.int 2]]), some (.dct [.inr "a"] [.lst [.int 1]]), some (.lst []), some (.lst [.str "x"])] := by
  kernel_rfl
theorem tl_0_1 (x0 x2 x3 x4 x5 x6 x7 x8 x9 x10 : Option Sl) (s0 : Option D) : pTail [x0, some (.v (.cell 0)), x2, some (.v (.lst (some12 1))), some (.v (.bl true : D)), some (.v (.lst (errs (.bl true : D)))), x6, x7, x8, x9, x10] [s0, some (.lst [.int 1, .lst [.int 2]]), some (.dct [.inr "a"] [.lst [.int 1]]), some (.lst []), some (.lst [.str "x"])] = .nx [x0, some (.v (.cell 0)), x2, some (.v (.lst (some12 1))), some (.v (.bl true : D)), some (.v (.lst (errs (.bl true : D)))), x6, x7, some (.v (.lst (List.replicate 11 (.bl true : D)))), x9, x10] [s0, some (.lst [.int 1, .lst [.int 2]]), some (.dct [.inr "a"] [.lst [.int 1]]), some (.lst []), some (.lst [.str "x"])] := by
  kernel_rfl
theorem tl_0_2 (x0 x2 x3 x4 x5 x6 x7 x8 x9 x10 : Option Sl) (s0 : Option D) : pTail [x0, some (.v (.cell 0)), x2, some (.v (.lst (some12 1))), some (.v (.int (-1) : D)), some (.v (.lst (errs (.int (-1) : D)))), x6, x7, x8, x9, x10] [s0, some (.lst [.int 1, .lst [.int 2]]), some (.dct [.inr "a"] [.lst [.int 1]]), some (.lst []), some (.lst [.str "x"])] = .nx [x0, some (.v (.cell 0)), x2, some (.v (.lst (some12 1))), some (.v (.int (-1) : D)), some (.v (.lst (errs (.int (-1) : D)))), x6, x7, some (.v (.lst (List.replicate 11 (.int (-1) : D)))), x9, x10] [s0, some (.lst [.int 1, .lst [.int 2]]), some (.dct [.inr "a"] [.lst [.int 1]]), some (.lst []), some (.lst [.str "x"])] := by
  kernel_rfl
theorem tl_0_3 (x0 x2 x3 x4 x5 x6 x7 x8 x9 x10 : Option Sl) (s0 : Option D) : pTail [x0, some (.v (.cell 0)), x2, some (.v (.lst (some12 1))), some (.v (.int (10 ^ 39) : D)), some (.v (.lst (errs (.int (10 ^ 39) : D)))), x6, x7, x8, x9, x10] [s0, some (.lst [.int 1, .lst [.int 2]]), some (.dct [.inr "a"] [.lst [.int 1]]), some (.lst []), some (.lst [.str "x"])] = .nx [x0, some (.v (.cell 0)), x2, some (.v (.lst (some12 1))), some (.v (.int (10 ^ 39) : D)), some (.v (.lst (errs (.int (10 ^ 39) : D)))), x6, x7, some (.v (.lst (List.replicate 11 (.int (10 ^ 39) : D)))), x9, x10] [s0, some (.lst [.int 1, .lst [.int 2]]), some (.dct [.inr "a"] [.lst [.int 1]]), some (.lst []), some (.lst [.str "x"])] := by
  kernel_rfl
theorem tl_0_4 (x0 x2 x3 x4 x5 x6 x7 x8 x9 x10 : Option Sl) (s0 : Option D) : pTail [x0, some (.v (.cell 0)), x2, some (.v (.lst (some12 1))), some (.v (.str "" : D)), some (.v (.lst (errs (.str "" : D)))), x6, x7, x8, x9, x10] [s0, some (.lst [.int 1, .lst [.int 2]]), some (.dct [.inr "a"] [.lst [.int 1]]), some (.lst []), some (.lst [.str "x"])] = .nx [x0, some (.v (.cell 0)), x2, some (.v (.lst (some12 1))), some (.v (.str "" : D)), some (.v (.lst (errs (.str "" : D)))), x6, x7, some (.v (.lst (List.replicate 11 (.str "" : D)))), x9, x10] [s0, some (.lst [.int 1, .lst [.int 2]]), some (.dct [.inr "a"] [.lst [.int 1]]), some (.lst []), some (.lst [.str "x"])] := by
  kernel_rfl
theorem tl_0_5 (x0 x2 x3 x4 x5 x6 x7 x8 x9 x10 : Option Sl) (s0 : Option D) : pTail [x0, some (.v (.cell 0)), x2, some (.v (.lst (some12 1))), some (.v (.str "ab" : D)), some (.v (.lst (errs (.str "ab" : D)))), x6, x7, x8, x9, x10] [s0, some (.lst [.int 1, .lst [.int 2]]), some (.dct [.inr "a"] [.lst [.int 1]]), some (.lst []), some (.lst [.str "x"])] = .nx [x0, some (.v (.cell 0)), x2, some (.v (.lst (some12 1))), some (.v (.str "ab" : D)), some (.v (.lst (errs (.str "ab" : D)))), x6, x7, some (.v (.lst (List.replicate 11 (.str "ab" : D)))), x9, x10] [s0, some (.lst [.int 1, .lst [.int 2]]), some (.dct [.inr "a"] [.lst [.int 1]]), some (.lst []), some (.lst [.str "x"])] := by
  kernel_rfl
theorem tl_0_6 (x0 x2 x3 x4 x5 x6 x7 x8 x9 x10 : Option Sl) (s0 : Option D) : pTail [x0, some (.v (.cell 0)), x2, some (.v (.lst (some12 1))), some (.v (.cell 1 : D)), some (.v (.lst (errs (.cell 1 : D)))), x6, x7, x8, x9, x10] [s0, some (.lst [.int 1, .lst [.int 2]]), some (.dct [.inr "a"] [.lst [.int 1]]), some (.lst []), some (.lst [.str "x"])] = .nx [x0, some (.v (.cell 0)), x2, some (.v (.lst (some12 1))), some (.v (.cell 1 : D)), some (.v (.lst (errs (.cell 1 : D)))), x6, x7, some (.v (.lst (List.replicate 11 (.cell 1 : D)))), x9, x10] [s0, some (.lst [.int 1, .lst [.int 2], .int 7]), some (.dct [.inr "a"] [.lst [.int 1]]), some (.lst []), some (.lst [.str "x"])] := by
  kernel_rfl
theorem tl_0_7 (x0 x2 x3 x4 x5 x6 x7 x8 x9 x10 : Option Sl) (s0 : Option D) : pTail [x0, some (.v (.cell 0)), x2, some (.v (.lst (some12 1))), some (.v (.tup [] : D)), some (.v (.lst (errs (.tup [] : D)))), x6, x7, x8, x9, x10] [s0, some (.lst [.int 1, .lst [.int 2]]), some (.dct [.inr "a"] [.lst [.int 1]]), some (.lst []), some (.lst [.str "x"])] = .nx [x0, some (.v (.cell 0)), x2, some (.v (.lst (some12 1))), some (.v (.tup [] : D)), some (.v (.lst (errs (.tup [] : D)))), x6, x7, some (.v (.lst (List.replicate 11 (.tup [] : D)))), x9, x10] [s0, some (.lst [.int 1, .lst [.int 2]]), some (.dct [.inr "a"] [.lst [.int 1]]), some (.lst []), some (.lst [.str "x"])] := by
  kernel_rfl
theorem tl_0_8 (x0 x2 x3 x4 x5 x6 x7 x8 x9 x10 : Option Sl) (s0 : Option D) : pTail [x0, some (.v (.cell 0)), x2, some (.v (.lst (some12 1))), some (.v (.tup [.int 1, .str "a"] : D)), some (.v (.lst (errs (.tup [.int 1, .str "a"] : D)))), x6, x7, x8, x9, x10] [s0, some (.lst [.int 1, .lst [.int 2]]), some (.dct [.inr "a"] [.lst [.int 1]]), some (.lst []), some (.lst [.str "x"])] = .nx [x0, some (.v (.cell 0)), x2, some (.v (.lst (some12 1))), some (.v (.tup [.int 1, .str "a"] : D)), some (.v (.lst (errs (.tup [.int 1, .str "a"] : D)))), x6, x7, some (.v (.lst (List.replicate 11 (.tup [.int 1, .str "a"] : D)))), x9, x10] [s0, some (.lst [.int 1, .lst [.int 2]]), some (.dct [.inr "a"] [.lst [.int 1]]), some (.lst []), some (.lst [.str "x"])] := by
  kernel_rfl
theorem tl_0_9 (x0 x2 x3 x4 x5 x6 x7 x8 x9 x10 : Option Sl) (s0 : Option D) : pTail [x0, some (.v (.cell 0)), x2, some (.v (.lst (some12 1))), some (.v (.cell 2 : D)), some (.v (.lst (errs (.cell 2 : D)))), x6, x7, x8, x9, x10] [s0, some (.lst [.int 1, .lst [.int 2]]), some (.dct [.inr "a"] [.lst [.int 1]]), some (.lst []), some (.lst [.str "x"])] = .nx [x0, some (.v (.cell 0)), x2, some (.v (.lst (some12 1))), some (.v (.cell 2 : D)), some (.v (.lst (errs (.cell 2 : D)))), x6, x7, some (.v (.lst (List.replicate 11 (.cell 2 : D)))), x9, x10] [s0, some (.lst [.int 1, .lst [.int 2]]), some (.dct [.inr "a", .inr "b"] [.lst [.int 1], .int 7]), some (.lst []), some (.lst [.str "x"])] := by
  kernel_rfl
theorem tl_0_10 (x0 x2 x3 x4 x5 x6 x7 x8 x9 x10 : Option Sl) (s0 : Option D) : pTail [x0, some (.v (.cell 0)), x2, some (.v (.lst (some12 1))), some (.v (.cell 3 : D)), some (.v (.lst (errs (.cell 3 : D)))), x6, x7, x8, x9, x10] [s0, some (.lst [.int 1, .lst [.int 2]]), some (.dct [.inr "a"] [.lst [.int 1]]), some (.lst []), some (.lst [.str "x"])] = .nx [x0, some (.v (.cell 0)), x2, some (.v (.lst (some12 1))), some (.v (.cell 3 : D)), some (.v (.lst (errs (.cell 3 : D)))), x6, x7, some (.v (.lst (List.replicate 11 (.cell 3 : D)))), x9, x10] [s0, some (.lst [.int 1, .lst [.int 2]]), some (.dct [.inr "a"] [.lst [.int 1]]), some (.lst [.int 7]), some (.lst [.str "x"])] := by
  kernel_rfl
theorem tl_0_11 (x0 x2 x3 x4 x5 x6 x7 x8 x9 x10 : Option Sl) (s0 : Option D) : pTail [x0, some (.v (.cell 0)), x2, some (.v (.lst (some12 1))), some (.v (.cell 4 : D)), some (.v (.lst (errs (.cell 4 : D)))), x6, x7, x8, x9, x10] [s0, some (.lst [.int 1, .lst [.int 2]]), some (.dct [.inr "a"] [.lst [.int 1]]), some (.lst []), some (.lst [.str "x"])] = .nx [x0, some (.v (.cell 0)), x2, some (.v (.lst (some12 1))), some (.v (.cell 4 : D)), some (.v (.lst (errs (.cell 4 : D)))), x6, x7, some (.v (.lst (List.replicate 11 (.cell 4 : D)))), x9, x10] [s0, some (.lst [.int 1, .lst [.int 2]]), some (.dct [.inr "a"] [.lst [.int 1]]), some (.lst []), some (.lst [.str "x", .int 7])] := by
  kernel_rfl
theorem s3_4 (x0 x2 x3 x4 x5 x6 x7 x8 x9 x10 : Option Sl) (s0 : Option D) (o1 o2 o3 o4 : Option D) : pS3 [x0, some (.v (.cell 0)), x2, x3, x4, x5, x6, x7, x8, x9, x10] [s0, o1, o2, o3, o4] = .nx [x0, some (.v (.cell 0)), x2, some (.v (.lst (some12 5))), x4, x5, x6, x7, x8, x9, x10] [s0, o1, o2, o3, o4, some (.lst [.int 1, .lst [.int 2]]), some (.dct [.inr "a"] [.lst [.int 1]]), some (.lst []), some (.lst [.str "x"])] := by
  kernel_rfl
theorem tl_4_0 (x0 x2 x3 x4 x5 x6 x7 x8 x9 x10 : Option Sl) (s0 : Option D) (o1 o2 o3 o4 : Option D) : pTail [x0, some (.v (.cell 0)), x2, some (.v (.lst (some12 5))), some (.v (.non : D)), some (.v (.lst (errs (.non : D)))), x6, x7, x8, x9, x10] [s0, o1, o2, o3, o4, some (.lst [.int 1, .lst [.int 2]]), some (.dct [.inr "a"] [.lst [.int 1]]), some (.lst []), some (.lst [.str "x"])] = .nx [x0, some (.v (.cell 0)), x2, some (.v (.lst (some12 5))), some (.v (.non : D)), some (.v (.lst (errs (.non : D)))), x6, x7, some (.v (.lst (List.replicate 11 (.non : D)))), x9, x10] [s0, o1, o2, o3, o4, some (.lst [.int 1, .lst [.int 2]]), some (.dct [.inr "a"] [.lst [.int 1]]), some (.lst []), some (.lst [.str "x"])] := by
  kernel_rfl
theorem tl_4_1 (x0 x2 x3 x4 x5 x6 x7 x8 x9 x10 : Option Sl) (s0 : Option D) (o1 o2 o3 o4 : Option D) : pTail [x0, some (.v (.cell 0)), x2, some (.v (.lst (some12 5))), some (.v (.bl true : D)), some (.v (.lst (errs (.bl true : D)))), x6, x7, x8, x9, x10] [s0, o1, o2, o3, o4, some (.lst [.int 1, .lst [.int 2]]), some (.dct [.inr "a"] [.lst [.int 1]]), some (.lst []), some (.lst [.str "x"])] = .nx [x0, some (.v (.cell 0)), x2, some (.v (.lst (some12 5))), some (.v (.bl true : D)), some (.v (.lst (errs (.bl true : D)))), x6, x7, some (.v (.lst (List.replicate 11 (.bl true : D)))), x9, x10] [s0, o1, o2, o3, o4, some (.lst [.int 1, .lst [.int 2]]), some (.dct [.inr "a"] [.lst [.int 1]]), some (.lst []), some (.lst [.str "x"])] := by
  kernel_rfl
theorem tl_4_2 (x0 x2 x3 x4 x5 x6 x7 x8 x9 x10 : Option Sl) (s0 : Option D) (o1 o2 o3 o4 : Option D) : pTail [x0, some (.v (.cell 0)), x2, some (.v (.lst (some12 5))), some (.v (.int (-1) : D)), some (.v (.lst (errs (.int (-1) : D)))), x6, x7, x8, x9, x10] [s0, o1, o2, o3, o4, some (.lst [.int 1, .lst [.int 2]]), some (.dct [.inr "a"] [.lst [.int 1]]), some (.lst []), some (.lst [.str "x"])] = .nx [x0, some (.v (.cell 0)), x2, some (.v (.lst (some12 5))), some (.v (.int (-1) : D)), some (.v (.lst (errs (.int (-1) : D)))), x6, x7, some (.v (.lst (List.replicate 11 (.int (-1) : D)))), x9, x10] [s0, o1, o2, o3, o4, some (.lst [.int 1, .lst [.int 2]]), some (.dct [.inr "a"] [.lst [.int 1]]), some (.lst []), some (.lst [.str "x"])] := by
  kernel_rfl
theorem tl_4_3 (x0 x2 x3 x4 x5 x6 x7 x8 x9 x10 : Option Sl) (s0 : Option D) (o1 o2 o3 o4 : Option D) : pTail [x0, some (.v (.cell 0)), x2, some (.v (.lst (some12 5))), some (.v (.int (10 ^ 39) : D)), some (.v (.lst (errs (.int (10 ^ 39) : D)))), x6, x7, x8, x9, x10] [s0, o1, o2, o3, o4, some (.lst [.int 1, .lst [.int 2]]), some (.dct [.inr "a"] [.lst [.int 1]]), some (.lst []), some (.lst [.str "x"])] = .nx [x0, some (.v (.cell 0)), x2, some (.v (.lst (some12 5))), some (.v (.int (10 ^ 39) : D)), some (.v (.lst (errs (.int (10 ^ 39) : D)))), x6, x7, some (.v (.lst (List.replicate 11 (.int (10 ^ 39) : D)))), x9, x10] [s0, o1, o2, o3, o4, some (.lst [.int 1, .lst [.int 2]]), some (.dct [.inr "a"] [.lst [.int 1]]), some (.lst []), some (.lst [.str "x"])] := by
  kernel_rfl
theorem tl_4_4 (x0 x2 x3 x4 x5 x6 x7 x8 x9 x10 : Option Sl) (s0 : Option D) (o1 o2 o3 o4 : Option D) : pTail [x0, some (.v (.cell 0)), x2, some (.v (.lst (some12 5))), some (.v (.str "" : D)), some (.v (.lst (errs (.str "" : D)))), x6, x7, x8, x9, x10] [s0, o1, o2, o3, o4, some (.lst [.int 1, .lst [.int 2]]), some (.dct [.inr "a"] [.lst [.int 1]]), some (.lst []), some (.lst [.str "x"])] = .nx [x0, some (.v (.cell 0)), x2, some (.v (.lst (some12 5))), some (.v (.str "" : D)), some (.v (.lst (errs (.str "" : D)))), x6, x7, some (.v (.lst (List.replicate 11 (.str "" : D)))), x9, x10] [s0, o1, o2, o3, o4, some (.lst [.int 1, .lst [.int 2]]), some (.dct [.inr "a"] [.lst [.int 1]]), some (.lst []), some (.lst [.str "x"])] := by
  kernel_rfl
theorem tl_4_5 (x0 x2 x3 x4 x5 x6 x7 x8 x9 x10 : Option Sl) (s0 : Option D) (o1 o2 o3 o4 : Option D) : pTail [x0, some (.v (.cell 0)), x2, some (.v (.lst (some12 5))), some (.v (.str "ab" : D)), some (.v (.lst (errs (.str "ab" : D)))), x6, x7, x8, x9, x10] [s0, o1, o2, o3, o4, some (.lst [.int 1, .lst [.int 2]]), some (.dct [.inr "a"] [.lst [.int 1]]), some (.lst []), some (.lst [.str "x"])] = .nx [x0, some (.v (.cell 0)), x2, some (.v (.lst (some12 5))), some (.v (.str "ab" : D)), some (.v (.lst (errs (.str "ab" : D)))), x6, x7, some (.v (.lst (List.replicate 11 (.str "ab" : D)))), x9, x10] [s0, o1, o2, o3, o4, some (.lst [.int 1, .lst [.int 2]]), some (.dct [.inr "a"] [.lst [.int 1]]), some (.lst []), some (.lst [.str "x"])] := by
  kernel_rfl
theorem tl_4_6 (x0 x2 x3 x4 x5 x6 x7 x8 x9 x10 : Option Sl) (s0 : Option D) (o1 o2 o3 o4 : Option D) : pTail [x0, some (.v (.cell 0)), x2, some (.v (.lst (some12 5))), some (.v (.cell 5 : D)), some (.v (.lst (errs (.cell 5 : D)))), x6, x7, x8, x9, x10] [s0, o1, o2, o3, o4, some (.lst [.int 1, .lst [.int 2]]), some (.dct [.inr "a"] [.lst [.int 1]]), some (.lst []), some (.lst [.str "x"])] = .nx [x0, some (.v (.cell 0)), x2, some (.v (.lst (some12 5))), some (.v (.cell 5 : D)), some (.v (.lst (errs (.cell 5 : D)))), x6, x7, some (.v (.lst (List.replicate 11 (.cell 5 : D)))), x9, x10] [s0, o1, o2, o3, o4, some (.lst [.int 1, .lst [.int 2], .int 7]), some (.dct [.inr "a"] [.lst [.int 1]]), some (.lst []), some (.lst [.str "x"])] := by
  kernel_rfl
theorem tl_4_7 (x0 x2 x3 x4 x5 x6 x7 x8 x9 x10 : Option Sl) (s0 : Option D) (o1 o2 o3 o4 : Option D) : pTail [x0, some (.v (.cell 0)), x2, some (.v (.lst (some12 5))), some (.v (.tup [] : D)), some (.v (.lst (errs (.tup [] : D)))), x6, x7, x8, x9, x10] [s0, o1, o2, o3, o4, some (.lst [.int 1, .lst [.int 2]]), some (.dct [.inr "a"] [.lst [.int 1]]), some (.lst []), some (.lst [.str "x"])] = .nx [x0, some (.v (.cell 0)), x2, some (.v (.lst (some12 5))), some (.v (.tup [] : D)), some (.v (.lst (errs (.tup [] : D)))), x6, x7, some (.v (.lst (List.replicate 11 (.tup [] : D)))), x9, x10] [s0, o1, o2, o3, o4, some (.lst [.int 1, .lst [.int 2]]), some (.dct [.inr "a"] [.lst [.int 1]]), some (.lst []), some (.lst [.str "x"])] := by
  kernel_rfl
theorem tl_4_8 (x0 x2 x3 x4 x5 x6 x7 x8 x9 x10 : Option Sl) (s0 : Option D) (o1 o2 o3 o4 : Option D) : pTail [x0, some (.v (.cell 0)), x2, some (.v (.lst (some12 5))), some (.v (.tup [.int 1, .str "a"] : D)), some (.v (.lst (errs (.tup [.int 1, .str "a"] : D)))), x6, x7, x8, x9, x10] [s0, o1, o2, o3, o4, some (.lst [.int 1, .lst [.int 2]]), some (.dct [.inr "a"] [.lst [.int 1]]), some (.lst []), some (.lst [.str "x"])] = .nx [x0, some (.v (.cell 0)), x2, some (.v (.lst (some12 5))), some (.v (.tup [.int 1, .str "a"] : D)), some (.v (.lst (errs (.tup [.int 1, .str "a"] : D)))), x6, x7, some (.v (.lst (List.replicate 11 (.tup [.int 1, .str "a"] : D)))), x9, x10] [s0, o1, o2, o3, o4, some (.lst [.int 1, .lst [.int 2]]), some (.dct [.inr "a"] [.lst [.int 1]]), some (.lst []), some (.lst [.str "x"])] := by
  kernel_rfl
theorem tl_4_9 (x0 x2 x3 x4 x5 x6 x7 x8 x9 x10 : Option Sl) (s0 : Option D) (o1 o2 o3 o4 : Option D) : pTail [x0, some (.v (.cell 0)), x2, some (.v (.lst (some12 5))), some (.v (.cell 6 : D)), some (.v (.lst (errs (.cell 6 : D)))), x6, x7, x8, x9, x10] [s0, o1, o2, o3, o4, some (.lst [.int 1, .lst [.int 2]]), some (.dct [.inr "a"] [.lst [.int 1]]), some (.lst []), some (.lst [.str "x"])] = .nx [x0, some (.v (.cell 0)), x2, some (.v (.lst (some12 5))), some (.v (.cell 6 : D)), some (.v (.lst (errs (.cell 6 : D)))), x6, x7, some (.v (.lst (List.replicate 11 (.cell 6 : D)))), x9, x10] [s0, o1, o2, o3, o4, some (.lst [.int 1, .lst [.int 2]]), some (.dct [.inr "a", .inr "b"] [.lst [.int 1], .int 7]), some (.lst []), some (.lst [.str "x"])] := by
  kernel_rfl
theorem tl_4_10 (x0 x2 x3 x4 x5 x6 x7 x8 x9 x10 : Option Sl) (s0 : Option D) (o1 o2 o3 o4 : Option D) : pTail [x0, some (.v (.cell 0)), x2, some (.v (.lst (some12 5))), some (.v (.cell 7 : D)), some (.v (.lst (errs (.cell 7 : D)))), x6, x7, x8, x9, x10] [s0, o1, o2, o3, o4, some (.lst [.int 1, .lst [.int 2]]), some (.dct [.inr "a"] [.lst [.int 1]]), some (.lst []), some (.lst [.str "x"])] = .nx [x0, some (.v (.cell 0)), x2, some (.v (.lst (some12 5))), some (.v (.cell 7 : D)), some (.v (.lst (errs (.cell 7 : D)))), x6, x7, some (.v (.lst (List.replicate 11 (.cell 7 : D)))), x9, x10] [s0, o1, o2, o3, o4, some (.lst [.int 1, .lst [.int 2]]), some (.dct [.inr "a"] [.lst [.int 1]]), some (.lst [.int 7]), some (.lst [.str "x"])] := by
  kernel_rfl
theorem tl_4_11 (x0 x2 x3 x4 x5 x6 x7 x8 x9 x10 : Option Sl) (s0 : Option D) (o1 o2 o3 o4 : Option D) : pTail [x0, some (.v (.cell 0)), x2, some (.v (.lst (some12 5))), some (.v (.cell 8 : D)), some (.v (.lst (errs (.cell 8 : D)))), x6, x7, x8, x9, x10] [s0, o1, o2, o3, o4, some (.lst [.int 1, .lst [.int 2]]), some (.dct [.inr "a"] [.lst [.int 1]]), some (.lst []), some (.lst [.str "x"])] = .nx [x0, some (.v (.cell 0)), x2, some (.v (.lst (some12 5))), some (.v (.cell 8 : D)), some (.v (.lst (errs (.cell 8 : D)))), x6, x7, some (.v (.lst (List.replicate 11 (.cell 8 : D)))), x9, x10] [s0, o1, o2, o3, o4, some (.lst [.int 1, .lst [.int 2]]), some (.dct [.inr "a"] [.lst [.int 1]]), some (.lst []), some (.lst [.str "x", .int 7])] := by
  kernel_rfl
theorem s3_8 (x0 x2 x3 x4 x5 x6 x7 x8 x9 x10 : Option Sl) (s0 : Option D) (o1 o2 o3 o4 o5 o6 o7 o8 : Option D) : pS3 [x0, some (.v (.cell 0)), x2, x3, x4, x5, x6, x7, x8, x9, x10] [s0, o1, o2, o3, o4, o5, o6, o7, o8] = .nx [x0, some (.v (.cell 0)), x2, some (.v (.lst (some12 9))), x4, x5, x6, x7, x8, x9, x10] [s0, o1, o2, o3, o4, o5, o6, o7, o8, some (.lst [.int 1, .lst [.int 2]]), some (.dct [.inr "a"] [.lst [.int 1]]), some (.lst []), some (.lst [.str "x"])] := by
  kernel_rfl
theorem tl_8_0 (x0 x2 x3 x4 x5 x6 x7 x8 x9 x10 : Option Sl) (s0 : Option D) (o1 o2 o3 o4 o5 o6 o7 o8 : Option D) : pTail [x0, some (.v (.cell 0)), x2, some (.v (.lst (some12 9))), some (.v (.non : D)), some (.v (.lst (errs (.non : D)))), x6, x7, x8, x9, x10] [s0, o1, o2, o3, o4, o5, o6, o7, o8, some (.lst [.int 1, .lst [.int 2]]), some (.dct [.inr "a"] [.lst [.int 1]]), some (.lst []), some (.lst [.str "x"])] = .nx [x0, some (.v (.cell 0)), x2, some (.v (.lst (some12 9))), some (.v (.non : D)), some (.v (.lst (errs (.non : D)))), x6, x7, some (.v (.lst (List.replicate 11 (.non : D)))), x9, x10] [s0, o1, o2, o3, o4, o5, o6, o7, o8, some (.lst [.int 1, .lst [.int 2]]), some (.dct [.inr "a"] [.lst [.int 1]]), some (.lst []), some (.lst [.str "x"])] := by
  kernel_rfl
theorem tl_8_1 (x0 x2 x3 x4 x5 x6 x7 x8 x9 x10 : Option Sl) (s0 : Option D) (o1 o2 o3 o4 o5 o6 o7 o8 : Option D) : pTail [x0, some (.v (.cell 0)), x2, some (.v (.lst (some12 9))), some (.v (.bl true : D)), some (.v (.lst (errs (.bl true : D)))), x6, x7, x8, x9, x10] [s0, o1, o2, o3, o4, o5, o6, o7, o8, some (.lst [.int 1, .lst [.int 2]]), some (.dct [.inr "a"] [.lst [.int 1]]), some (.lst []), some (.lst [.str "x"])] = .nx [x0, some (.v (.cell 0)), x2, some (.v (.lst (some12 9))), some (.v (.bl true : D)), some (.v (.lst (errs (.bl true : D)))), x6, x7, some (.v (.lst (List.replicate 11 (.bl true : D)))), x9, x10] [s0, o1, o2, o3, o4, o5, o6, o7, o8, some (.lst [.int 1, .lst [.int 2]]), some (.dct [.inr "a"] [.lst [.int 1]]), some (.lst []), some (.lst [.str "x"])] := by
  kernel_rfl
theorem tl_8_2 (x0 x2 x3 x4 x5 x6 x7 x8 x9 x10 : Option Sl) (s0 : Option D) (o1 o2 o3 o4 o5 o6 o7 o8 : Option D) : pTail [x0, some (.v (.cell 0)), x2, some (.v (.lst (some12 9))), some (.v (.int (-1) : D)), some (.v (.lst (errs (.int (-1) : D)))), x6, x7, x8, x9, x10] [s0, o1, o2, o3, o4, o5, o6, o7, o8, some (.lst [.int 1, .lst [.int 2]]), some (.dct [.inr "a"] [.lst [.int 1]]), some (.lst []), some (.lst [.str "x"])] = .nx [x0, some (.v (.cell 0)), x2, some (.v (.lst (some12 9))), some (.v (.int (-1) : D)), some (.v (.lst (errs (.int (-1) : D)))), x6, x7, some (.v (.lst (List.replicate 11 (.int (-1) : D)))), x9, x10] [s0, o1, o2, o3, o4, o5, o6, o7, o8, some (.lst [.int 1, .lst [.int 2]]), some (.dct [.inr "a"] [.lst [.int 1]]), some (.lst []), some (.lst [.str "x"])] := by
  kernel_rfl
theorem tl_8_3 (x0 x2 x3 x4 x5 x6 x7 x8 x9 x10 : Option Sl) (s0 : Option D) (o1 o2 o3 o4 o5 o6 o7 o8 : Option D) : pTail [x0, some (.v (.cell 0)), x2, some (.v (.lst (some12 9))), some (.v (.int (10 ^ 39) : D)), some (.v (.lst (errs (.int (10 ^ 39) : D)))), x6, x7, x8, x9, x10] [s0, o1, o2, o3, o4, o5, o6, o7, o8, some (.lst [.int 1, .lst [.int 2]]), some (.dct [.inr "a"] [.lst [.int 1]]), some (.lst []), some (.lst [.str "x"])] = .nx [x0, some (.v (.cell 0)), x2, some (.v (.lst (some12 9))), some (.v (.int (10 ^ 39) : D)), some (.v (.lst (errs (.int (10 ^ 39) : D)))), x6, x7, some (.v (.lst (List.replicate 11 (.int (10 ^ 39) : D)))), x9, x10] [s0, o1, o2, o3, o4, o5, o6, o7, o8, some (.lst [.int 1, .lst [.int 2]]), some (.dct [.inr "a"] [.lst [.int 1]]), some (.lst []), some (.lst [.str "x"])] := by
  kernel_rfl
theorem tl_8_4 (x0 x2 x3 x4 x5 x6 x7 x8 x9 x10 : Option Sl) (s0 : Option D) (o1 o2 o3 o4 o5 o6 o7 o8 : Option D) : pTail [x0, some (.v (.cell 0)), x2, some (.v (.lst (some12 9))), some (.v (.str "" : D)), some (.v (.lst (errs (.str "" : D)))), x6, x7, x8, x9, x10] [s0, o1, o2, o3, o4, o5, o6, o7, o8, some (.lst [.int 1, .lst [.int 2]]), some (.dct [.inr "a"] [.lst [.int 1]]), some (.lst []), some (.lst [.str "x"])] = .nx [x0, some (.v (.cell 0)), x2, some (.v (.lst (some12 9))), some (.v (.str "" : D)), some (.v (.lst (errs (.str "" : D)))), x6, x7, some (.v (.lst (List.replicate 11 (.str "" : D)))), x9, x10] [s0, o1, o2, o3, o4, o5, o6, o7, o8, some (.lst [.int 1, .lst [.int 2]]), some (.dct [.inr "a"] [.lst [.int 1]]), some (.lst []), some (.lst [.str "x"])] := by
  kernel_rfl
theorem tl_8_5 (x0 x2 x3 x4 x5 x6 x7 x8 x9 x10 : Option Sl) (s0 : Option D) (o1 o2 o3 o4 o5 o6 o7 o8 : Option D) : pTail [x0, some (.v (.cell 0)), x2, some (.v (.lst (some12 9))), some (.v (.str "ab" : D)), some (.v (.lst (errs (.str "ab" : D)))), x6, x7, x8, x9, x10] [s0, o1, o2, o3, o4, o5, o6, o7, o8, some (.lst [.int 1, .lst [.int 2]]), some (.dct [.inr "a"] [.lst [.int 1]]), some (.lst []), some (.lst [.str "x"])] = .nx [x0, some (.v (.cell 0)), x2, some (.v (.lst (some12 9))), some (.v (.str "ab" : D)), some (.v (.lst (errs (.str "ab" : D)))), x6, x7, some (.v (.lst (List.replicate 11 (.str "ab" : D)))), x9, x10] [s0, o1, o2, o3, o4, o5, o6, o7, o8, some (.lst [.int 1, .lst [.int 2]]), some (.dct [.inr "a"] [.lst [.int 1]]), some (.lst []), some (.lst [.str "x"])] := by
  kernel_rfl
theorem tl_8_6 (x0 x2 x3 x4 x5 x6 x7 x8 x9 x10 : Option Sl) (s0 : Option D) (o1 o2 o3 o4 o5 o6 o7 o8 : Option D) : pTail [x0, some (.v (.cell 0)), x2, some (.v (.lst (some12 9))), some (.v (.cell 9 : D)), some (.v (.lst (errs (.cell 9 : D)))), x6, x7, x8, x9, x10] [s0, o1, o2, o3, o4, o5, o6, o7, o8, some (.lst [.int 1, .lst [.int 2]]), some (.dct [.inr "a"] [.lst [.int 1]]), some (.lst []), some (.lst [.str "x"])] = .nx [x0, some (.v (.cell 0)), x2, some (.v (.lst (some12 9))), some (.v (.cell 9 : D)), some (.v (.lst (errs (.cell 9 : D)))), x6, x7, some (.v (.lst (List.replicate 11 (.cell 9 : D)))), x9, x10] [s0, o1, o2, o3, o4, o5, o6, o7, o8, some (.lst [.int 1, .lst [.int 2], .int 7]), some (.dct [.inr "a"] [.lst [.int 1]]), some (.lst []), some (.lst [.str "x"])] := by
  kernel_rfl
theorem tl_8_7 (x0 x2 x3 x4 x5 x6 x7 x8 x9 x10 : Option Sl) (s0 : Option D) (o1 o2 o3 o4 o5 o6 o7 o8 : Option D) : pTail [x0, some (.v (.cell 0)), x2, some (.v (.lst (some12 9))), some (.v (.tup [] : D)), some (.v (.lst (errs (.tup [] : D)))), x6, x7, x8, x9, x10] [s0, o1, o2, o3, o4, o5, o6, o7, o8, some (.lst [.int 1, .lst [.int 2]]), some (.dct [.inr "a"] [.lst [.int 1]]), some (.lst []), some (.lst [.str "x"])] = .nx [x0, some (.v (.cell 0)), x2, some (.v (.lst (some12 9))), some (.v (.tup [] : D)), some (.v (.lst (errs (.tup [] : D)))), x6, x7, some (.v (.lst (List.replicate 11 (.tup [] : D)))), x9, x10] [s0, o1, o2, o3, o4, o5, o6, o7, o8, some (.lst [.int 1, .lst [.int 2]]), some (.dct [.inr "a"] [.lst [.int 1]]), some (.lst []), some (.lst [.str "x"])] := by
  kernel_rfl
theorem tl_8_8 (x0 x2 x3 x4 x5 x6 x7 x8 x9 x10 : Option Sl) (s0 : Option D) (o1 o2 o3 o4 o5 o6 o7 o8 : Option D) : pTail [x0, some (.v (.cell 0)), x2, some (.v (.lst (some12 9))), some (.v (.tup [.int 1, .str "a"] : D)), some (.v (.lst (errs (.tup [.int 1, .str "a"] : D)))), x6, x7, x8, x9, x10] [s0, o1, o2, o3, o4, o5, o6, o7, o8, some (.lst [.int 1, .lst [.int 2]]), some (.dct [.inr "a"] [.lst [.int 1]]), some (.lst []), some (.lst [.str "x"])] = .nx [x0, some (.v (.cell 0)), x2, some (.v (.lst (some12 9))), some (.v (.tup [.int 1, .str "a"] : D)), some (.v (.lst (errs (.tup [.int 1, .str "a"] : D)))), x6, x7, some (.v (.lst (List.replicate 11 (.tup [.int 1, .str "a"] : D)))), x9, x10] [s0, o1, o2, o3, o4, o5, o6, o7, o8, some (.lst [.int 1, .lst [.int 2]]), some (.dct [.inr "a"] [.lst [.int 1]]), some (.lst []), some (.lst [.str "x"])] := by
  kernel_rfl
theorem tl_8_9 (x0 x2 x3 x4 x5 x6 x7 x8 x9 x10 : Option Sl) (s0 : Option D) (o1 o2 o3 o4 o5 o6 o7 o8 : Option D) : pTail [x0, some (.v (.cell 0)), x2, some (.v (.lst (some12 9))), some (.v (.cell 10 : D)), some (.v (.lst (errs (.cell 10 : D)))), x6, x7, x8, x9, x10] [s0, o1, o2, o3, o4, o5, o6, o7, o8, some (.lst [.int 1, .lst [.int 2]]), some (.dct [.inr "a"] [.lst [.int 1]]), some (.lst []), some (.lst [.str "x"])] = .nx [x0, some (.v (.cell 0)), x2, some (.v (.lst (some12 9))), some (.v (.cell 10 : D)), some (.v (.lst (errs (.cell 10 : D)))), x6, x7, some (.v (.lst (List.replicate 11 (.cell 10 : D)))), x9, x10] [s0, o1, o2, o3, o4, o5, o6, o7, o8, some (.lst [.int 1, .lst [.int 2]]), some (.dct [.inr "a", .inr "b"] [.lst [.int 1], .int 7]), some (.lst []), some (.lst [.str "x"])] := by
  kernel_rfl
theorem tl_8_10 (x0 x2 x3 x4 x5 x6 x7 x8 x9 x10 : Option Sl) (s0 : Option D) (o1 o2 o3 o4 o5 o6 o7 o8 : Option D) : pTail [x0, some (.v (.cell 0)), x2, some (.v (.lst (some12 9))), some (.v (.cell 11 : D)), some (.v (.lst (errs (.cell 11 : D)))), x6, x7, x8, x9, x10] [s0, o1, o2, o3, o4, o5, o6, o7, o8, some (.lst [.int 1, .lst [.int 2]]), some (.dct [.inr "a"] [.lst [.int 1]]), some (.lst []), some (.lst [.str "x"])] = .nx [x0, some (.v (.cell 0)), x2, some (.v (.lst (some12 9))), some (.v (.cell 11 : D)), some (.v (.lst (errs (.cell 11 : D)))), x6, x7, some (.v (.lst (List.replicate 11 (.cell 11 : D)))), x9, x10] [s0, o1, o2, o3, o4, o5, o6, o7, o8, some (.lst [.int 1, .lst [.int 2]]), some (.dct [.inr "a"] [.lst [.int 1]]), some (.lst [.int 7]), some (.lst [.str "x"])] := by
  kernel_rfl
theorem tl_8_11 (x0 x2 x3 x4 x5 x6 x7 x8 x9 x10 : Option Sl) (s0 : Option D) (o1 o2 o3 o4 o5 o6 o7 o8 : Option D) : pTail [x0, some (.v (.cell 0)), x2, some (.v (.lst (some12 9))), some (.v (.cell 12 : D)), some (.v (.lst (errs (.cell 12 : D)))), x6, x7, x8, x9, x10] [s0, o1, o2, o3, o4, o5, o6, o7, o8, some (.lst [.int 1, .lst [.int 2]]), some (.dct [.inr "a"] [.lst [.int 1]]), some (.lst []), some (.lst [.str "x"])] = .nx [x0, some (.v (.cell 0)), x2, some (.v (.lst (some12 9))), some (.v (.cell 12 : D)), some (.v (.lst (errs (.cell 12 : D)))), x6, x7, some (.v (.lst (List.replicate 11 (.cell 12 : D)))), x9, x10] [s0, o1, o2, o3, o4, o5, o6, o7, o8, some (.lst [.int 1, .lst [.int 2]]), some (.dct [.inr "a"] [.lst [.int 1]]), some (.lst []), some (.lst [.str "x", .int 7])] := by
  kernel_rfl
theorem at_0_0 : atI (some12 1) 0 = some (.non) := by
  kernel_rfl
theorem at_0_1 : atI (some12 1) 1 = some (.bl true) := by
  kernel_rfl
theorem at_0_2 : atI (some12 1) 2 = some (.int (-1)) := by
  kernel_rfl
theorem at_0_3 : atI (some12 1) 3 = some (.int (10 ^ 39)) := by
  kernel_rfl
theorem at_0_4 : atI (some12 1) 4 = some (.str "") := by
  kernel_rfl
theorem at_0_5 : atI (some12 1) 5 = some (.str "ab") := by
  kernel_rfl
theorem at_0_6 : atI (some12 1) 6 = some (.cell 1) := by
  kernel_rfl
theorem at_0_7 : atI (some12 1) 7 = some (.tup []) := by
  kernel_rfl
theorem at_0_8 : atI (some12 1) 8 = some (.tup [.int 1, .str "a"]) := by
  kernel_rfl
theorem at_0_9 : atI (some12 1) 9 = some (.cell 2) := by
  kernel_rfl
theorem at_0_10 : atI (some12 1) 10 = some (.cell 3) := by
  kernel_rfl
theorem at_0_11 : atI (some12 1) 11 = some (.cell 4) := by
  kernel_rfl
theorem at_4_0 : atI (some12 5) 0 = some (.non) := by
  kernel_rfl
theorem at_4_1 : atI (some12 5) 1 = some (.bl true) := by
  kernel_rfl
theorem at_4_2 : atI (some12 5) 2 = some (.int (-1)) := by
  kernel_rfl
theorem at_4_3 : atI (some12 5) 3 = some (.int (10 ^ 39)) := by
  kernel_rfl
theorem at_4_4 : atI (some12 5) 4 = some (.str "") := by
  kernel_rfl
theorem at_4_5 : atI (some12 5) 5 = some (.str "ab") := by
  kernel_rfl
theorem at_4_6 : atI (some12 5) 6 = some (.cell 5) := by
  kernel_rfl
theorem at_4_7 : atI (some12 5) 7 = some (.tup []) := by
  kernel_rfl
theorem at_4_8 : atI (some12 5) 8 = some (.tup [.int 1, .str "a"]) := by
  kernel_rfl
theorem at_4_9 : atI (some12 5) 9 = some (.cell 6) := by
  kernel_rfl
theorem at_4_10 : atI (some12 5) 10 = some (.cell 7) := by
  kernel_rfl
theorem at_4_11 : atI (some12 5) 11 = some (.cell 8) := by
  kernel_rfl
theorem at_8_0 : atI (some12 9) 0 = some (.non) := by
  kernel_rfl
theorem at_8_1 : atI (some12 9) 1 = some (.bl true) := by
  kernel_rfl
theorem at_8_2 : atI (some12 9) 2 = some (.int (-1)) := by
  kernel_rfl
theorem at_8_3 : atI (some12 9) 3 = some (.int (10 ^ 39)) := by
  kernel_rfl
theorem at_8_4 : atI (some12 9) 4 = some (.str "") := by
  kernel_rfl
theorem at_8_5 : atI (some12 9) 5 = some (.str "ab") := by
  kernel_rfl
theorem at_8_6 : atI (some12 9) 6 = some (.cell 9) := by
  kernel_rfl
theorem at_8_7 : atI (some12 9) 7 = some (.tup []) := by
  kernel_rfl
theorem at_8_8 : atI (some12 9) 8 = some (.tup [.int 1, .str "a"]) := by
  kernel_rfl
theorem at_8_9 : atI (some12 9) 9 = some (.cell 10) := by
  kernel_rfl
theorem at_8_10 : atI (some12 9) 10 = some (.cell 11) := by
  kernel_rfl
theorem at_8_11 : atI (some12 9) 11 = some (.cell 12) := by
  kernel_rfl
theorem chain {e0 e1 e2 e3 e4 : Y.Env} {s0 s1 s2 s3 s4 : Store} {r : Fl} (h1 : pS3 e0 s0 = .nx e1 s1) (h2 : pS4 e1 s1 = .nx e2 s2) (h3 : pMade e2 s2 = .nx e3 s3) (h4 : pLoop e3 s3 = .nx e4 s4) (h5 : pTail e4 s4 = r) : pB e0 s0 = r := by
  unfold pB
  simp only [sCons, h1, h2, h3, h4, h5, Fl.bind]
theorem turn_0 (x0 x2 x3 x4 x5 x6 x7 x8 x9 x10 : Option Sl) {a b c : Int} {l : List Int} (o : BagOk a b c l) (hc : c < 1000) :
    ∃ y3 y4 y5 y6 y8 os' a' b' c', pB [x0, some (.v (.cell 0)), x2, x3, x4, x5, x6, x7, x8, x9, x10] [some (bagD a b c l)] = .nx [x0, some (.v (.cell 0)), x2, y3, y4, y5, y6, x7, y8, x9, x10] (some (bagD a' b' c' l) :: os') ∧ os'.length = 4 ∧ BagOk a' b' c' l ∧ c' ≤ c + 1 := by
  obtain ⟨a', b', c', v, e, o', hc', v0, v1⟩ := take_ok (k := 0) (m := 12) (st := [some (bagD a b c l), some (.lst [.int 1, .lst [.int 2]]), some (.dct [.inr "a"] [.lst [.int 1]]), some (.lst []), some (.lst [.str "x"])]) o (by omega) rfl (by decide) (by decide +kernel)
  have hcall : iCall 2 G_l_take (evCons (iVar 1) (evCons (iCon (.int 12)) (evNil))) [x0, some (.v (.cell 0)), x2, some (.v (.lst (some12 1))), x4, x5, x6, x7, x8, x9, x10] [some (bagD a b c l), some (.lst [.int 1, .lst [.int 2]]), some (.dct [.inr "a"] [.lst [.int 1]]), some (.lst []), some (.lst [.str "x"])] = .ok (.v (.int v)) [some (bagD a' b' c' l), some (.lst [.int 1, .lst [.int 2]]), some (.dct [.inr "a"] [.lst [.int 1]]), some (.lst []), some (.lst [.str "x"])] := e
  have e4 : ∀ d, atI (some12 1) v = some d → pS4 [x0, some (.v (.cell 0)), x2, some (.v (.lst (some12 1))), x4, x5, x6, x7, x8, x9, x10] [some (bagD a b c l), some (.lst [.int 1, .lst [.int 2]]), some (.dct [.inr "a"] [.lst [.int 1]]), some (.lst []), some (.lst [.str "x"])] = .nx [x0, some (.v (.cell 0)), x2, some (.v (.lst (some12 1))), some (.v d), x5, x6, x7, x8, x9, x10] [some (bagD a' b' c' l), some (.lst [.int 1, .lst [.int 2]]), some (.dct [.inr "a"] [.lst [.int 1]]), some (.lst []), some (.lst [.str "x"])] := fun d hd => by
    have hv3 : iVar 3 [x0, some (.v (.cell 0)), x2, some (.v (.lst (some12 1))), x4, x5, x6, x7, x8, x9, x10] [some (bagD a b c l), some (.lst [.int 1, .lst [.int 2]]), some (.dct [.inr "a"] [.lst [.int 1]]), some (.lst []), some (.lst [.str "x"])] = .ok (.v (.lst (some12 1))) [some (bagD a b c l), some (.lst [.int 1, .lst [.int 2]]), some (.dct [.inr "a"] [.lst [.int 1]]), some (.lst []), some (.lst [.str "x"])] := rfl
    simp only [pS4, sSet, iPrim, evCons, evNil, hv3, hcall, Res.bind, XV.fz, conL, XV.con, f2, ixD, hd, Option.map, Option.bind, lift, Res.fl, asV, flLift]
    rfl
  have hv : v = 0 ∨ v = 1 ∨ v = 2 ∨ v = 3 ∨ v = 4 ∨ v = 5 ∨ v = 6 ∨ v = 7 ∨ v = 8 ∨ v = 9 ∨ v = 10 ∨ v = 11 := by omega
  rcases hv with rfl | rfl | rfl | rfl | rfl | rfl | rfl | rfl | rfl | rfl | rfl | rfl
  · exact ⟨_, _, _, _, _, _, a', b', c', chain (s3_0 x0 x2 x3 x4 x5 x6 x7 x8 x9 x10 _) (e4 (.non) at_0_0) (made_eq _ _ _ _ _ _ _ _ _ _ _ _) (loop_eq _ _ _ _ _ _ _ _ _ _ _ _) (tl_0_0 x0 x2 x3 x4 x5 _ x7 x8 x9 x10 _), rfl, o', hc'⟩
  · exact ⟨_, _, _, _, _, _, a', b', c', chain (s3_0 x0 x2 x3 x4 x5 x6 x7 x8 x9 x10 _) (e4 (.bl true) at_0_1) (made_eq _ _ _ _ _ _ _ _ _ _ _ _) (loop_eq _ _ _ _ _ _ _ _ _ _ _ _) (tl_0_1 x0 x2 x3 x4 x5 _ x7 x8 x9 x10 _), rfl, o', hc'⟩
  · exact ⟨_, _, _, _, _, _, a', b', c', chain (s3_0 x0 x2 x3 x4 x5 x6 x7 x8 x9 x10 _) (e4 (.int (-1)) at_0_2) (made_eq _ _ _ _ _ _ _ _ _ _ _ _) (loop_eq _ _ _ _ _ _ _ _ _ _ _ _) (tl_0_2 x0 x2 x3 x4 x5 _ x7 x8 x9 x10 _), rfl, o', hc'⟩
  · exact ⟨_, _, _, _, _, _, a', b', c', chain (s3_0 x0 x2 x3 x4 x5 x6 x7 x8 x9 x10 _) (e4 (.int (10 ^ 39)) at_0_3) (made_eq _ _ _ _ _ _ _ _ _ _ _ _) (loop_eq _ _ _ _ _ _ _ _ _ _ _ _) (tl_0_3 x0 x2 x3 x4 x5 _ x7 x8 x9 x10 _), rfl, o', hc'⟩
  · exact ⟨_, _, _, _, _, _, a', b', c', chain (s3_0 x0 x2 x3 x4 x5 x6 x7 x8 x9 x10 _) (e4 (.str "") at_0_4) (made_eq _ _ _ _ _ _ _ _ _ _ _ _) (loop_eq _ _ _ _ _ _ _ _ _ _ _ _) (tl_0_4 x0 x2 x3 x4 x5 _ x7 x8 x9 x10 _), rfl, o', hc'⟩
  · exact ⟨_, _, _, _, _, _, a', b', c', chain (s3_0 x0 x2 x3 x4 x5 x6 x7 x8 x9 x10 _) (e4 (.str "ab") at_0_5) (made_eq _ _ _ _ _ _ _ _ _ _ _ _) (loop_eq _ _ _ _ _ _ _ _ _ _ _ _) (tl_0_5 x0 x2 x3 x4 x5 _ x7 x8 x9 x10 _), rfl, o', hc'⟩
  · exact ⟨_, _, _, _, _, _, a', b', c', chain (s3_0 x0 x2 x3 x4 x5 x6 x7 x8 x9 x10 _) (e4 (.cell 1) at_0_6) (made_eq _ _ _ _ _ _ _ _ _ _ _ _) (loop_eq _ _ _ _ _ _ _ _ _ _ _ _) (tl_0_6 x0 x2 x3 x4 x5 _ x7 x8 x9 x10 _), rfl, o', hc'⟩
  · exact ⟨_, _, _, _, _, _, a', b', c', chain (s3_0 x0 x2 x3 x4 x5 x6 x7 x8 x9 x10 _) (e4 (.tup []) at_0_7) (made_eq _ _ _ _ _ _ _ _ _ _ _ _) (loop_eq _ _ _ _ _ _ _ _ _ _ _ _) (tl_0_7 x0 x2 x3 x4 x5 _ x7 x8 x9 x10 _), rfl, o', hc'⟩
  · exact ⟨_, _, _, _, _, _, a', b', c', chain (s3_0 x0 x2 x3 x4 x5 x6 x7 x8 x9 x10 _) (e4 (.tup [.int 1, .str "a"]) at_0_8) (made_eq _ _ _ _ _ _ _ _ _ _ _ _) (loop_eq _ _ _ _ _ _ _ _ _ _ _ _) (tl_0_8 x0 x2 x3 x4 x5 _ x7 x8 x9 x10 _), rfl, o', hc'⟩
  · exact ⟨_, _, _, _, _, _, a', b', c', chain (s3_0 x0 x2 x3 x4 x5 x6 x7 x8 x9 x10 _) (e4 (.cell 2) at_0_9) (made_eq _ _ _ _ _ _ _ _ _ _ _ _) (loop_eq _ _ _ _ _ _ _ _ _ _ _ _) (tl_0_9 x0 x2 x3 x4 x5 _ x7 x8 x9 x10 _), rfl, o', hc'⟩
  · exact ⟨_, _, _, _, _, _, a', b', c', chain (s3_0 x0 x2 x3 x4 x5 x6 x7 x8 x9 x10 _) (e4 (.cell 3) at_0_10) (made_eq _ _ _ _ _ _ _ _ _ _ _ _) (loop_eq _ _ _ _ _ _ _ _ _ _ _ _) (tl_0_10 x0 x2 x3 x4 x5 _ x7 x8 x9 x10 _), rfl, o', hc'⟩
  · exact ⟨_, _, _, _, _, _, a', b', c', chain (s3_0 x0 x2 x3 x4 x5 x6 x7 x8 x9 x10 _) (e4 (.cell 4) at_0_11) (made_eq _ _ _ _ _ _ _ _ _ _ _ _) (loop_eq _ _ _ _ _ _ _ _ _ _ _ _) (tl_0_11 x0 x2 x3 x4 x5 _ x7 x8 x9 x10 _), rfl, o', hc'⟩
theorem turn_4 (x0 x2 x3 x4 x5 x6 x7 x8 x9 x10 : Option Sl) (o1 o2 o3 o4 : Option D) {a b c : Int} {l : List Int} (o : BagOk a b c l) (hc : c < 1000) :
    ∃ y3 y4 y5 y6 y8 os' a' b' c', pB [x0, some (.v (.cell 0)), x2, x3, x4, x5, x6, x7, x8, x9, x10] [some (bagD a b c l), o1, o2, o3, o4] = .nx [x0, some (.v (.cell 0)), x2, y3, y4, y5, y6, x7, y8, x9, x10] (some (bagD a' b' c' l) :: os') ∧ os'.length = 8 ∧ BagOk a' b' c' l ∧ c' ≤ c + 1 := by
  obtain ⟨a', b', c', v, e, o', hc', v0, v1⟩ := take_ok (k := 0) (m := 12) (st := [some (bagD a b c l), o1, o2, o3, o4, some (.lst [.int 1, .lst [.int 2]]), some (.dct [.inr "a"] [.lst [.int 1]]), some (.lst []), some (.lst [.str "x"])]) o (by omega) rfl (by decide) (by decide +kernel)
  have hcall : iCall 2 G_l_take (evCons (iVar 1) (evCons (iCon (.int 12)) (evNil))) [x0, some (.v (.cell 0)), x2, some (.v (.lst (some12 5))), x4, x5, x6, x7, x8, x9, x10] [some (bagD a b c l), o1, o2, o3, o4, some (.lst [.int 1, .lst [.int 2]]), some (.dct [.inr "a"] [.lst [.int 1]]), some (.lst []), some (.lst [.str "x"])] = .ok (.v (.int v)) [some (bagD a' b' c' l), o1, o2, o3, o4, some (.lst [.int 1, .lst [.int 2]]), some (.dct [.inr "a"] [.lst [.int 1]]), some (.lst []), some (.lst [.str "x"])] := e
  have e4 : ∀ d, atI (some12 5) v = some d → pS4 [x0, some (.v (.cell 0)), x2, some (.v (.lst (some12 5))), x4, x5, x6, x7, x8, x9, x10] [some (bagD a b c l), o1, o2, o3, o4, some (.lst [.int 1, .lst [.int 2]]), some (.dct [.inr "a"] [.lst [.int 1]]), some (.lst []), some (.lst [.str "x"])] = .nx [x0, some (.v (.cell 0)), x2, some (.v (.lst (some12 5))), some (.v d), x5, x6, x7, x8, x9, x10] [some (bagD a' b' c' l), o1, o2, o3, o4, some (.lst [.int 1, .lst [.int 2]]), some (.dct [.inr "a"] [.lst [.int 1]]), some (.lst []), some (.lst [.str "x"])] := fun d hd => by
    have hv3 : iVar 3 [x0, some (.v (.cell 0)), x2, some (.v (.lst (some12 5))), x4, x5, x6, x7, x8, x9, x10] [some (bagD a b c l), o1, o2, o3, o4, some (.lst [.int 1, .lst [.int 2]]), some (.dct [.inr "a"] [.lst [.int 1]]), some (.lst []), some (.lst [.str "x"])] = .ok (.v (.lst (some12 5))) [some (bagD a b c l), o1, o2, o3, o4, some (.lst [.int 1, .lst [.int 2]]), some (.dct [.inr "a"] [.lst [.int 1]]), some (.lst []), some (.lst [.str "x"])] := rfl
    simp only [pS4, sSet, iPrim, evCons, evNil, hv3, hcall, Res.bind, XV.fz, conL, XV.con, f2, ixD, hd, Option.map, Option.bind, lift, Res.fl, asV, flLift]
    rfl
  have hv : v = 0 ∨ v = 1 ∨ v = 2 ∨ v = 3 ∨ v = 4 ∨ v = 5 ∨ v = 6 ∨ v = 7 ∨ v = 8 ∨ v = 9 ∨ v = 10 ∨ v = 11 := by omega
  rcases hv with rfl | rfl | rfl | rfl | rfl | rfl | rfl | rfl | rfl | rfl | rfl | rfl
  · exact ⟨_, _, _, _, _, _, a', b', c', chain (s3_4 x0 x2 x3 x4 x5 x6 x7 x8 x9 x10 _ _ _ _ _) (e4 (.non) at_4_0) (made_eq _ _ _ _ _ _ _ _ _ _ _ _) (loop_eq _ _ _ _ _ _ _ _ _ _ _ _) (tl_4_0 x0 x2 x3 x4 x5 _ x7 x8 x9 x10 _ _ _ _ _), rfl, o', hc'⟩
  · exact ⟨_, _, _, _, _, _, a', b', c', chain (s3_4 x0 x2 x3 x4 x5 x6 x7 x8 x9 x10 _ _ _ _ _) (e4 (.bl true) at_4_1) (made_eq _ _ _ _ _ _ _ _ _ _ _ _) (loop_eq _ _ _ _ _ _ _ _ _ _ _ _) (tl_4_1 x0 x2 x3 x4 x5 _ x7 x8 x9 x10 _ _ _ _ _), rfl, o', hc'⟩
  · exact ⟨_, _, _, _, _, _, a', b', c', chain (s3_4 x0 x2 x3 x4 x5 x6 x7 x8 x9 x10 _ _ _ _ _) (e4 (.int (-1)) at_4_2) (made_eq _ _ _ _ _ _ _ _ _ _ _ _) (loop_eq _ _ _ _ _ _ _ _ _ _ _ _) (tl_4_2 x0 x2 x3 x4 x5 _ x7 x8 x9 x10 _ _ _ _ _), rfl, o', hc'⟩
  · exact ⟨_, _, _, _, _, _, a', b', c', chain (s3_4 x0 x2 x3 x4 x5 x6 x7 x8 x9 x10 _ _ _ _ _) (e4 (.int (10 ^ 39)) at_4_3) (made_eq _ _ _ _ _ _ _ _ _ _ _ _) (loop_eq _ _ _ _ _ _ _ _ _ _ _ _) (tl_4_3 x0 x2 x3 x4 x5 _ x7 x8 x9 x10 _ _ _ _ _), rfl, o', hc'⟩
  · exact ⟨_, _, _, _, _, _, a', b', c', chain (s3_4 x0 x2 x3 x4 x5 x6 x7 x8 x9 x10 _ _ _ _ _) (e4 (.str "") at_4_4) (made_eq _ _ _ _ _ _ _ _ _ _ _ _) (loop_eq _ _ _ _ _ _ _ _ _ _ _ _) (tl_4_4 x0 x2 x3 x4 x5 _ x7 x8 x9 x10 _ _ _ _ _), rfl, o', hc'⟩
  · exact ⟨_, _, _, _, _, _, a', b', c', chain (s3_4 x0 x2 x3 x4 x5 x6 x7 x8 x9 x10 _ _ _ _ _) (e4 (.str "ab") at_4_5) (made_eq _ _ _ _ _ _ _ _ _ _ _ _) (loop_eq _ _ _ _ _ _ _ _ _ _ _ _) (tl_4_5 x0 x2 x3 x4 x5 _ x7 x8 x9 x10 _ _ _ _ _), rfl, o', hc'⟩
  · exact ⟨_, _, _, _, _, _, a', b', c', chain (s3_4 x0 x2 x3 x4 x5 x6 x7 x8 x9 x10 _ _ _ _ _) (e4 (.cell 5) at_4_6) (made_eq _ _ _ _ _ _ _ _ _ _ _ _) (loop_eq _ _ _ _ _ _ _ _ _ _ _ _) (tl_4_6 x0 x2 x3 x4 x5 _ x7 x8 x9 x10 _ _ _ _ _), rfl, o', hc'⟩
  · exact ⟨_, _, _, _, _, _, a', b', c', chain (s3_4 x0 x2 x3 x4 x5 x6 x7 x8 x9 x10 _ _ _ _ _) (e4 (.tup []) at_4_7) (made_eq _ _ _ _ _ _ _ _ _ _ _ _) (loop_eq _ _ _ _ _ _ _ _ _ _ _ _) (tl_4_7 x0 x2 x3 x4 x5 _ x7 x8 x9 x10 _ _ _ _ _), rfl, o', hc'⟩
  · exact ⟨_, _, _, _, _, _, a', b', c', chain (s3_4 x0 x2 x3 x4 x5 x6 x7 x8 x9 x10 _ _ _ _ _) (e4 (.tup [.int 1, .str "a"]) at_4_8) (made_eq _ _ _ _ _ _ _ _ _ _ _ _) (loop_eq _ _ _ _ _ _ _ _ _ _ _ _) (tl_4_8 x0 x2 x3 x4 x5 _ x7 x8 x9 x10 _ _ _ _ _), rfl, o', hc'⟩
  · exact ⟨_, _, _, _, _, _, a', b', c', chain (s3_4 x0 x2 x3 x4 x5 x6 x7 x8 x9 x10 _ _ _ _ _) (e4 (.cell 6) at_4_9) (made_eq _ _ _ _ _ _ _ _ _ _ _ _) (loop_eq _ _ _ _ _ _ _ _ _ _ _ _) (tl_4_9 x0 x2 x3 x4 x5 _ x7 x8 x9 x10 _ _ _ _ _), rfl, o', hc'⟩
  · exact ⟨_, _, _, _, _, _, a', b', c', chain (s3_4 x0 x2 x3 x4 x5 x6 x7 x8 x9 x10 _ _ _ _ _) (e4 (.cell 7) at_4_10) (made_eq _ _ _ _ _ _ _ _ _ _ _ _) (loop_eq _ _ _ _ _ _ _ _ _ _ _ _) (tl_4_10 x0 x2 x3 x4 x5 _ x7 x8 x9 x10 _ _ _ _ _), rfl, o', hc'⟩
  · exact ⟨_, _, _, _, _, _, a', b', c', chain (s3_4 x0 x2 x3 x4 x5 x6 x7 x8 x9 x10 _ _ _ _ _) (e4 (.cell 8) at_4_11) (made_eq _ _ _ _ _ _ _ _ _ _ _ _) (loop_eq _ _ _ _ _ _ _ _ _ _ _ _) (tl_4_11 x0 x2 x3 x4 x5 _ x7 x8 x9 x10 _ _ _ _ _), rfl, o', hc'⟩
theorem turn_8 (x0 x2 x3 x4 x5 x6 x7 x8 x9 x10 : Option Sl) (o1 o2 o3 o4 o5 o6 o7 o8 : Option D) {a b c : Int} {l : List Int} (o : BagOk a b c l) (hc : c < 1000) :
    ∃ y3 y4 y5 y6 y8 os' a' b' c', pB [x0, some (.v (.cell 0)), x2, x3, x4, x5, x6, x7, x8, x9, x10] [some (bagD a b c l), o1, o2, o3, o4, o5, o6, o7, o8] = .nx [x0, some (.v (.cell 0)), x2, y3, y4, y5, y6, x7, y8, x9, x10] (some (bagD a' b' c' l) :: os') ∧ os'.length = 12 ∧ BagOk a' b' c' l ∧ c' ≤ c + 1 := by
  obtain ⟨a', b', c', v, e, o', hc', v0, v1⟩ := take_ok (k := 0) (m := 12) (st := [some (bagD a b c l), o1, o2, o3, o4, o5, o6, o7, o8, some (.lst [.int 1, .lst [.int 2]]), some (.dct [.inr "a"] [.lst [.int 1]]), some (.lst []), some (.lst [.str "x"])]) o (by omega) rfl (by decide) (by decide +kernel)
  have hcall : iCall 2 G_l_take (evCons (iVar 1) (evCons (iCon (.int 12)) (evNil))) [x0, some (.v (.cell 0)), x2, some (.v (.lst (some12 9))), x4, x5, x6, x7, x8, x9, x10] [some (bagD a b c l), o1, o2, o3, o4, o5, o6, o7, o8, some (.lst [.int 1, .lst [.int 2]]), some (.dct [.inr "a"] [.lst [.int 1]]), some (.lst []), some (.lst [.str "x"])] = .ok (.v (.int v)) [some (bagD a' b' c' l), o1, o2, o3, o4, o5, o6, o7, o8, some (.lst [.int 1, .lst [.int 2]]), some (.dct [.inr "a"] [.lst [.int 1]]), some (.lst []), some (.lst [.str "x"])] := e
  have e4 : ∀ d, atI (some12 9) v = some d → pS4 [x0, some (.v (.cell 0)), x2, some (.v (.lst (some12 9))), x4, x5, x6, x7, x8, x9, x10] [some (bagD a b c l), o1, o2, o3, o4, o5, o6, o7, o8, some (.lst [.int 1, .lst [.int 2]]), some (.dct [.inr "a"] [.lst [.int 1]]), some (.lst []), some (.lst [.str "x"])] = .nx [x0, some (.v (.cell 0)), x2, some (.v (.lst (some12 9))), some (.v d), x5, x6, x7, x8, x9, x10] [some (bagD a' b' c' l), o1, o2, o3, o4, o5, o6, o7, o8, some (.lst [.int 1, .lst [.int 2]]), some (.dct [.inr "a"] [.lst [.int 1]]), some (.lst []), some (.lst [.str "x"])] := fun d hd => by
    have hv3 : iVar 3 [x0, some (.v (.cell 0)), x2, some (.v (.lst (some12 9))), x4, x5, x6, x7, x8, x9, x10] [some (bagD a b c l), o1, o2, o3, o4, o5, o6, o7, o8, some (.lst [.int 1, .lst [.int 2]]), some (.dct [.inr "a"] [.lst [.int 1]]), some (.lst []), some (.lst [.str "x"])] = .ok (.v (.lst (some12 9))) [some (bagD a b c l), o1, o2, o3, o4, o5, o6, o7, o8, some (.lst [.int 1, .lst [.int 2]]), some (.dct [.inr "a"] [.lst [.int 1]]), some (.lst []), some (.lst [.str "x"])] := rfl
    simp only [pS4, sSet, iPrim, evCons, evNil, hv3, hcall, Res.bind, XV.fz, conL, XV.con, f2, ixD, hd, Option.map, Option.bind, lift, Res.fl, asV, flLift]
    rfl
  have hv : v = 0 ∨ v = 1 ∨ v = 2 ∨ v = 3 ∨ v = 4 ∨ v = 5 ∨ v = 6 ∨ v = 7 ∨ v = 8 ∨ v = 9 ∨ v = 10 ∨ v = 11 := by omega
  rcases hv with rfl | rfl | rfl | rfl | rfl | rfl | rfl | rfl | rfl | rfl | rfl | rfl
  · exact ⟨_, _, _, _, _, _, a', b', c', chain (s3_8 x0 x2 x3 x4 x5 x6 x7 x8 x9 x10 _ _ _ _ _ _ _ _ _) (e4 (.non) at_8_0) (made_eq _ _ _ _ _ _ _ _ _ _ _ _) (loop_eq _ _ _ _ _ _ _ _ _ _ _ _) (tl_8_0 x0 x2 x3 x4 x5 _ x7 x8 x9 x10 _ _ _ _ _ _ _ _ _), rfl, o', hc'⟩
  · exact ⟨_, _, _, _, _, _, a', b', c', chain (s3_8 x0 x2 x3 x4 x5 x6 x7 x8 x9 x10 _ _ _ _ _ _ _ _ _) (e4 (.bl true) at_8_1) (made_eq _ _ _ _ _ _ _ _ _ _ _ _) (loop_eq _ _ _ _ _ _ _ _ _ _ _ _) (tl_8_1 x0 x2 x3 x4 x5 _ x7 x8 x9 x10 _ _ _ _ _ _ _ _ _), rfl, o', hc'⟩
  · exact ⟨_, _, _, _, _, _, a', b', c', chain (s3_8 x0 x2 x3 x4 x5 x6 x7 x8 x9 x10 _ _ _ _ _ _ _ _ _) (e4 (.int (-1)) at_8_2) (made_eq _ _ _ _ _ _ _ _ _ _ _ _) (loop_eq _ _ _ _ _ _ _ _ _ _ _ _) (tl_8_2 x0 x2 x3 x4 x5 _ x7 x8 x9 x10 _ _ _ _ _ _ _ _ _), rfl, o', hc'⟩
  · exact ⟨_, _, _, _, _, _, a', b', c', chain (s3_8 x0 x2 x3 x4 x5 x6 x7 x8 x9 x10 _ _ _ _ _ _ _ _ _) (e4 (.int (10 ^ 39)) at_8_3) (made_eq _ _ _ _ _ _ _ _ _ _ _ _) (loop_eq _ _ _ _ _ _ _ _ _ _ _ _) (tl_8_3 x0 x2 x3 x4 x5 _ x7 x8 x9 x10 _ _ _ _ _ _ _ _ _), rfl, o', hc'⟩
  · exact ⟨_, _, _, _, _, _, a', b', c', chain (s3_8 x0 x2 x3 x4 x5 x6 x7 x8 x9 x10 _ _ _ _ _ _ _ _ _) (e4 (.str "") at_8_4) (made_eq _ _ _ _ _ _ _ _ _ _ _ _) (loop_eq _ _ _ _ _ _ _ _ _ _ _ _) (tl_8_4 x0 x2 x3 x4 x5 _ x7 x8 x9 x10 _ _ _ _ _ _ _ _ _), rfl, o', hc'⟩
  · exact ⟨_, _, _, _, _, _, a', b', c', chain (s3_8 x0 x2 x3 x4 x5 x6 x7 x8 x9 x10 _ _ _ _ _ _ _ _ _) (e4 (.str "ab") at_8_5) (made_eq _ _ _ _ _ _ _ _ _ _ _ _) (loop_eq _ _ _ _ _ _ _ _ _ _ _ _) (tl_8_5 x0 x2 x3 x4 x5 _ x7 x8 x9 x10 _ _ _ _ _ _ _ _ _), rfl, o', hc'⟩
  · exact ⟨_, _, _, _, _, _, a', b', c', chain (s3_8 x0 x2 x3 x4 x5 x6 x7 x8 x9 x10 _ _ _ _ _ _ _ _ _) (e4 (.cell 9) at_8_6) (made_eq _ _ _ _ _ _ _ _ _ _ _ _) (loop_eq _ _ _ _ _ _ _ _ _ _ _ _) (tl_8_6 x0 x2 x3 x4 x5 _ x7 x8 x9 x10 _ _ _ _ _ _ _ _ _), rfl, o', hc'⟩
  · exact ⟨_, _, _, _, _, _, a', b', c', chain (s3_8 x0 x2 x3 x4 x5 x6 x7 x8 x9 x10 _ _ _ _ _ _ _ _ _) (e4 (.tup []) at_8_7) (made_eq _ _ _ _ _ _ _ _ _ _ _ _) (loop_eq _ _ _ _ _ _ _ _ _ _ _ _) (tl_8_7 x0 x2 x3 x4 x5 _ x7 x8 x9 x10 _ _ _ _ _ _ _ _ _), rfl, o', hc'⟩
  · exact ⟨_, _, _, _, _, _, a', b', c', chain (s3_8 x0 x2 x3 x4 x5 x6 x7 x8 x9 x10 _ _ _ _ _ _ _ _ _) (e4 (.tup [.int 1, .str "a"]) at_8_8) (made_eq _ _ _ _ _ _ _ _ _ _ _ _) (loop_eq _ _ _ _ _ _ _ _ _ _ _ _) (tl_8_8 x0 x2 x3 x4 x5 _ x7 x8 x9 x10 _ _ _ _ _ _ _ _ _), rfl, o', hc'⟩
  · exact ⟨_, _, _, _, _, _, a', b', c', chain (s3_8 x0 x2 x3 x4 x5 x6 x7 x8 x9 x10 _ _ _ _ _ _ _ _ _) (e4 (.cell 10) at_8_9) (made_eq _ _ _ _ _ _ _ _ _ _ _ _) (loop_eq _ _ _ _ _ _ _ _ _ _ _ _) (tl_8_9 x0 x2 x3 x4 x5 _ x7 x8 x9 x10 _ _ _ _ _ _ _ _ _), rfl, o', hc'⟩
  · exact ⟨_, _, _, _, _, _, a', b', c', chain (s3_8 x0 x2 x3 x4 x5 x6 x7 x8 x9 x10 _ _ _ _ _ _ _ _ _) (e4 (.cell 11) at_8_10) (made_eq _ _ _ _ _ _ _ _ _ _ _ _) (loop_eq _ _ _ _ _ _ _ _ _ _ _ _) (tl_8_10 x0 x2 x3 x4 x5 _ x7 x8 x9 x10 _ _ _ _ _ _ _ _ _), rfl, o', hc'⟩
  · exact ⟨_, _, _, _, _, _, a', b', c', chain (s3_8 x0 x2 x3 x4 x5 x6 x7 x8 x9 x10 _ _ _ _ _ _ _ _ _) (e4 (.cell 12) at_8_11) (made_eq _ _ _ _ _ _ _ _ _ _ _ _) (loop_eq _ _ _ _ _ _ _ _ _ _ _ _) (tl_8_11 x0 x2 x3 x4 x5 _ x7 x8 x9 x10 _ _ _ _ _ _ _ _ _), rfl, o', hc'⟩
theorem last_eq (x0 x2 x3 x4 x5 x6 x7 x8 x9 x10 : Option Sl) (st : Store) : pBases [x0, some (.v (.cell 0)), x2, x3, x4, x5, x6, x7, x8, x9, x10] st = .rt (.v (.bl true)) st := by
  kernel_rfl
theorem plain (ns : List Int) (h : ns.length ≤ 63) : ∃ st', G_law [.scr (ns.map D.int)] [] = .ok (.v (.bl true)) st' := by
  obtain ⟨l, e0, hl, hl2⟩ := bag_ok ns h []
  have e0 : G_l_bag [.scr (ns.map D.int)] [] = .ok (.n (bagD 0 1234567891 0 l)) [] := e0
  have o0 : BagOk 0 1234567891 0 l := ⟨by decide, by decide, by decide, by decide, hl⟩
  obtain ⟨x0, hx0⟩ : ∃ x : Option Sl, x = some (.v (.scr (ns.map D.int))) := ⟨_, rfl⟩
  obtain ⟨y3, y4, y5, y6, y8, os1, a1, b1, c1, t1, l1, o1, k1⟩ := turn_0 x0 (some (.v (.int 0))) none none none none none none none none o0 (by decide)
  match os1, l1 with
  | [p1, p2, p3, p4], _ =>
    obtain ⟨z3, z4, z5, z6, z8, os2, a2, b2, c2, t2, l2, o2, k2⟩ := turn_4 x0 (some (.v (.int 1))) y3 y4 y5 y6 none y8 none none p1 p2 p3 p4 o1 (by omega)
    match os2, l2 with
    | [q1, q2, q3, q4, q5, q6, q7, q8], _ =>
      obtain ⟨w3, w4, w5, w6, w8, os3, a3, b3, c3, t3, l3, o3, k3⟩ := turn_8 x0 (some (.v (.int 2))) z3 z4 z5 z6 none z8 none none q1 q2 q3 q4 q5 q6 q7 q8 o2 (by omega)
      refine ⟨some (bagD a3 b3 c3 l) :: os3, ?_⟩
      have f1 : fIter (pNm 2) pB [.int 0, .int 1, .int 2] [x0, some (.v (.cell 0)), none, none, none, none, none, none, none, none, none] [some (bagD 0 1234567891 0 l)] = .nx [x0, some (.v (.cell 0)), some (.v (.int 2)), w3, w4, w5, w6, none, w8, none, none] (some (bagD a3 b3 c3 l) :: os3) := by
        simp only [fIter, pNm, List.set_cons_succ, List.set_cons_zero, t1, t2, t3]
      have f2 : iRng rng1Q (evCons (iCon (.int 3)) (evNil)) [x0, some (.v (.cell 0)), none, none, none, none, none, none, none, none, none] [some (bagD 0 1234567891 0 l)] = .ok [.int 0, .int 1, .int 2] [some (bagD 0 1234567891 0 l)] := by
        kernel_rfl
      have s1 : sSetC 1 (iCall 1 G_l_bag (evCons (iVar 0) (evNil))) [x0, none, none, none, none, none, none, none, none, none, none] [] = .nx [x0, some (.v (.cell 0)), none, none, none, none, none, none, none, none, none] [some (bagD 0 1234567891 0 l)] := by
        subst hx0
        have hc : iCall 1 G_l_bag (evCons (iVar 0) (evNil)) [some (.v (.scr (ns.map D.int))), none, none, none, none, none, none, none, none, none, none] [] = .ok (.n (bagD 0 1234567891 0 l)) [] := e0
        simp only [sSetC, hc, Res.fl]
        rfl
      have e : M_law [x0, none, none, none, none, none, none, none, none, none, none] [] = .rt (.v (.bl true)) (some (bagD a3 b3 c3 l) :: os3) := by
        rw [M_eq]
        unfold pAll
        simp only [sCons, s1, Fl.bind, sFor, f2, Res.flD, f1, last_eq]
      subst hx0
      show (M_law [some (.v (.scr (ns.map D.int))), none, none, none, none, none, none, none, none, none, none] []).res = _
      rw [e]
      rfl
end K17

set_option maxHeartbeats 0
namespace K17
open PySem PySem.Spec PyProof.Rows Y
abbrev Ro : PySem.W.OpenRow := PySem.W.OpenLaw.row PySem.Challenge.rw_suitedpairs_k17_errors_apart
abbrev hk : PySem.W.Hook := hookY 7 exB fns
def ob (s : PySem.W.SharedT) : AlY := obsYG 7 exB fns (HandSHeadRun.getT s)
theorem ob_eq (s : PySem.W.SharedT) : ob s = hk.obs s.abs := obsYG_eq (HandSHeadRun.getT_eq s)
def nm0 : List PySem.Str := ["SuitError", "Wrong", "BadPair", "NoKind", "NotComplete", "Lonely", "TooMany", "Crowded", "Taken", "NotWaiting", "Full", "Broken", "Nothing", "NoText", "NoCommand", "_law_bag", "_law_take", "_law_made", "_law_classes", "_law_fields"]
def names : List PySem.Str := nm0
abbrev qv : Program := PySem.W.view Ro.prog [22]
theorem run (w : World) : HandSHeadRun.RunEq Ro qv hk ob 40000 names w := by
  intro os
  kernel_rfl
theorem facts {w : World} {K : PySem.W.Frag} {h : Heap} {mg : PySem.Str → Option Value} {f : Addr} (X : K.In h) (G : h.Ns mainGlobals mg) (hfa : mg ("law" : PySem.Str) = some (.ref f)) (c : SaysY exB fns K) :
    ∃ fd : FuncData, (∀ (s : Shared) (v : Value), BindsTo s fd ⟨[v], []⟩ [("_law_script", v)]) ∧ ∀ base : Heap, K.In base → base.Ns mainGlobals mg → L2.FnOk Pr w K mg base (L2.CX Pr w) 4 f fd ["_law_script"] (spY K 1 G_law) := by
  have kn := kn_of X G c (w := w)
  obtain ⟨fd, F⟩ := law_fd kn
  have e := hfa.symm.trans kn.g_law
  cases e
  have b := L2.FunD.bindsA (ps := ["_law_script"]) F fun _ _ _ _ _ _ us hl => match us, hl with | [_], _ => rfl
  exact ⟨fd, fun s v => b s [v] rfl, fun base _ _ => okF_law kn F⟩
end K17
open PySem PySem.W PySem.Calls PyProof.Rows
theorem PySem.Challenge.cw_suitedpairs_k17_errors_apart_holds : PySem.Challenge.rw_suitedpairs_k17_errors_apart.Holds := by
  w_on; o_law
  refine HandSHeadRun.head_any (r := OpenLaw.row PySem.Challenge.rw_suitedpairs_k17_errors_apart) (q := view (OpenLaw.row PySem.Challenge.rw_suitedpairs_k17_errors_apart).prog [22]) (H := K17.hk) (ob := K17.ob) (M := 40000) (loose := K17.names) (d := HandSHeadRun.topDef (OpenLaw.row PySem.Challenge.rw_suitedpairs_k17_errors_apart).prog 22) (kwd := []) K17.ob_eq
    (by kernel_rfl) (fun s => by kernel_rfl) K17.run (by kernel_rfl) (by kernel_rfl) (by kernel_rfl) (by rfl) (by first | assumption | decide +kernel) (by decide +kernel) ⟨rfl, rfl, rfl, rfl, rfl, by decide +kernel⟩ ?hw ?hc
  case hw => w_witness2
  case hc =>
    refine Y.walk_ofY (l := PySem.Challenge.rw_suitedpairs_k17_errors_apart) (n := 63) (k := 4) (x := "_law_script") rfl (by decide) (by kernel_rfl) ⟨rfl, by decide, by decide⟩ ?F
    case F =>
      intro w mg fa h Y G hmg0
      obtain ⟨K, KX, c⟩ := Y
      have hmg : mg ("law" : PySem.Str) = some (.ref fa) := by
        have e : (HandSHeadRun.topDef (OpenLaw.row PySem.Challenge.rw_suitedpairs_k17_errors_apart).prog 22).name = ("law" : PySem.Str) := by kernel_rfl
        rw [← e]
        exact hmg0
      obtain ⟨fd, hb, hF⟩ := K17.facts (w := w) KX G hmg c
      exact ⟨K, fd, Y.spY K 1 K17.G_law, KX, hb, fun H a ns hl _ hS => Y.law_sp hS (K17.plain ns hl), hF⟩

