import PyProof.Rows.All
import Wide.All
import OpenK.AllK
import Wide.FinOn
import PySem.Challenge.RW_spiralsays_k14_who_stands_above_whom
import HandS.ForMost
import HandS.ForExc
import HandS.Wide
import HandS.Walk
import HandS.Gcd
import HandS.IsInst
import HandS.Property
import HandS.ClsMeth
import HandS.Defaults
import HandS.Flow
import HandS.Zip
import HandS.TryOnly
import HandS.Style
import HandS.OwnEq
import HandS.Lambda
import HandS.IterVal
import HandS.ExcInit
import HandS.ExcField
import HandS.Base
import HandS.Exc
import HandS.HeadHook1
import HandS.HeadHook2
import HandS.HeadEnd
import HandS.Head2
import HandS.HeadWalk
import HandS.EndTab
import KE.KNestM
import KE.KStateDown
import Lean
import HandS.Head0
import HandS.Head1
import HandS.Head3
import Open.FastParts
set_option Elab.async false
set_option linter.all false
section
set_option maxRecDepth 100000
/-! Mi: a mirror of the text's own values and of what it does with them; pure values D, the store of what changes, how the hand layer's heap bears them. -/
namespace Mi
open PySem L2

/-- pure values: what never changes stands as it is, what changes is a cell -/
inductive D where
  | non | bl (b : Bool) | int (i : Int) | str (s : Str)
  | lst (l : List D) | tup (l : List D) | obj (c : Nat) (fs : List (Nat × D))
  | cell (n : Nat) | fn (f : Nat) | cls (c : Nat) | ty (n : String) | scr (l : List D)
/-- what a cell holds: nothing any more, a list, an instance -/
inductive Cell where
  | dead | lst (l : List D) | ins (c : Nat) (fs : List (Nat × D))
abbrev Store := List Cell

/-- where the text's things stand: K the written part, fa its defs, ca its classes, nm the names of fields -/
structure Tb where
  K : PySem.W.Frag
  fa : Nat → Addr
  ca : Nat → Addr
  nm : List Str
  /-- the code objects' tables of those that make lambdas -/
  tbs : List (Addr × Str)
  /-- the exception classes -/
  xa : Nat → Addr
  /-- their code objects and tables -/
  cs : List (Addr × Addr)
  /-- the defs' parameters -/
  pn : Nat → List Str
/-- the world: cells by number (none: dead), what others build just now, what this frame builds -/
structure Wl where
  cs : List (Option Addr)
  ux : List Addr
  own : Option Addr

/-- an object that nobody changes -/
def Fz (w : Wl) (a : Addr) : Prop := (∀ n : Nat, w.cs[n]? ≠ some (some a)) ∧ a ∉ w.ux ∧ w.own ≠ some a
def KLst (K : PySem.W.Frag) (a : Addr) (xs : List V) : Prop := ∃ (o : Obj) (its : Array Value) (n : Nat), K.lookup a = some o ∧ o.cls = .type "list" ∧ o.dict = none ∧ o.data = .seq its n ∧ its.size ≤ sizeLine ∧ Vals xs its.toList ∧ o.slots = #[]
def KTup (K : PySem.W.Frag) (a : Addr) (xs : List V) : Prop := ∃ (o : Obj) (its : Array Value) (n : Nat), K.lookup a = some o ∧ o.cls = .type "tuple" ∧ o.data = .seq its n ∧ its.size ≤ sizeLine ∧ Vals xs its.toList

/-- a list that is only read -/
def Scr (K : PySem.W.Frag) (w : Wl) (H : Hp) (a : Addr) (vs : List V) : Prop := ((∃ u, H a = some u ∧ (u = .lst vs ∨ ∃ o, u = .frz o (.lst vs))) ∧ Fz w a) ∨
  ∃ (o : Obj) (its : Array Value) (n : Nat), K.lookup a = some o ∧ o.cls = .type "list" ∧ o.dict = none ∧ o.data = .seq its n ∧ its.size ≤ sizeLine ∧ Vals vs its.toList
mutual
/-- the heap bears d at v -/
inductive Rep (T : Tb) (w : Wl) (H : Hp) : V → D → Prop where
  | non : Rep T w H .non .non
  | bl (b : Bool) : Rep T w H (.bl b) (.bl b)
  | int (i : Int) : Rep T w H (.int i) (.int i)
  | str (s : Str) : Rep T w H (.str s) (.str s)
  | ty (n : String) : Rep T w H (.ty n) (.ty n)
  | lst {a : Addr} {vs : List V} {ds : List D} : H a = some (.lst vs) → Fz w a → Reps T w H vs ds → Rep T w H (.ref a) (.lst ds)
  | lstK {a : Addr} {vs : List V} {ds : List D} : KLst T.K a vs → Reps T w H vs ds → Rep T w H (.ref a) (.lst ds)
  | tup {a : Addr} {vs : List V} {ds : List D} : H a = some (.tup vs) → Fz w a → Reps T w H vs ds → Rep T w H (.ref a) (.tup ds)
  | tupK {a : Addr} {vs : List V} {ds : List D} : KTup T.K a vs → Reps T w H vs ds → Rep T w H (.ref a) (.tup ds)
  | obj {a dx : Addr} {c : Nat} {vs : List (Str × V)} {fs : List (Nat × D)} : H a = some (.ins (T.ca c) dx vs) → Fz w a → RepF T w H vs fs → Rep T w H (.ref a) (.obj c fs)
  | cell {a : Addr} {n : Nat} : w.cs[n]? = some (some a) → Rep T w H (.ref a) (.cell n)
  | dead {v : V} {n : Nat} : w.cs[n]? = some none → Rep T w H v (.cell n)
  | fn (f : Nat) : Rep T w H (.ref (T.fa f)) (.fn f)
  | cls (c : Nat) : Rep T w H (.ref (T.ca c)) (.cls c)
  | scr {a : Addr} {vs : List V} {ds : List D} : Scr T.K w H a vs → Reps T w H vs ds → Rep T w H (.ref a) (.scr ds)
inductive Reps (T : Tb) (w : Wl) (H : Hp) : List V → List D → Prop where
  | nil : Reps T w H [] []
  | cons {v : V} {d : D} {vs : List V} {ds : List D} : Rep T w H v d → Reps T w H vs ds → Reps T w H (v :: vs) (d :: ds)
inductive RepF (T : Tb) (w : Wl) (H : Hp) : List (Str × V) → List (Nat × D) → Prop where
  | nil : RepF T w H [] []
  | cons {x : Str} {i : Nat} {v : V} {d : D} {vs : List (Str × V)} {fs : List (Nat × D)} : T.nm[i]? = some x → Rep T w H v d → RepF T w H vs fs → RepF T w H ((x, v) :: vs) ((i, d) :: fs)
end

/-- an object that is no table of code objects -/
def Nt (H : Hp) (a : Addr) : Prop := ∃ u, H a = some u ∧ ∀ ps, u ≠ HO.tbl ps
theorem Nt.ne {H : Hp} {a : Addr} (h : Nt H a) : H a ≠ none := by
  obtain ⟨u, e, _⟩ := h
  rw [e]; exact fun z => nomatch z
/-- from one state on to another: o may have changed besides the cells -/
structure Ext (o : Option Addr) (w : Wl) (H : Hp) (w' : Wl) (H' : Hp) : Prop where
  len : w.cs.length ≤ w'.cs.length
  keep : ∀ a u, H a = some u → (∀ n : Nat, w.cs[n]? ≠ some (some a)) → o ≠ some a → ((∀ ps, u ≠ .tbl ps) ∨ w'.cs.length = w.cs.length) → H' a = some u
  there : ∀ a, Nt H a → Nt H' a
  fresh : ∀ a, Nt H a → (∀ n : Nat, w.cs[n]? ≠ some (some a)) → ∀ n : Nat, w'.cs[n]? ≠ some (some a)
  cell : ∀ (n : Nat) (a : Addr), w.cs[n]? = some (some a) → w'.cs[n]? = some (some a) ∨ w'.cs[n]? = some none
  dead : ∀ (n : Nat), w.cs[n]? = some none → w'.cs[n]? = some none
  ux : w'.ux = w.ux
  own : w'.own = w.own
theorem Ext.fresh2 {o : Option Addr} {w w' : Wl} {H H' : Hp} (e : Ext o w H w' H') {a : Addr} (h : Nt H a ∨ w'.cs.length = w.cs.length) (k : ∀ n : Nat, w.cs[n]? ≠ some (some a)) : ∀ n : Nat, w'.cs[n]? ≠ some (some a) := by
  rcases h with h | h
  · exact e.fresh a h k
  · intro n z
    have hn : n < w.cs.length := by rw [← h]; exact (List.getElem?_eq_some_iff.mp z).1
    cases q : w.cs[n]'hn with
    | none =>
      have := e.dead n (by rw [List.getElem?_eq_getElem hn, q])
      rw [this] at z; cases z
    | some b =>
      have hb : w.cs[n]? = some (some b) := by rw [List.getElem?_eq_getElem hn, q]
      rcases e.cell n b hb with y | y
      · rw [y] at z; cases z; exact k n hb
      · rw [y] at z; cases z
theorem Ext.refl {o : Option Addr} {w : Wl} {H : Hp} : Ext o w H w H :=
  ⟨Nat.le_refl _, fun _ _ h _ _ _ => h, fun _ h => h, fun _ _ h => h, fun _ _ h => .inl h, fun _ h => h, rfl, rfl⟩
theorem Ext.trans {o : Option Addr} {w w1 w2 : Wl} {H H1 H2 : Hp} (a : Ext o w H w1 H1) (b : Ext o w1 H1 w2 H2) : Ext o w H w2 H2 where
  len := Nat.le_trans a.len b.len
  keep := fun c u h n k z => b.keep c u (a.keep c u h n k (z.imp id fun q => by have := a.len; have := b.len; omega)) (a.fresh2 (z.imp (fun q => ⟨u, h, q⟩) fun q => by have := a.len; have := b.len; omega) n) k (z.imp id fun q => by have := a.len; have := b.len; omega)
  there := fun c h => b.there c (a.there c h)
  fresh := fun c h n => b.fresh c (a.there c h) (a.fresh c h n)
  cell := fun n c h => (a.cell n c h).elim (fun z => b.cell n c z) fun z => .inr (b.dead n z)
  dead := fun n h => b.dead n (a.dead n h)
  ux := b.ux.trans a.ux
  own := b.own.trans a.own
theorem Ext.weak {o : Option Addr} {w w' : Wl} {H H' : Hp} (a : Ext none w H w' H') : Ext o w H w' H' :=
  ⟨a.len, fun c u h n _ => a.keep c u h n (fun z => nomatch z), a.there, a.fresh, a.cell, a.dead, a.ux, a.own⟩
/-- o is none, or what the frame builds -/
def OOk (o : Option Addr) (w : Wl) : Prop := o = none ∨ o = w.own ∨ ∃ d, o = some d ∧ d ∈ w.ux
theorem Ext.fz {o : Option Addr} {w w' : Wl} {H H' : Hp} (e : Ext o w H w' H') (ho : OOk o w) {a : Addr} {u : HO} (nt : ∀ ps, u ≠ .tbl ps) (h : H a = some u) (f : Fz w a) : H' a = some u ∧ Fz w' a := by
  obtain ⟨f1, f2, f3⟩ := f
  refine ⟨e.keep a u h f1 (fun z => ?_) (.inl nt), e.fresh a ⟨u, h, nt⟩ f1, by rw [e.ux]; exact f2, by rw [e.own]; exact f3⟩
  rcases ho with q | q | ⟨d, q, qd⟩
  · rw [q] at z; cases z
  · rw [q] at z; exact f3 z
  · rw [q] at z; cases z; exact f2 qd

/-- what is enough for what is borne to be borne on -/
structure Mono (w : Wl) (H : Hp) (w' : Wl) (H' : Hp) : Prop where
  fz : ∀ a u, (∀ ps, u ≠ HO.tbl ps) → H a = some u → Fz w a → H' a = some u ∧ Fz w' a
  cell : ∀ (n : Nat) (a : Addr), w.cs[n]? = some (some a) → w'.cs[n]? = some (some a) ∨ w'.cs[n]? = some none
  dead : ∀ (n : Nat), w.cs[n]? = some none → w'.cs[n]? = some none
theorem Scr.mono {K : PySem.W.Frag} {w w' : Wl} {H H' : Hp} {a : Addr} {vs : List V} (m : Mono w H w' H') (h : Scr K w H a vs) : Scr K w' H' a vs := by
  rcases h with ⟨⟨u, h, k⟩, f⟩ | h
  · have nt : ∀ ps, u ≠ HO.tbl ps := fun ps z => by
      rcases k with k | ⟨o, k⟩
      · rw [k] at z; cases z
      · rw [k] at z; cases z
    exact .inl ⟨⟨u, (m.fz _ _ nt h f).1, k⟩, (m.fz _ _ nt h f).2⟩
  · exact .inr h
theorem Ext.mono {o : Option Addr} {w w' : Wl} {H H' : Hp} (e : Ext o w H w' H') (ho : OOk o w) : Mono w H w' H' := ⟨fun _ _ nt h f => e.fz ho nt h f, e.cell, e.dead⟩
section
variable {T : Tb} {w w' : Wl} {H H' : Hp}
mutual
theorem Rep.mono (m : Mono w H w' H') : ∀ {v : V} {d : D}, Rep T w H v d → Rep T w' H' v d
  | _, _, .non => .non
  | _, _, .bl b => .bl b
  | _, _, .int i => .int i
  | _, _, .str s => .str s
  | _, _, .ty n => .ty n
  | _, _, .lst r f rs => .lst (m.fz _ _ (fun _ z => by cases z) r f).1 (m.fz _ _ (fun _ z => by cases z) r f).2 (Reps.mono m rs)
  | _, _, .lstK k rs => .lstK k (Reps.mono m rs)
  | _, _, .tup r f rs => .tup (m.fz _ _ (fun _ z => by cases z) r f).1 (m.fz _ _ (fun _ z => by cases z) r f).2 (Reps.mono m rs)
  | _, _, .tupK k rs => .tupK k (Reps.mono m rs)
  | _, _, .obj h f rs => .obj (m.fz _ _ (fun _ z => by cases z) h f).1 (m.fz _ _ (fun _ z => by cases z) h f).2 (RepF.mono m rs)
  | _, _, .cell h => (m.cell _ _ h).elim (fun z => .cell z) fun z => .dead z
  | _, _, .dead h => .dead (m.dead _ h)
  | _, _, .fn f => .fn f
  | _, _, .cls c => .cls c
  | _, _, .scr h rs => .scr (h.mono m) (Reps.mono m rs)
theorem Reps.mono (m : Mono w H w' H') : ∀ {vs : List V} {ds : List D}, Reps T w H vs ds → Reps T w' H' vs ds
  | _, _, .nil => .nil
  | _, _, .cons r rs => .cons (Rep.mono m r) (Reps.mono m rs)
theorem RepF.mono (m : Mono w H w' H') : ∀ {vs : List (Str × V)} {fs : List (Nat × D)}, RepF T w H vs fs → RepF T w' H' vs fs
  | _, _, .nil => .nil
  | _, _, .cons e r rs => .cons e (Rep.mono m r) (RepF.mono m rs)
end
theorem Rep.scrI {x : V} {ds : List D} (r : Rep T w H x (.scr ds)) : ∃ a vs, x = .ref a ∧ SqL T.K H a vs ∧ Reps T w H vs ds := by
  cases r with
  | scr h rs => exact ⟨_, _, rfl, h.elim (fun ⟨⟨u, h, k⟩, _⟩ => .inl (k.elim (fun k => .inl (by rw [k] at h; exact h)) fun ⟨o, k⟩ => .inr ⟨o, by rw [k] at h; exact h⟩)) .inr, rs⟩
theorem Reps.length : ∀ {vs : List V} {ds : List D}, Reps T w H vs ds → vs.length = ds.length
  | _, _, .nil => rfl
  | _, _, .cons _ rs => congrArg (· + 1) (Reps.length rs)
theorem Reps.get : ∀ {vs : List V} {ds : List D} {i : Nat} {d : D}, Reps T w H vs ds → ds[i]? = some d → ∃ v, vs[i]? = some v ∧ Rep T w H v d
  | _, _, _, _, .nil, h => by simp at h
  | _, _, 0, _, .cons r _, h => by simp at h; subst h; exact ⟨_, rfl, r⟩
  | _, _, i + 1, d, .cons _ rs, h => by
    obtain ⟨v, h1, h2⟩ := Reps.get (i := i) (d := d) rs (by simpa using h)
    exact ⟨v, by simpa using h1, h2⟩
theorem Reps.getV : ∀ {vs : List V} {ds : List D} {i : Nat} {v : V}, Reps T w H vs ds → vs[i]? = some v → ∃ d, ds[i]? = some d ∧ Rep T w H v d
  | _, _, _, _, .nil, h => by simp at h
  | _, _, 0, _, .cons r _, h => by simp at h; subst h; exact ⟨_, rfl, r⟩
  | _, _, i + 1, v, .cons _ rs, h => by
    obtain ⟨d, h1, h2⟩ := Reps.getV (i := i) (v := v) rs (by simpa using h)
    exact ⟨d, by simpa using h1, h2⟩
theorem Reps.append : ∀ {vs us : List V} {ds es : List D}, Reps T w H vs ds → Reps T w H us es → Reps T w H (vs ++ us) (ds ++ es)
  | _, _, _, _, .nil, s => s
  | _, _, _, _, .cons r t, s => .cons r (Reps.append t s)
theorem Reps.take : ∀ {vs : List V} {ds : List D} (n : Nat), Reps T w H vs ds → Reps T w H (vs.take n) (ds.take n)
  | _, _, 0, _ => .nil
  | _, _, _ + 1, .nil => .nil
  | _, _, n + 1, .cons r t => .cons r (Reps.take n t)
theorem Reps.drop : ∀ {vs : List V} {ds : List D} (n : Nat), Reps T w H vs ds → Reps T w H (vs.drop n) (ds.drop n)
  | _, _, 0, r => r
  | _, _, _ + 1, .nil => .nil
  | _, _, n + 1, .cons _ t => Reps.drop n t
theorem Reps.set : ∀ {vs : List V} {ds : List D} {v : V} {d : D} (i : Nat), Rep T w H v d → Reps T w H vs ds → Reps T w H (vs.set i v) (ds.set i d)
  | _, _, _, _, _, _, .nil => .nil
  | _, _, _, _, 0, r, .cons _ t => .cons r t
  | _, _, _, _, i + 1, r, .cons q t => .cons q (Reps.set i r t)
theorem Reps.single {v : V} {d : D} (r : Rep T w H v d) : Reps T w H [v] [d] := .cons r .nil
/-- names that are told apart -/
theorem nm_ne (nd : T.nm.Nodup) {i j : Nat} {x y : Str} (a : T.nm[i]? = some x) (b : T.nm[j]? = some y) : (y = x) ↔ (j = i) := by
  constructor
  · intro e; subst e; exact nodup_ix nd b a
  · intro e; subst e; rw [a] at b; exact (Option.some.inj b).symm
theorem RepF.lookup (nd : T.nm.Nodup) {i : Nat} {x : Str} (hi : T.nm[i]? = some x) : ∀ {vs : List (Str × V)} {fs : List (Nat × D)}, RepF T w H vs fs →
    (∀ d, fs.lookup i = some d → ∃ v, vs.lookup x = some v ∧ Rep T w H v d) ∧ (fs.lookup i = none → vs.lookup x = none)
  | _, _, .nil => ⟨fun d h => by simp at h, fun _ => rfl⟩
  | _, _, .cons (x := y) (i := j) e r rs => by
    obtain ⟨h1, h2⟩ := RepF.lookup nd hi rs
    have q := nm_ne nd e hi
    by_cases hji : i = j
    · have hxy : x = y := q.mpr hji
      subst hji; subst hxy
      refine ⟨fun d h => ?_, fun h => ?_⟩
      · simp at h; subst h; exact ⟨_, by simp, r⟩
      · simp at h
    · have hxy : ¬ x = y := fun z => hji (q.mp z)
      have b1 : (x == y) = false := beq_eq_false_iff_ne.mpr hxy
      have b2 : (i == j) = false := beq_eq_false_iff_ne.mpr hji
      refine ⟨fun d h => ?_, fun h => ?_⟩
      · rw [List.lookup_cons, b2] at h
        obtain ⟨v, k1, k2⟩ := h1 d h
        exact ⟨v, by rw [List.lookup_cons, b1]; exact k1, k2⟩
      · rw [List.lookup_cons, b2] at h
        rw [List.lookup_cons, b1]; exact h2 h
theorem RepF.length : ∀ {vs : List (Str × V)} {fs : List (Nat × D)}, RepF T w H vs fs → vs.length = fs.length
  | _, _, .nil => rfl
  | _, _, .cons _ _ rs => congrArg (· + 1) (RepF.length rs)
end
/-- a field is stored -/
def putD (i : Nat) (d : D) : List (Nat × D) → List (Nat × D)
  | [] => [(i, d)]
  | (j, e) :: r => if j = i then (j, d) :: r else (j, e) :: putD i d r
theorem RepF.put {T : Tb} {w : Wl} {H : Hp} (nd : T.nm.Nodup) {i : Nat} {x : Str} (hi : T.nm[i]? = some x) {v : V} {d : D} (r : Rep T w H v d) : ∀ {vs : List (Str × V)} {fs : List (Nat × D)}, RepF T w H vs fs → RepF T w H (putF x v vs) (putD i d fs)
  | _, _, .nil => .cons hi r .nil
  | _, _, .cons (x := y) (i := j) e r' rs => by
    have q := nm_ne nd hi e
    by_cases hji : j = i
    · have hxy : y = x := q.mpr hji
      show RepF T w H (if y = x then _ else _) (if j = i then _ else _)
      rw [if_pos hxy, if_pos hji]
      exact .cons e r rs
    · have hxy : ¬ y = x := fun z => hji (q.mp z)
      show RepF T w H (if y = x then _ else _) (if j = i then _ else _)
      rw [if_neg hxy, if_neg hji]
      exact .cons e r' (RepF.put nd hi r rs)

/-! ### the store -/
def CellOk (T : Tb) (w : Wl) (H : Hp) (a? : Option Addr) : Cell → Prop
  | .dead => a? = none
  | .lst ds => ∃ a vs, a? = some a ∧ H a = some (.lst vs) ∧ Reps T w H vs ds
  | .ins c fs => ∃ a dx vs, a? = some a ∧ H a = some (.ins (T.ca c) dx vs) ∧ RepF T w H vs fs
structure StOk (T : Tb) (w : Wl) (H : Hp) (S : Store) : Prop where
  len : w.cs.length = S.length
  at_ : ∀ (n : Nat) (c : Cell), S[n]? = some c → ∀ a? : Option Addr, w.cs[n]? = some a? → CellOk T w H a? c
  inj : ∀ (n m : Nat) (a : Addr), w.cs[n]? = some (some a) → w.cs[m]? = some (some a) → n = m
  dis : ∀ (n : Nat) (a : Addr), w.cs[n]? = some (some a) → a ∉ w.ux ∧ w.own ≠ some a
  uxs : ∀ a ∈ w.ux, Nt H a
  owns : ∀ a, w.own = some a → Nt H a
  tabs : LamX.Tabs T.tbs H
end Mi
end

section
set_option maxRecDepth 100000
/-! Mi: the mirror's syntax and what it does. -/
namespace Mi
open PySem L2

inductive Bop where
  | add | sub | mul | fdiv | mod | pow
  deriving DecidableEq
inductive Cop where
  | eq | ne | lt | le | gt | ge | isin | notin | is | isnot
  deriving DecidableEq
/-- a target: a slot, or targets in a tuple -/
inductive Pat where
  | slot (i : Nat) | nil | cons (p : Pat) (r : Pat)
/-- builtins by values -/
inductive Bi where
  | len | abs | int | bool | tuple | list | all | any | gcd | str
  deriving DecidableEq
/-- what the clauses of a hearer make: constants, a field of the error -/
inductive At where
  | con (d : D) | err (f : Nat)
inductive Tm where
  | one (a : At) | tup (l : List At) | lst (l : List At)
/-- .. of what is told: nothing, itself, with a word ahead -/
inductive OkT where
  | drop | plain | tag (s : Str)
/-- a hearer: its number and name; the slots of what is kept (none where it returns) and of the error; what it makes of what is told, of an exception of a class -/
structure HI where
  fn : Nat
  nm : Str
  v : Option Nat
  e : Nat
  ok : OkT
  hs : List (Nat × Tm)
inductive IK where
  | own (c : Nat) | ty (n : String)

mutual
inductive ME where
  | var (i : Nat)
  | con (d : D)
  | glo (i : Nat)
  | bin (op : Bop) (a b : ME)
  | neg (a : ME)
  | not (a : ME)
  | one (a : ME)
  | and (a b : ME)
  | or (a b : ME)
  | cmp (op : Cop) (a b : ME)
  | isN (a : ME)
  | notN (a : ME)
  | chain (o1 o2 : Cop) (a b c : ME)
  | ife (c a b : ME)
  | call (f : Nat) (es : MEs)
  | new (c : Nat) (es : MEs)
  | meth (o : ME) (m : Nat) (es : MEs)
  | stat (c m : Nat) (es : MEs)
  | attr (o : ME) (f : Nat)
  | self (f : Nat)
  | bi (b : Bi) (es : MEs)
  | isi (a : ME) (ks : List IK)
  | idx (a i : ME)
  | slice (a : ME) (lo hi : MO)
  | tup (es : MEs)
  | lst (cell : Bool) (es : MEs)
  | comp (elt : ME) (tgt : Pat) (own : List Nat) (it : MI) (test : MO)
  | app (o e : ME)
  | frz (a : ME)
  | heard (i : Nat) (e : ME)
  | kcall (f : Nat) (es ks : MEs)
  | kmeth (o : ME) (m : Nat) (es ks : MEs)
inductive MEs where
  | nil | cons (e : ME) (r : MEs)
inductive MO where
  | none | some (e : ME)
inductive MI where
  | ex (e : ME) | rng1 (e : ME) | rng2 (a b : ME) | enum (e : ME) | zip (a b : ME)
end
mutual
inductive MS where
  | asg (p : Pat) (e : ME)
  | par (is : List Nat) (es : MEs)
  | setSelf (f : Nat) (e : ME)
  | setSelfs (fs : List Nat) (e : ME)
  | setAttr (o : ME) (f : Nat) (e : ME)
  | setIdx (o i e : ME)
  | expr (e : ME)
  | ini (c m : Nat) (es : MEs)
  | ret (e : ME) | retN | pass | brk | cont
  | ife (c : ME) (a b : MSs)
  | forr (p : Pat) (it : MI) (b : MSs)
  | whl (c : ME) (b : MSs)
  | retIt (f : Nat)
  | rais (x : Nat) (es : MEs)
  | never
inductive MSs where
  | nil | cons (s : MS) (r : MSs)
end

inductive Res where
  | ok (d : D) (S : Store) | exc (c : Nat) (fs : List (Nat × D)) (S : Store) | bad
inductive ResL where
  | ok (ds : List D) (S : Store) | exc (c : Nat) (fs : List (Nat × D)) (S : Store) | bad
/-- a frame: the slots; what it builds -/
structure Fr where
  σ : List (Option D)
  self : Option (Nat × List (Nat × D))
inductive Out where
  | nx (fr : Fr) (S : Store) | ret (d : D) (fr : Fr) (S : Store) | brk (fr : Fr) (S : Store) | cont (fr : Fr) (S : Store)
  | exc (c : Nat) (fs : List (Nat × D)) (fr : Fr) (S : Store) | bad
def Res.bind (r : Res) (k : D → Store → Res) : Res := match r with
  | .ok d S => k d S
  | .exc c fs S => .exc c fs S
  | .bad => .bad
def Res.bindL (r : Res) (k : D → Store → ResL) : ResL := match r with
  | .ok d S => k d S
  | .exc c fs S => .exc c fs S
  | .bad => .bad
def ResL.bind (r : ResL) (k : List D → Store → Res) : Res := match r with
  | .ok d S => k d S
  | .exc c fs S => .exc c fs S
  | .bad => .bad
def ResL.bindL (r : ResL) (k : List D → Store → ResL) : ResL := match r with
  | .ok d S => k d S
  | .exc c fs S => .exc c fs S
  | .bad => .bad
def Res.bindO (r : Res) (fr : Fr) (k : D → Store → Out) : Out := match r with
  | .ok d S => k d S
  | .exc c fs S => .exc c fs fr S
  | .bad => .bad
def ResL.bindO (r : ResL) (fr : Fr) (k : List D → Store → Out) : Out := match r with
  | .ok d S => k d S
  | .exc c fs S => .exc c fs fr S
  | .bad => .bad

/-- what is asked of the program -/
inductive Rq where
  | fn (f : Nat) (ds : List D) | ini (f c : Nat) (fs : List (Nat × D)) (ds : List D) | new (c : Nat) (ds : List D) | low (f : Nat) (ds : List D) | low2 (f : Nat) (ds : List D) | lv | dn (r : Rq)
abbrev Call := Rq → Store → Res
/-- special methods by number -/
inductive Dun where
  | add | sub | mul | neg | eq | bool | len | abs | str | con | iter
  deriving DecidableEq
/-- a class: its methods (through its bases), properties, static methods, special ones, __init__, all it is -/
structure CI where
  meth : List (Nat × Nat)
  prop : List (Nat × Nat)
  stat : List (Nat × Nat)
  dun : List (Dun × Nat)
  init : Option Nat
  flds : List Nat
  anc : List Nat
  frozen : Bool
structure FI where
  np : Nat
  ns : Nat
  body : MSs
  dfl : List D
/-- an exception's class: the fields in the order of its parameters; all it is -/
structure XI where
  flds : List Nat
  anc : List Nat
structure Pg where
  gs : List D
  fs : List FI
  cs : List CI
  xs : List XI
  hi : List HI
  fuel : Nat

/-- ints up to here are multiplied and divided -/
def big : Nat := 2 ^ 8000
def Sz (i : Int) : Bool := Nat.blt i.natAbs big
/-- factors: both not too great, or one small -/
def Mu (i j : Int) : Bool := Nat.blt i.natAbs (2 ^ 60) || (Nat.blt j.natAbs (2 ^ 60) || (Sz i && Sz j))
def lim : Nat := 1000000

/-! ### values -/
mutual
/-- data that == compares by itself -/
def pyD : D → Option PyData
  | .non => some .none | .bl b => some (.bool b) | .int i => some (.int i) | .str s => some (.str s)
  | .lst l => (match pyDs l with
    | some p => some (.list p)
    | none => none)
  | .tup l => (match pyDs l with
    | some p => some (.tuple p)
    | none => none)
  | _ => none
def pyDs : List D → Option (List PyData)
  | [] => some []
  | d :: l => (match pyD d, pyDs l with
    | some p, some q => some (p :: q)
    | _, _ => none)
end
def okD (d : D) : Option PyData := match pyD d with
  | some p => if SeqAt.shaped p then some p else none
  | none => none
/-- .. of what a cell holds too -/
def okE (x : D) (S : Store) : Option PyData := match x with
  | .cell n => (match S[n]? with
    | some (.lst l) => okD (.lst l)
    | _ => none)
  | x => okD x
section
variable {S : Store}
@[simp] theorem okE_non : okE .non S = okD .non := rfl
@[simp] theorem okE_bl {b : Bool} : okE (.bl b) S = okD (.bl b) := rfl
@[simp] theorem okE_int {i : Int} : okE (.int i) S = okD (.int i) := rfl
@[simp] theorem okE_str {s : Str} : okE (.str s) S = okD (.str s) := rfl
@[simp] theorem okE_lst {l : List D} : okE (.lst l) S = okD (.lst l) := rfl
@[simp] theorem okE_tup {l : List D} : okE (.tup l) S = okD (.tup l) := rfl
@[simp] theorem okE_obj {c : Nat} {fs : List (Nat × D)} : okE (.obj c fs) S = okD (.obj c fs) := rfl
end
def eqD (x y : D) : Bool := match x, y with
  | .non, .non => true
  | .bl a, .bl b => a == b
  | .int a, .int b => a == b
  | .str a, .str b => a == b
  | .bl a, .int b => (if a then 1 else 0) == b
  | .int a, .bl b => a == (if b then 1 else 0)
  | _, _ => false
/-- a scalar -/
def flat : D → Bool
  | .non => true | .bl _ => true | .int _ => true | .str _ => true
  | _ => false
def truth : D → Option Bool
  | .non => some false | .bl b => some b | .int i => some (i != 0) | .str s => if s.length ≤ sizeLine then some (s.length != 0) else none
  | .lst l => some !l.isEmpty | .tup l => some !l.isEmpty
  | _ => none
/-- of a built-in type -/
def base : D → Bool
  | .non => true | .bl _ => true | .int _ => true | .str _ => true | .lst _ => true | .tup _ => true
  | _ => false
def dunOf (P : Pg) (c : Nat) (u : Dun) : Option Nat := P.cs[c]?.bind fun ci => ci.dun.lookup u
/-- may stand right of an own operator -/
def rOk (P : Pg) (c : Nat) (u : Dun) (y : D) : Bool := match y with
  | .obj d _ => decide (d = c) || (match P.cs[d]? with
    | some di => !di.anc.contains c && (di.dun.lookup u).isSome
    | none => false)
  | y => base y
/-- .. of an own == -/
def eOk (P : Pg) (c : Nat) (y : D) : Bool := match y with
  | .obj d _ => (match P.cs[d]? with
    | some di => !di.anc.contains c || decide (c = d)
    | none => false)
  | y => base y
def opDun : Bop → Option Dun
  | .add => some .add | .sub => some .sub | .mul => some .mul | _ => none

def binM (P : Pg) (call : Call) (op : Bop) (x y : D) (S : Store) : Res := match x with
  | .int i => (match y with
    | .int j => (match op with
      | .add => .ok (.int (i + j)) S
      | .sub => .ok (.int (i - j)) S
      | .mul => if Mu i j then .ok (.int (i * j)) S else .bad
      | .fdiv => if j != 0 && Sz j then .ok (.int (i.fdiv j)) S else .bad
      | .mod => if j != 0 then .ok (.int (i.fmod j)) S else .bad
      | .pow => if decide (0 ≤ j) && decide (j ≤ 100000) && decide (i.natAbs < 2 ^ 64) then .ok (.int (i ^ j.toNat)) S else .bad)
    | _ => .bad)
  | .str a => (match y with
    | .str b => (match op with
      | .add => if a.length + b.length ≤ lim then .ok (.str (a ++ b)) S else .bad
      | _ => .bad)
    | _ => .bad)
  | .lst a => (match y with
    | .lst b => (match op with
      | .add => if a.length + b.length ≤ lim then .ok (.lst (a ++ b)) S else .bad
      | _ => .bad)
    | _ => .bad)
  | .obj c _ => (match opDun op with
    | some u => (match dunOf P c u with
      | some f => if rOk P c u y then call (.fn f [x, y]) S else .bad
      | none => .bad)
    | none => .bad)
  | _ => .bad
def negM (P : Pg) (call : Call) (x : D) (S : Store) : Res := match x with
  | .int i => .ok (.int (-i)) S
  | .obj c _ => (match dunOf P c .neg with
    | some f => call (.fn f [x]) S
    | none => .bad)
  | _ => .bad
def asBool (r : Res) : Res := match r with
  | .ok (.bl b) S => .ok (.bl b) S
  | .exc c fs S => .exc c fs S
  | _ => .bad
def flipB (r : Res) : Res := match r with
  | .ok (.bl b) S => .ok (.bl !b) S
  | .exc c fs S => .exc c fs S
  | _ => .bad
def eqOwn (P : Pg) (call : Call) (x y : D) (S : Store) : Res := match x with
  | .obj c _ => (match dunOf P c .eq with
    | some f => if eOk P c y then asBool (call (.fn f [x, y]) S) else .bad
    | none => .bad)
  | _ => .bad
mutual
/-- no cell within -/
def noCell : D → Bool
  | .cell _ => false
  | .scr _ => false
  | .lst l => noCells l
  | .tup l => noCells l
  | .obj _ fs => noCellF fs
  | _ => true
def noCells : List D → Bool
  | [] => true
  | d :: l => noCell d && noCells l
def noCellF : List (Nat × D) → Bool
  | [] => true
  | (_, d) :: l => noCell d && noCellF l
end
/-- two items that are equal -/
def eqIso (P : Pg) (call : Call) (x y : D) : Bool := if flat x && flat y then eqD x y else match x with
  | .obj c _ => (match dunOf P c .eq with
    | some f => eOk P c y && noCell x && noCell y && (match call (.low f [x, y]) [] with
      | .ok (.bl true) [] => true
      | _ => false)
    | none => false)
  | _ => false
def eqsIso (P : Pg) (call : Call) : List D → List D → Bool
  | [], [] => true
  | x :: l, y :: r => eqIso P call x y && eqsIso P call l r
  | _, _ => false
/-- .. one builtin further in -/
def eqIso2 (P : Pg) (call : Call) (x y : D) : Bool := if flat x && flat y then eqD x y else match x with
  | .obj c _ => (match dunOf P c .eq with
    | some f => eOk P c y && noCell x && noCell y && (match call (.low2 f [x, y]) [] with
      | .ok (.bl true) [] => true
      | _ => false)
    | none => false)
  | _ => false
def eqsIso2 (P : Pg) (call : Call) : List D → List D → Bool
  | [], [] => true
  | x :: l, y :: r => eqIso2 P call x y && eqsIso2 P call l r
  | _, _ => false
/-- two items, tuples too -/
def eqIsoN (P : Pg) (call : Call) (x y : D) : Bool := match x, y with
  | .tup a, .tup b => eqsIso2 P call a b
  | _, _ => eqIso P call x y
def eqsIsoN (P : Pg) (call : Call) : List D → List D → Bool
  | [], [] => true
  | x :: l, y :: r => eqIsoN P call x y && eqsIsoN P call l r
  | _, _ => false
def eqDeep (P : Pg) (call : Call) (x y : D) : Bool := match x, y with
  | .tup a, .tup b => eqsIso P call a b || eqsIsoN P call a b
  | .lst a, .lst b => eqsIso P call a b || eqsIsoN P call a b
  | _, _ => false
def eqM (P : Pg) (call : Call) (x y : D) (S : Store) : Res := match okE x S, okE y S with
  | some a, some b => .ok (.bl (PyData.eqv a b)) S
  | _, _ => if eqDeep P call x y then .ok (.bl true) S else eqOwn P call x y S
def neOwn (P : Pg) (call : Call) (x y : D) (S : Store) : Res := match x with
  | .obj c _ => (match dunOf P c .eq with
    | some f => if eOk P c y then flipB (call (.low f [x, y]) S) else .bad
    | none => .bad)
  | _ => .bad
def neM (P : Pg) (call : Call) (x y : D) (S : Store) : Res := match okE x S, okE y S with
  | some a, some b => .ok (.bl !(PyData.eqv a b)) S
  | _, _ => if eqDeep P call x y then .ok (.bl false) S else neOwn P call x y S
def cmpI (op : Cop) (i j : Int) : Bool := match op with
  | .lt => decide (i < j) | .le => decide (i ≤ j) | .gt => decide (j < i) | .ge => decide (j ≤ i) | _ => false
def isOrd : Cop → Bool
  | .lt => true | .le => true | .gt => true | .ge => true | _ => false
def elems : D → Option (List D)
  | .lst l => some l | .tup l => some l | _ => none
/-- x is True, .. is False (v), is not (not v) -/
def isB (v b : Bool) (x : D) (S : Store) : Res := match x with
  | .bl a => .ok (.bl ((a == b) == v)) S
  | .non => .ok (.bl !v) S
  | .int _ => .ok (.bl !v) S
  | .str _ => .ok (.bl !v) S
  | .lst _ => .ok (.bl !v) S
  | .tup _ => .ok (.bl !v) S
  | .obj _ _ => .ok (.bl !v) S
  | _ => .bad
/-- x in y by an own __contains__ -/
def conOwn (P : Pg) (call : Call) (x y : D) (S : Store) : Res := match y with
  | .obj c fs => (match dunOf P c .con with
    | some f => asBool (call (.fn f [.obj c fs, x]) S)
    | none => .bad)
  | _ => .bad
def cmpM (P : Pg) (call : Call) (op : Cop) (x y : D) (S : Store) : Res := match op with
  | .eq => eqM P call x y S
  | .ne => neM P call x y S
  | .isin => (match elems y with
    | some l => if flat x && l.all flat then .ok (.bl (l.any fun d => eqD d x)) S else .bad
    | none => conOwn P call x y S)
  | .notin => (match elems y with
    | some l => if flat x && l.all flat then .ok (.bl !(l.any fun d => eqD d x)) S else .bad
    | none => .bad)
  | .is => (match y with
    | .bl b => isB true b x S
    | _ => .bad)
  | .isnot => (match y with
    | .bl b => isB false b x S
    | _ => .bad)
  | op => (match x with
    | .int i => (match y with
      | .int j => .ok (.bl (cmpI op i j)) S
      | _ => .bad)
    | _ => .bad)
/-- no exception -/
def noExc (r : Res) : Res := match r with
  | .exc _ _ _ => .bad
  | r => r
def attrI (P : Pg) (call : Call) (x : D) (c : Nat) (fs : List (Nat × D)) (f : Nat) (S : Store) : Res := match P.cs[c]? with
  | some ci => (match ci.prop.lookup f with
    | some g => noExc (call (.low g [x]) S)
    | none => (match fs.lookup f with
      | some d => if ci.flds.contains f then .ok d S else .bad
      | none => .bad))
  | none => .bad
def attrM (P : Pg) (call : Call) (x : D) (f : Nat) (S : Store) : Res := match x with
  | .obj c fs => attrI P call x c fs f S
  | .cell n => (match S[n]? with
    | some (.ins c fs) => attrI P call x c fs f S
    | _ => .bad)
  | _ => .bad
/-- a field of what is built -/
def selfM (P : Pg) (fr : Option (Nat × List (Nat × D))) (f : Nat) (S : Store) : Res := match fr with
  | some (c, fs) => (match P.cs[c]? with
    | some ci => (match fs.lookup f with
      | some d => if ci.flds.contains f then .ok d S else .bad
      | none => .bad)
    | none => .bad)
  | none => .bad
/-- a field of what is built is set -/
def putM (P : Pg) (fr : Option (Nat × List (Nat × D))) (f : Nat) (d : D) : Option (Nat × List (Nat × D)) := match fr with
  | some (c, fs) => (match P.cs[c]? with
    | some ci => if ci.flds.contains f && decide (fs.length < 900) then some (c, putD f d fs) else none
    | none => none)
  | none => none
def putMs (P : Pg) : Option (Nat × List (Nat × D)) → List Nat → List D → Option (Nat × List (Nat × D))
  | fr, [], [] => fr
  | fr, f :: fs, d :: ds => (match putM P fr f d with
    | some q => putMs P (some q) fs ds
    | none => none)
  | _, _, _ => none
def fill (P : Pg) (f n : Nat) (ds : List D) : Option (List D) := match P.fs[f]? with
  | some fi => if n + ds.length ≤ fi.np && fi.np ≤ n + ds.length + fi.dfl.length then some (ds ++ fi.dfl.drop (fi.dfl.length - (fi.np - (n + ds.length)))) else none
  | none => none
def callM (P : Pg) (call : Call) (f : Nat) (ds : List D) (S : Store) : Res := match fill P f 0 ds with
  | some es => call (.fn f es) S
  | none => .bad
def methI (P : Pg) (c : Nat) (fs : List (Nat × D)) (m : Nat) : Option Nat := match P.cs[c]? with
  | some ci => (match ci.meth.lookup m with
    | some g => (match fs.lookup m with
      | some _ => none
      | none => some g)
    | none => none)
  | none => none
/-- the method of a value -/
def methF (P : Pg) (x : D) (m : Nat) (S : Store) : Option Nat := match x with
  | .obj c fs => methI P c fs m
  | .cell n => (match S[n]? with
    | some (.ins c fs) => methI P c fs m
    | _ => none)
  | _ => none
def newM (P : Pg) (call : Call) (c : Nat) (ds : List D) (S : Store) : Res := match P.cs[c]? with
  | some ci => (match ci.init with
    | some f => (match fill P f 1 ds with
      | some es => call (.new c es) S
      | none => .bad)
    | none => .bad)
  | none => .bad
/-- the name of a built-in value's type -/
def tyN : D → Option String
  | .non => some "NoneType" | .bl _ => some "bool" | .int _ => some "int" | .str _ => some "str" | .lst _ => some "list" | .tup _ => some "tuple"
  | _ => none
def vtypes : List String := ["NoneType", "bool", "int", "str", "list", "tuple"]
def isTT (t n : String) : Bool := t == n || (t == "bool" && n == "int")
def isK (P : Pg) (x : D) : IK → Option Bool
  | .own c => if c < P.cs.length then (match x with
    | .obj d _ => P.cs[d]?.map fun ci => ci.anc.contains c
    | x => (tyN x).map fun _ => false) else none
  | .ty n => if vtypes.contains n then (match x with
    | .obj d _ => P.cs[d]?.map fun _ => false
    | x => (tyN x).map fun t => isTT t n) else none
def isKs (P : Pg) (x : D) : List IK → Option Bool
  | [] => some false
  | k :: r => (match isK P x k with
    | some true => some true
    | some false => isKs P x r
    | none => none)
def lenB (r : Res) : Res := match r with
  | .ok (.int i) S => if decide (0 ≤ i) && decide (i < 1000000) then .ok (.int i) S else .bad
  | _ => .bad
def biM (P : Pg) (call : Call) (b : Bi) (ds : List D) (S : Store) : Res := match b with
  | .len => (match ds with
    | [.obj c fs] => (match dunOf P c .len with
      | some f => lenB (noExc (call (.low f [.obj c fs]) S))
      | none => .bad)
    | [.str s] => if s.length ≤ lim then .ok (.int s.length) S else .bad
    | [.lst l] => .ok (.int l.length) S
    | [.tup l] => .ok (.int l.length) S
    | [.cell n] => (match S[n]? with
      | some (.lst l) => .ok (.int l.length) S
      | _ => .bad)
    | _ => .bad)
  | .abs => (match ds with
    | [.int i] => .ok (.int (if i < 0 then -i else i)) S
    | [.obj c fs] => (match dunOf P c .abs with
      | some f => noExc (call (.low f [.obj c fs]) S)
      | none => .bad)
    | _ => .bad)
  | .int => (match ds with
    | [.int i] => .ok (.int i) S
    | [.bl b] => .ok (.int (if b then 1 else 0)) S
    | _ => .bad)
  | .bool => (match ds with
    | [.int i] => .ok (.bl (i != 0)) S
    | [.bl b] => .ok (.bl b) S
    | _ => .bad)
  | .tuple => (match ds with
    | [.lst l] => .ok (.tup l) S
    | [.tup l] => .ok (.tup l) S
    | _ => .bad)
  | .list => (match ds with
    | [.lst l] => .ok (.lst l) S
    | [.tup l] => .ok (.lst l) S
    | _ => .bad)
  | .all => (match ds with
    | [.lst l] => (match l.mapM (fun d => match d with
        | .bl b => some b
        | _ => none) with
      | some bs => .ok (.bl (bs.all id)) S
      | none => .bad)
    | _ => .bad)
  | .str => (match ds with
    | [.int i] => if decide (i.natAbs.log2 < 1920) then .ok (.str (Str.ofString (toString i))) S else .bad
    | _ => .bad)
  | .gcd => (match ds with
    | [.int i, .int j] => .ok (.int (Int.gcd i j)) S
    | _ => .bad)
  | _ => .bad
def idxM (x y : D) (S : Store) : Res := match x with
  | .lst l => (match y with
    | .int i => (match L2.atI l i with
      | some d => .ok d S
      | none => .bad)
    | _ => .bad)
  | .tup l => (match y with
    | .int i => (match L2.atI l i with
      | some d => .ok d S
      | none => .bad)
    | _ => .bad)
  | .cell n => (match y with
    | .int i => (match S[n]? with
      | some (.lst l) => (match L2.atI l i with
        | some d => .ok d S
        | none => .bad)
      | _ => .bad)
    | _ => .bad)
  | _ => .bad
def cutL (l : List D) (lo hi : Option Int) : List D := (l.drop (HT.sIx l.length 0 lo)).take (HT.sIx l.length l.length hi - HT.sIx l.length 0 lo)
def isND (v : Bool) (d : D) (S : Store) : Res := match d with
  | .non => .ok (.bl v) S
  | .cell _ => .bad
  | _ => .ok (.bl !v) S
/-- a slice's part -/
def partD : D → Option (Option Int)
  | .non => some none
  | .int i => some (some i)
  | _ => none
def sliceM (x : D) (lo hi : Option Int) (S : Store) : Res := match x with
  | .lst l => .ok (.lst (cutL l lo hi)) S
  | .scr l => .ok (.lst (cutL l lo hi)) S
  | _ => .bad
def frzM (x : D) (S : Store) : Res := match x with
  | .cell n => (match S[n]? with
    | some (.lst l) => .ok (.lst l) (S.set n .dead)
    | _ => .bad)
  | _ => .bad
def appM (x y : D) (S : Store) : Res := match x with
  | .cell n => (match S[n]? with
    | some (.lst l) => if l.length < lim then .ok .non (S.set n (.lst (l ++ [y]))) else .bad
    | _ => .bad)
  | _ => .bad
def isLst (x : D) (S : Store) : Bool := match x with
  | .cell n => (match S[n]? with
    | some (.lst _) => true
    | _ => false)
  | _ => false
def setIdxM (x y d : D) (S : Store) : Option Store := match x with
  | .cell n => (match y with
    | .int i => (match S[n]? with
      | some (.lst l) => (match ixN l.length i with
        | some k => some (S.set n (.lst (l.set k d)))
        | none => none)
      | _ => none)
    | _ => none)
  | _ => none
def setAttrM (P : Pg) (x : D) (f : Nat) (d : D) (S : Store) : Option Store := match x with
  | .cell n => (match S[n]? with
    | some (.ins c fs) => (match putM P (some (c, fs)) f d with
      | some (_, fs') => some (S.set n (.ins c fs'))
      | none => none)
    | _ => none)
  | _ => none

/-- a def that is `return iter(self.f)` -/
def itF (P : Pg) (g : Nat) : Option Nat := match P.fs[g]? with
  | some fi => (match fi.body with
    | .cons (.retIt f) .nil => if fi.np = 1 then some f else none
    | _ => none)
  | none => none
/-- the items of an own value by its __iter__ -/
def itM (P : Pg) (call : Call) (x : D) (S : Store) : ResL := match call .lv S with
  | .ok _ _ => (match x with
    | .obj c fs => (match dunOf P c .iter with
      | some g => (match itF P g with
        | some f => (match attrI P (fun _ _ => .bad) (.obj c fs) c fs f S with
          | .ok (.tup l) S' => .ok l S'
          | _ => .bad)
        | none => .bad)
      | none => .bad)
    | _ => .bad)
  | _ => .bad
/-! ### targets, loops -/
def pats : Pat → List Pat
  | .cons p r => p :: pats r
  | _ => []
mutual
def putP (b : Bool) : Pat → D → List (Option D) → Option (List (Option D))
  | .slot i, d, σ => if decide (i < σ.length) && (i != 0 || !b) then some (σ.set i (some d)) else none
  | .nil, d, σ => (match elems d with
    | some [] => some σ
    | _ => none)
  | .cons p r, d, σ => (match elems d with
    | some (e :: l) => (match putP b p e σ with
      | some σ' => putPs b r l σ'
      | none => none)
    | _ => none)
def putPs (b : Bool) : Pat → List D → List (Option D) → Option (List (Option D))
  | .nil, l, σ => (match l with
    | [] => some σ
    | _ => none)
  | .cons p r, l, σ => (match l with
    | e :: l' => (match putP b p e σ with
      | some σ' => putPs b r l' σ'
      | none => none)
    | _ => none)
  | .slot _, _, _ => none
end
/-- a comprehension's turns: f says what an item gives (none: left out) -/
inductive ResO where
  | ok (d : Option D) (S : Store) | bad
def compM (f : D → Store → ResO) : List D → List D → Store → ResL
  | [], acc, S => .ok acc S
  | d :: l, acc, S => if acc.length < lim then (match f d S with
    | .ok none S' => compM f l acc S'
    | .ok (some e) S' => compM f l (acc ++ [e]) S'
    | .bad => .bad) else .bad
def forM (f : D → Fr → Store → Out) : List D → Fr → Store → Out
  | [], fr, S => .nx fr S
  | d :: l, fr, S => (match f d fr S with
    | .nx fr' S' => forM f l fr' S'
    | .cont fr' S' => forM f l fr' S'
    | .brk fr' S' => .nx fr' S'
    | o => o)
def whlM (c : Fr → Store → Res) (b : Fr → Store → Out) : Nat → Fr → Store → Out
  | 0, _, _ => .bad
  | n + 1, fr, S => (c fr S).bindO fr fun d S1 => match truth d with
    | some true => (match b fr S1 with
      | .nx fr' S' => whlM c b n fr' S'
      | .cont fr' S' => whlM c b n fr' S'
      | .brk fr' S' => .nx fr' S'
      | o => o)
    | some false => .nx fr S1
    | none => .bad
def rngL (lo : Int) (n : Nat) : List D := (List.range n).map fun k => .int (lo + (k : Nat))
def enumL : Nat → List D → List D
  | _, [] => []
  | k, d :: l => .tup [.int (k : Nat), d] :: enumL (k + 1) l
def zipL : List D → List D → List D
  | a :: l, b :: r => .tup [a, b] :: zipL l r
  | _, _ => []
/-- forget a comprehension's own names -/
def wipeD (σ : List (Option D)) : List Nat → List (Option D)
  | [] => σ
  | v :: vs => (wipeD σ vs).set v none

/-- two levels further down -/
def dnC (call : Call) : Call := fun r S => call (.dn (.dn r)) S
def atM (fs : List (Nat × D)) : At → Option D
  | .con d => if flat d then some d else none
  | .err f => fs.lookup f
def atsM (fs : List (Nat × D)) : List At → Option (List D)
  | [] => some []
  | a :: l => (match atM fs a with
    | some d => (match atsM fs l with
      | some ds => some (d :: ds)
      | none => none)
    | none => none)
def tmM (fs : List (Nat × D)) : Tm → Option D
  | .one a => atM fs a
  | .tup l => if decide (l.length < 100) then (match atsM fs l with
    | some ds => some (.tup ds)
    | none => none) else none
  | .lst l => if decide (l.length < 100) then (match atsM fs l with
    | some ds => some (.lst ds)
    | none => none) else none
def errs : List At → List Nat
  | [] => []
  | .con _ :: l => errs l
  | .err f :: l => f :: errs l
def errsT : Tm → List Nat
  | .one a => errs [a]
  | .tup l => errs l
  | .lst l => errs l
/-- the first clause for an exception of the class c -/
def pickH (P : Pg) (c : Nat) : List (Nat × Tm) → Option Tm
  | [] => none
  | p :: r => (match P.xs[c]? with
    | some xi => if decide (p.1 < P.xs.length) then (if xi.anc.contains p.1 then (if (errsT p.2).all xi.flds.contains then some p.2 else none) else pickH P c r) else none
    | none => none)
def okRes (o : Option D) (S : Store) : Res := match o with
  | some d => .ok d S
  | none => .bad
def okM (t : OkT) (d : D) : D := match t with
  | .drop => .non
  | .plain => d
  | .tag s => .tup [.str s, d]
def hearM (P : Pg) (h : HI) (r : Res) : Res := match r with
  | .ok d S => .ok (okM h.ok d) S
  | .exc c fs S => (match pickH P c h.hs with
    | some tm => okRes (tmM fs tm) S
    | none => .bad)
  | .bad => .bad
def isOk (r : Res) : Bool := match r with
  | .ok _ _ => true
  | _ => false
section
variable (P : Pg)
mutual
def evE : Call → ME → Fr → Store → Res
  | call, .var i, fr, S => (match fr.σ[i]? with
    | some (some d) => .ok d S
    | _ => .bad)
  | call, .con d, _, S => .ok d S
  | call, .glo i, _, S => (match P.gs[i]? with
    | some d => .ok d S
    | none => .bad)
  | call, .bin op a b, fr, S => (evE call a fr S).bind fun x S1 => (evE call b fr S1).bind fun y S2 => binM P call op x y S2
  | call, .neg a, fr, S => (evE call a fr S).bind fun x S1 => negM P call x S1
  | call, .not a, fr, S => (evE call a fr S).bind fun x S1 => match truth x with
    | some b => .ok (.bl !b) S1
    | none => .bad
  | call, .one a, fr, S => evE call a fr S
  | call, .and a b, fr, S => (evE call a fr S).bind fun x S1 => match truth x with
    | some true => evE call b fr S1
    | some false => .ok x S1
    | none => .bad
  | call, .or a b, fr, S => (evE call a fr S).bind fun x S1 => match truth x with
    | some true => .ok x S1
    | some false => evE call b fr S1
    | none => .bad
  | call, .cmp op a b, fr, S => (evE call a fr S).bind fun x S1 => (evE call b fr S1).bind fun y S2 => cmpM P call op x y S2
  | call, .isN a, fr, S => (evE call a fr S).bind fun x S1 => isND true x S1
  | call, .notN a, fr, S => (evE call a fr S).bind fun x S1 => isND false x S1
  | call, .chain o1 o2 a b c, fr, S => (evE call a fr S).bind fun x S1 => (evE call b fr S1).bind fun y S2 => (cmpM P call o1 x y S2).bind fun t S3 => match t with
    | .bl true => (evE call c fr S3).bind fun z S4 => cmpM P call o2 y z S4
    | .bl false => .ok (.bl false) S3
    | _ => .bad
  | call, .ife c a b, fr, S => (evE call c fr S).bind fun x S1 => match truth x with
    | some true => evE call a fr S1
    | some false => evE call b fr S1
    | none => .bad
  | call, .call f es, fr, S => (evEs call es fr S).bind fun ds S1 => callM P call f ds S1
  | call, .new c es, fr, S => (evEs call es fr S).bind fun ds S1 => newM P call c ds S1
  | call, .meth o m es, fr, S => (evE call o fr S).bind fun x S1 => match methF P x m S1 with
    | some g => (evEs call es fr S1).bind fun ds S2 => callM P call g (x :: ds) S2
    | none => .bad
  | call, .stat c m es, fr, S => (evEs call es fr S).bind fun ds S1 => match P.cs[c]?.bind fun ci => ci.stat.lookup m with
    | some g => callM P call g ds S1
    | none => .bad
  | call, .attr o f, fr, S => (evE call o fr S).bind fun x S1 => attrM P call x f S1
  | call, .self f, fr, S => selfM P fr.self f S
  | call, .bi b es, fr, S => (evEs call es fr S).bind fun ds S1 => biM P call b ds S1
  | call, .isi a ks, fr, S => (evE call a fr S).bind fun x S1 => match isKs P x ks with
    | some b => .ok (.bl b) S1
    | none => .bad
  | call, .idx a i, fr, S => (evE call a fr S).bind fun x S1 => (evE call i fr S1).bind fun y S2 => idxM x y S2
  | call, .slice a lo hi, fr, S => (evE call a fr S).bind fun x S1 => (evO call lo fr S1).bind fun l S2 => match partD l with
    | some lo => (evO call hi fr S2).bind fun h S3 => match partD h with
      | some hi => sliceM x lo hi S3
      | none => .bad
    | none => .bad
  | call, .tup es, fr, S => (evEs call es fr S).bind fun ds S1 => if ds.length < lim then .ok (.tup ds) S1 else .bad
  | call, .lst cell es, fr, S => (evEs call es fr S).bind fun ds S1 => if ds.length < lim then (if cell then .ok (.cell S1.length) (S1 ++ [.lst ds]) else .ok (.lst ds) S1) else .bad
  | call, .comp elt p own it test, fr, S => if fr.self.isSome && own.contains 0 then .bad else (evI call it fr S).bind fun l S1 =>
    (compM (fun d S2 => match putP fr.self.isSome p d (wipeD fr.σ own) with
      | some σ' => (match evT call test ⟨σ', fr.self⟩ S2 with
        | .ok (.bl true) S3 => (match evE call elt ⟨σ', fr.self⟩ S3 with
          | .ok e S4 => .ok (some e) S4
          | _ => .bad)
        | .ok (.bl false) S3 => .ok none S3
        | _ => .bad)
      | none => .bad) l [] S1).bind fun ds S2 => .ok (.lst ds) S2
  | call, .app o e, fr, S => (evE call o fr S).bind fun x S1 => if isLst x S1 then (evE call e fr S1).bind fun y S2 => appM x y S2 else .bad
  | call, .frz a, fr, S => (evE call a fr S).bind fun x S1 => frzM x S1
  | call, .kcall f es ks, fr, S => (evEs call es fr S).bind fun ds S1 => (evEs call ks fr S1).bind fun zs S2 => callM P call f (ds ++ zs) S2
  | call, .kmeth o m es ks, fr, S => (evE call o fr S).bind fun x S1 => match methF P x m S1 with
    | some g => (evEs call es fr S1).bind fun ds S2 => (evEs call ks fr S2).bind fun zs S3 => callM P call g (x :: (ds ++ zs)) S3
    | none => .bad
  | call, .heard i e, fr, S => if isOk (call (.dn .lv) S) then (match P.hi[i]? with
    | some h => hearM P h (evE (dnC call) e fr (S ++ [.dead]))
    | none => .bad) else .bad
def evEs : Call → MEs → Fr → Store → ResL
  | call, .nil, _, S => .ok [] S
  | call, .cons e r, fr, S => (evE call e fr S).bindL fun d S1 => (evEs call r fr S1).bindL fun ds S2 => .ok (d :: ds) S2
def evO : Call → MO → Fr → Store → Res
  | call, .none, _, S => .ok .non S
  | call, .some e, fr, S => (evE call e fr S)
def evT : Call → MO → Fr → Store → Res
  | call, .none, _, S => .ok (.bl true) S
  | call, .some e, fr, S => (evE call e fr S).bind fun d S1 => match truth d with
    | some b => .ok (.bl b) S1
    | none => .bad
def evI : Call → MI → Fr → Store → ResL
  | call, .ex e, fr, S => (evE call e fr S).bindL fun x S1 => match elems x with
    | some l => .ok l S1
    | none => itM P call x S1
  | call, .rng1 e, fr, S => (evE call e fr S).bindL fun x S1 => match x with
    | .int j => if decide (-1000000000 ≤ j) && decide (j ≤ 1000000000) then .ok (rngL 0 j.toNat) S1 else .bad
    | _ => .bad
  | call, .rng2 a b, fr, S => (evE call a fr S).bindL fun x S1 => (evE call b fr S1).bindL fun y S2 => match x, y with
    | .int i, .int j => if decide (-1000000000 ≤ i) && decide (i ≤ 1000000000) && decide (-1000000000 ≤ j) && decide (j ≤ 1000000000) then .ok (rngL i (j - i).toNat) S2 else .bad
    | _, _ => .bad
  | call, .enum e, fr, S => (evE call e fr S).bindL fun x S1 => match x with
    | .lst l => .ok (enumL 0 l) S1
    | _ => .bad
  | call, .zip a b, fr, S => (evE call a fr S).bindL fun x S1 => (evE call b fr S1).bindL fun y S2 => match elems x, elems y with
    | some l, some r => .ok (zipL l r) S2
    | _, _ => .bad
end
end
section
variable (P : Pg) (call : Call)
def evPar (b : Bool) (is : List Nat) (ds : List D) (σ : List (Option D)) : Option (List (Option D)) := match is, ds with
  | [], [] => some σ
  | i :: is, d :: ds => if decide (i < σ.length) && (i != 0 || !b) then evPar b is ds (σ.set i (some d)) else none
  | _, _ => none
/-- C.__init__(self, ..) of a class above -/
def iniM (P : Pg) (call : Call) (f : Nat) (ds : List D) (fr : Fr) (S1 : Store) : Out := match fr.self with
  | some (c, fs) => (match fill P f 1 ds with
    | some es => (noExc (call (.ini f c fs es) S1)).bindO fr fun d S2 => match d with
      | .obj c' fs' => if c' = c then .nx ⟨fr.σ, some (c, fs')⟩ S2 else .bad
      | _ => .bad
    | none => .bad)
  | none => .bad
/-- raise C(..) -/
def raisM (P : Pg) (x : Nat) (ds : List D) (fr : Fr) (S : Store) : Out := match P.xs[x]? with
  | some xi => if decide (xi.flds.length = ds.length) && decide (ds.length ≤ 900) && decide (0 < ds.length) then .exc x (xi.flds.zip ds).reverse fr S else .bad
  | none => .bad
mutual
def evS : MS → Fr → Store → Out
  | .asg p e, fr, S => (evE P call e fr S).bindO fr fun d S1 => match putP fr.self.isSome p d fr.σ with
    | some σ' => .nx ⟨σ', fr.self⟩ S1
    | none => .bad
  | .par is es, fr, S => (evEs P call es fr S).bindO fr fun ds S1 => match evPar fr.self.isSome is ds fr.σ with
    | some σ' => .nx ⟨σ', fr.self⟩ S1
    | none => .bad
  | .setSelf f e, fr, S => (evE P call e fr S).bindO fr fun d S1 => match putM P fr.self f d with
    | some q => .nx ⟨fr.σ, some q⟩ S1
    | none => .bad
  | .setSelfs fs e, fr, S => (evE P call e fr S).bindO fr fun d S1 => match elems d with
    | some ds => (match putMs P fr.self fs ds with
      | some q => .nx ⟨fr.σ, some q⟩ S1
      | none => .bad)
    | none => .bad
  | .setAttr o f e, fr, S => (evE P call e fr S).bindO fr fun d S1 => (evE P call o fr S1).bindO fr fun x S2 => match setAttrM P x f d S2 with
    | some S3 => .nx fr S3
    | none => .bad
  | .setIdx o i e, fr, S => (evE P call e fr S).bindO fr fun d S1 => (evE P call o fr S1).bindO fr fun x S2 => (evE P call i fr S2).bindO fr fun y S3 => match setIdxM x y d S3 with
    | some S4 => .nx fr S4
    | none => .bad
  | .expr e, fr, S => (evE P call e fr S).bindO fr fun _ S1 => .nx fr S1
  | .ini c m es, fr, S => if fr.self.isSome then (match P.cs[c]?.bind fun ci => ci.stat.lookup m with
    | some f => (evEs P call es fr S).bindO fr fun ds S1 => iniM P call f ds fr S1
    | none => .bad) else .bad
  | .ret e, fr, S => (evE P call e fr S).bindO fr fun d S1 => .ret d fr S1
  | .retN, fr, S => .ret .non fr S
  | .pass, fr, S => .nx fr S
  | .brk, fr, S => .brk fr S
  | .cont, fr, S => .cont fr S
  | .ife c a b, fr, S => (evE P call c fr S).bindO fr fun x S1 => match truth x with
    | some true => evSs a fr S1
    | some false => evSs b fr S1
    | none => .bad
  | .forr p it b, fr, S => (evI P call it fr S).bindO fr fun l S1 => forM (fun d fr S2 => match putP fr.self.isSome p d fr.σ with
    | some σ' => evSs b ⟨σ', fr.self⟩ S2
    | none => .bad) l fr S1
  | .whl c b, fr, S => whlM (fun fr S => evE P call c fr S) (fun fr S => evSs b fr S) P.fuel fr S
  | .retIt _, _, _ => .bad
  | .rais x es, fr, S => if isOk (call (.dn .lv) S) && decide (x < P.xs.length) then (evEs P call es fr S).bindO fr fun ds S1 => raisM P x ds fr S1 else .bad
  | .never, _, _ => .bad
def evSs : MSs → Fr → Store → Out
  | .nil, fr, S => .nx fr S
  | .cons s r, fr, S => (match evS s fr S with
    | .nx fr' S' => evSs r fr' S'
    | o => o)
end
end
def start (n : Nat) (ds : List (Option D)) : List (Option D) := ds ++ List.replicate (n - ds.length) none
def run (P : Pg) : Nat → Call
  | 0, _, _ => .bad
  | k + 1, .fn f ds, S => (match P.fs[f]? with
    | some fi => if ds.length = fi.np then (match evSs P (run P k) fi.body ⟨start fi.ns (ds.map some), none⟩ S with
      | .nx _ S' => .ok .non S'
      | .ret d _ S' => .ok d S'
      | .exc c fs _ S' => .exc c fs S'
      | _ => .bad) else .bad
    | none => .bad)
  | k + 1, .ini f c fs ds, S => (match P.fs[f]? with
    | some fi => if ds.length + 1 = fi.np then (match evSs P (run P k) fi.body ⟨start fi.ns (none :: ds.map some), some (c, fs)⟩ S with
      | .nx fr S' => (match fr.self with
        | some (c', fs') => .ok (.obj c' fs') S'
        | none => .bad)
      | .ret .non fr S' => (match fr.self with
        | some (c', fs') => .ok (.obj c' fs') S'
        | none => .bad)
      | .exc c fs _ S' => .exc c fs S'
      | _ => .bad) else .bad
    | none => .bad)
  | k + 1, .new c ds, S => (match P.cs[c]? with
    | some ci => (match ci.init with
      | some f => (run P k (.ini f c [] ds) S).bind fun d S1 => match d with
        | .obj c' fs => if c' = c then (if ci.frozen then .ok (.obj c fs) S1 else .bad) else .bad
        | _ => .bad
      | none => .bad)
    | none => .bad)
  | k + 1, .low f ds, S => run P k (.fn f ds) S
  | k + 1, .low2 f ds, S => run P k (.low f ds) S
  | _ + 1, .lv, S => .ok .non S
  | k + 1, .dn r, S => run P k r S
end Mi
end

section
set_option maxRecDepth 100000
/-! Mi: what is wanted behind a step; the store through new objects; calls by promises. -/
namespace Mi
open PySem PySem.Spec L2 PyProof.Rows

section
variable {T : Tb} {w w' : Wl} {H H' : Hp} {S : Store}
theorem StOk.cellH (st : StOk T w H S) {n : Nat} {a : Addr} (h : w.cs[n]? = some (some a)) : H a ≠ none := by
  have hl : n < S.length := by rw [← st.len]; exact (List.getElem?_eq_some_iff.mp h).1
  have q := st.at_ n S[n] (by simp [hl]) _ h
  intro z
  cases e : S[n] with
  | dead => rw [e] at q; cases (show some a = none from q)
  | lst ds =>
    rw [e] at q
    obtain ⟨b, vs, e1, e2, _⟩ := q
    cases e1; rw [z] at e2; cases e2
  | ins c fs =>
    rw [e] at q
    obtain ⟨b, dx, vs, e1, e2, _⟩ := q
    cases e1; rw [z] at e2; cases e2
theorem StOk.fz_new (st : StOk T w H S) {p : Addr} (hp : H p = none) : Fz w p :=
  ⟨fun n h => st.cellH h hp, fun h => (st.uxs p h).ne hp, fun h => (st.owns p h).ne hp⟩
theorem CellOk.mono {a? : Option Addr} {c : Cell} (h : CellOk T w H a? c) (m : Mono w H w' H') (k : ∀ a, a? = some a → H' a = H a) : CellOk T w' H' a? c := by
  cases c with
  | dead => exact h
  | lst ds =>
    obtain ⟨a, vs, e, h1, h2⟩ := h
    exact ⟨a, vs, e, by rw [k a e]; exact h1, h2.mono m⟩
  | ins c fs =>
    obtain ⟨a, dx, vs, e, h1, h2⟩ := h
    exact ⟨a, dx, vs, e, by rw [k a e]; exact h1, h2.mono m⟩
/-- the cells stand as they stood -/
theorem StOk.same (st : StOk T w H S) (m : Mono w H w H') (k : ∀ (n : Nat) (a : Addr), w.cs[n]? = some (some a) → H' a = H a) (t : ∀ a, Nt H a → Nt H' a) (tb : LamX.Tabs T.tbs H') : StOk T w H' S :=
  ⟨st.len, fun n c hc a? ha => (st.at_ n c hc a? ha).mono m fun a e => k n a (by rw [ha, e]), st.inj, st.dis, fun a h => t a (st.uxs a h), fun a h => t a (st.owns a h), tb⟩
theorem StOk.cellU (st : StOk T w H S) {n : Nat} {a : Addr} (h : w.cs[n]? = some (some a)) : (∃ vs, H a = some (.lst vs)) ∨ ∃ C dx vs, H a = some (.ins C dx vs) := by
  have hl : n < S.length := by rw [← st.len]; exact (List.getElem?_eq_some_iff.mp h).1
  have q := st.at_ n S[n] (by simp [hl]) _ h
  cases e : S[n] with
  | dead => rw [e] at q; cases (show some a = none from q)
  | lst ds =>
    rw [e] at q
    obtain ⟨b, vs, e1, e2, _⟩ := q
    cases e1; exact .inl ⟨vs, e2⟩
  | ins c fs =>
    rw [e] at q
    obtain ⟨b, dx, vs, e1, e2, _⟩ := q
    cases e1; exact .inr ⟨_, dx, vs, e2⟩
theorem StOk.cellN (st : StOk T w H S) {n : Nat} {a : Addr} (h : w.cs[n]? = some (some a)) : Nt H a := by
  rcases st.cellU h with ⟨vs, e⟩ | ⟨C, dx, vs, e⟩
  · exact ⟨_, e, fun _ z => by cases z⟩
  · exact ⟨_, e, fun _ z => by cases z⟩
/-- an object that is set anew -/
theorem nt_upd {a b : Addr} {o : HO} (ho : ∀ ps, o ≠ .tbl ps) (h : Nt H b) : Nt (upd H a o) b := by
  by_cases z : b = a
  · exact ⟨o, by rw [z, upd_same], ho⟩
  · obtain ⟨u, e, k⟩ := h
    exact ⟨u, by rw [upd_ne z]; exact e, k⟩
theorem nt_same {a : Addr} {o : HO} (ho : ∀ ps, o ≠ .tbl ps) : Nt (upd H a o) a := ⟨o, upd_same, ho⟩
theorem lst_nt {vs : List V} : ∀ ps, HO.lst vs ≠ .tbl ps := fun _ z => by cases z
theorem ins_nt {C dx : Addr} {vs : List (Str × V)} : ∀ ps, HO.ins C dx vs ≠ .tbl ps := fun _ z => by cases z
theorem tabs_upd {tb : List (Addr × Str)} {a : Addr} {o u : HO} (t : LamX.Tabs tb H) (h : H a = some u) (n1 : ∀ ps, u ≠ .tbl ps) (n2 : ∀ c q, u ≠ LamX.CodeO c q) : LamX.Tabs tb (upd H a o) := fun p hp => by
  obtain ⟨ps, h1, h2, h3⟩ := t p hp
  refine ⟨ps, (upd_ne fun z => ?_).trans h1, h2, fun pos cv hc => ?_⟩
  · rw [z, h] at h1; exact n1 ps (Option.some.inj h1)
  · obtain ⟨c, e1, e2⟩ := h3 pos cv hc
    exact ⟨c, e1, (upd_ne fun z => by rw [z, h] at e2; exact n2 _ _ (Option.some.inj e2)).trans e2⟩
theorem lst_code {vs : List V} (c : Addr) (q : Str) : HO.lst vs ≠ LamX.CodeO c q := fun z => by unfold LamX.CodeO at z; cases z
theorem ins_code {C dx : Addr} {vs : List (Str × V)} (c : Addr) (q : Str) : HO.ins C dx vs ≠ LamX.CodeO c q := fun z => by unfold LamX.CodeO at z; cases z
theorem StOk.tabs_cell (st : StOk T w H S) {n : Nat} {a : Addr} {o : HO} (h : w.cs[n]? = some (some a)) : LamX.Tabs T.tbs (upd H a o) := by
  rcases st.cellU h with ⟨vs, e⟩ | ⟨C, dx, vs, e⟩
  · exact tabs_upd st.tabs e (fun _ z => by cases z) lst_code
  · exact tabs_upd st.tabs e (fun _ z => by cases z) ins_code
theorem ext_new {p : Addr} {o : HO} (hp : H p = none) : Ext none w H w (upd H p o) := by
  have ne : ∀ a, H a ≠ none → a ≠ p := fun a h z => h (by rw [z]; exact hp)
  refine ⟨Nat.le_refl _, fun a u h _ _ _ => ?_, fun a ⟨u, h, k⟩ => ⟨u, ?_, k⟩, fun _ _ h => h, fun _ _ h => .inl h, fun _ h => h, rfl, rfl⟩
  · rw [upd_ne (ne a (by rw [h]; exact fun z => nomatch z))]; exact h
  · rw [upd_ne (ne a (by rw [h]; exact fun z => nomatch z))]; exact h
theorem StOk.new {p : Addr} {o : HO} (st : StOk T w H S) (hp : H p = none) : StOk T w (upd H p o) S :=
  st.same ((ext_new hp).mono (.inl rfl)) (fun n a h => upd_ne fun z => st.cellH h (by rw [z]; exact hp)) (ext_new (w := w) (o := o) hp).there (st.tabs.ext fun b u h => (upd_ne (fun z => by rw [z, hp] at h; cases h)).trans h)
end

/-- an exception, told -/
def ExcOk (T : Tb) (w : Wl) (H : Hp) (cls : Value) (dd : Option Addr) (c : Nat) (fs : List (Nat × D)) : Prop :=
  cls = .ref (T.xa c) ∧ ((fs = [] ∧ dd = none) ∨ ∃ dx vs, dd = some dx ∧ H dx = some (.xd vs) ∧ Fz w dx ∧ RepF T w H vs fs)
def SelfOk (T : Tb) (w : Wl) (H : Hp) (σ : L2.St) : Option (Nat × List (Nat × D)) → Prop
  | none => w.own = none
  | some (c, fs) => ∃ x dx vs, w.own = some x ∧ σ[0]? = some (some (.ref x)) ∧ H x = some (.ins (T.ca c) dx vs) ∧ RepF T w H vs fs
structure FrOk (T : Tb) (w : Wl) (H : Hp) (σ : L2.St) (fr : Fr) : Prop where
  len : fr.σ.length = σ.length
  slot : ∀ (i : Nat) (d : D), fr.σ[i]? = some (some d) → ∃ v, σ[i]? = some (some v) ∧ Rep T w H v d
  self : SelfOk T w H σ fr.self
theorem FrOk.mono {T : Tb} {w w' : Wl} {H H' : Hp} {σ : L2.St} {fr : Fr} (f : FrOk T w H σ fr) (e : Ext none w H w' H') (st : StOk T w H S) : FrOk T w' H' σ fr := by
  refine ⟨f.len, fun i d h => ?_, ?_⟩
  · obtain ⟨v, h1, h2⟩ := f.slot i d h
    exact ⟨v, h1, h2.mono (e.mono (.inl rfl))⟩
  · have q := f.self
    cases hs : fr.self with
    | none => rw [hs] at q; exact e.own.trans q
    | some p =>
      obtain ⟨c, fs⟩ := p
      rw [hs] at q
      obtain ⟨x, dx, vs, h1, h2, h3, h4⟩ := q
      exact ⟨x, dx, vs, e.own.trans h1, h2, e.keep x _ h3 (fun n z => (st.dis n x z).2 h1) (fun z => nomatch z) (.inl fun _ z => by cases z), h4.mono (e.mono (.inl rfl))⟩

def PostE (T : Tb) (Wx : WX) (w : Wl) (σ : L2.St) (H : Hp) (r : Res) (Q : VK) : Prop := match r with
  | .ok d S' => ∀ v w' H', Ext none w H w' H' → Rep T w' H' v d → StOk T w' H' S' → Q v H'
  | .exc c fs S' => ∀ cls dd w' H', Ext none w H w' H' → ExcOk T w' H' cls dd c fs → StOk T w' H' S' → Wx cls dd σ H'
  | .bad => False
def PostL (T : Tb) (Wx : WX) (w : Wl) (σ : L2.St) (H : Hp) (r : ResL) (Q : List V → Hp → Prop) : Prop := match r with
  | .ok ds S' => ∀ vs w' H', Ext none w H w' H' → Reps T w' H' vs ds → StOk T w' H' S' → Q vs H'
  | .exc c fs S' => ∀ cls dd w' H', Ext none w H w' H' → ExcOk T w' H' cls dd c fs → StOk T w' H' S' → Wx cls dd σ H'
  | .bad => False
abbrev Mir := Fr → Store → Res
abbrev MirL := Fr → Store → ResL
def tE (T : Tb) (Wx : WX) (m : Mir) : TE := fun σ H Q => ∃ w fr S, FrOk T w H σ fr ∧ StOk T w H S ∧ PostE T Wx w σ H (m fr S) Q
def tL (T : Tb) (Wx : WX) (m : MirL) : TA := fun σ H Q => ∃ w fr S, FrOk T w H σ fr ∧ StOk T w H S ∧ PostL T Wx w σ H (m fr S) Q
section
variable {T : Tb} {Wx : WX} {w w1 : Wl} {σ : L2.St} {H H1 : Hp} {Q Q' : VK} {S : Store}
theorem PostE.imp {r : Res} (h : PostE T Wx w σ H r Q) (hq : ∀ v H', Q v H' → Q' v H') : PostE T Wx w σ H r Q' := by
  cases r with
  | ok d S => exact fun v w' H' e rv st => hq v H' (h v w' H' e rv st)
  | exc c fs S => exact h
  | bad => exact h
/-- what is wanted later, wanted from a later state on -/
theorem PostE.later {r : Res} (e : Ext none w H w1 H1) (h : PostE T Wx w σ H r Q) : PostE T Wx w1 σ H1 r Q := by
  cases r with
  | ok d S => exact fun v w' H' e' rv st => h v w' H' (e.trans e') rv st
  | exc c fs S => exact fun cls dd w' H' e' rv st => h cls dd w' H' (e.trans e') rv st
  | bad => exact h
theorem PostL.later {r : ResL} {Q : List V → Hp → Prop} (e : Ext none w H w1 H1) (h : PostL T Wx w σ H r Q) : PostL T Wx w1 σ H1 r Q := by
  cases r with
  | ok d S => exact fun v w' H' e' rv st => h v w' H' (e.trans e') rv st
  | exc c fs S => exact fun cls dd w' H' e' rv st => h cls dd w' H' (e.trans e') rv st
  | bad => exact h
theorem post_bind {r : Res} {k : D → Store → Res} (h : PostE T Wx w σ H (r.bind k) Q) : PostE T Wx w σ H r (fun v H1 => ∃ w1 d S1, Ext none w H w1 H1 ∧ Rep T w1 H1 v d ∧ StOk T w1 H1 S1 ∧ r = .ok d S1 ∧ PostE T Wx w1 σ H1 (k d S1) Q) := by
  cases r with
  | ok d S => exact fun v w' H' e rv st => ⟨w', d, S, e, rv, st, rfl, PostE.later e h⟩
  | exc c fs S => exact h
  | bad => exact h
theorem post_bindL {r : Res} {k : D → Store → ResL} {Q : List V → Hp → Prop} (h : PostL T Wx w σ H (r.bindL k) Q) : PostE T Wx w σ H r (fun v H1 => ∃ w1 d S1, Ext none w H w1 H1 ∧ Rep T w1 H1 v d ∧ StOk T w1 H1 S1 ∧ r = .ok d S1 ∧ PostL T Wx w1 σ H1 (k d S1) Q) := by
  cases r with
  | ok d S => exact fun v w' H' e rv st => ⟨w', d, S, e, rv, st, rfl, PostL.later e h⟩
  | exc c fs S => exact h
  | bad => exact h
theorem postL_bind {r : ResL} {k : List D → Store → Res} (h : PostE T Wx w σ H (r.bind k) Q) : PostL T Wx w σ H r (fun vs H1 => ∃ w1 ds S1, Ext none w H w1 H1 ∧ Reps T w1 H1 vs ds ∧ StOk T w1 H1 S1 ∧ r = .ok ds S1 ∧ PostE T Wx w1 σ H1 (k ds S1) Q) := by
  cases r with
  | ok d S => exact fun v w' H' e rv st => ⟨w', d, S, e, rv, st, rfl, PostE.later e h⟩
  | exc c fs S => exact h
  | bad => exact h
theorem postL_bindL {r : ResL} {k : List D → Store → ResL} {Q : List V → Hp → Prop} (h : PostL T Wx w σ H (r.bindL k) Q) : PostL T Wx w σ H r (fun vs H1 => ∃ w1 ds S1, Ext none w H w1 H1 ∧ Reps T w1 H1 vs ds ∧ StOk T w1 H1 S1 ∧ r = .ok ds S1 ∧ PostL T Wx w1 σ H1 (k ds S1) Q) := by
  cases r with
  | ok d S => exact fun v w' H' e rv st => ⟨w', d, S, e, rv, st, rfl, PostL.later e h⟩
  | exc c fs S => exact h
  | bad => exact h
/-- the value as it is -/
theorem post_ok {d : D} {v : V} (h : PostE T Wx w σ H (.ok d S) Q) (r : Rep T w H v d) (st : StOk T w H S) : Q v H := h v w H Ext.refl r st
/-- a new object at p -/
theorem post_new {d : D} {p : Addr} {o : HO} (h : PostE T Wx w σ H (.ok d S) Q) (st : StOk T w H S) (hp : H p = none) (r : Rep T w (upd H p o) (.ref p) d) : Q (.ref p) (upd H p o) :=
  h (.ref p) w _ (ext_new hp) r (st.new hp)
/-- two steps: a, then what k makes of it -/
theorem tE_bind {m : Mir} {k : D → Mir} (h : tE T Wx (fun fr S => (m fr S).bind fun d S1 => k d fr S1) σ H Q) :
    tE T Wx m σ H (fun v H1 => ∃ w1 fr d S1, FrOk T w1 H1 σ fr ∧ StOk T w1 H1 S1 ∧ Rep T w1 H1 v d ∧ PostE T Wx w1 σ H1 (k d fr S1) Q) := by
  obtain ⟨w, fr, S, f, st, p⟩ := h
  refine ⟨w, fr, S, f, st, (post_bind p).imp fun v H1 ⟨w1, d, S1, e, r, st1, _, q⟩ => ⟨w1, fr, d, S1, f.mono e st, st1, r, q⟩⟩
end

/-! ### the program's levels -/
def PostF (T : Tb) (w : Wl) (H : Hp) (r : Res) (Q : VK) (E : XK) : Prop := PostE T (fun c d _ H' => E c d H') w [] H r Q
def spF (T : Tb) (P : Pg) (k f : Nat) : Sp := fun vs H Q E => ∃ w S ds es, w.own = none ∧ StOk T w H S ∧ Reps T w H vs ds ∧ fill P f 0 ds = some es ∧ PostF T w H (run P k (.fn f es) S) Q E
/-- .. of an __init__: the first is what is built -/
def PostI (T : Tb) (w : Wl) (H : Hp) (x : Addr) (r : Res) (Q : VK) (E : XK) : Prop := match r with
  | .ok d S' => (∀ w' H' c fs dx vs, d = .obj c fs → Ext (some x) w H w' H' → H' x = some (.ins (T.ca c) dx vs) → RepF T w' H' vs fs → StOk T w' H' S' → Q .non H') ∧ ∃ c fs, d = .obj c fs
  | .exc c fs S' => ∀ cls dd w' H', Ext (some x) w H w' H' → ExcOk T w' H' cls dd c fs → StOk T w' H' S' → E cls dd H'
  | .bad => False
def spI (T : Tb) (P : Pg) (k f : Nat) : Sp := fun vs H Q E => ∃ w S x us ds es c fs dx fv, vs = .ref x :: us ∧ w.own = some x ∧ StOk T w H S ∧ Reps T w H us ds ∧ fill P f 1 ds = some es ∧
  H x = some (.ins (T.ca c) dx fv) ∧ RepF T w H fv fs ∧ PostI T w H x (run P k (.ini f c fs es) S) Q E
/-- at it an iterator over the tuple at a, at its start -/
def tiObj (a : Addr) : Obj := { cls := .type "tuple_iterator", data := .fields #[.ref a, .int 0 0] }
def ItOt (a it : Addr) : HO := .ext fun h => h.get? it = some (tiObj a)
/-- the def g gives an iterator over its value's field f, a tuple -/
def ItR (T : Tb) (P : Pg) (prog : Program) (wd : World) (mg : Str → Option Value) (base : Heap) (k g f : Nat) : Prop :=
  ∀ (A : Around) (outer : List Env) (s : Shared) (H : Hp) (x : V) (u : Value) (w : Wl) (S S' : Store) (c : Nat) (fs : List (Nat × D)) (l : List D),
    Room k A → Env0 prog wd T.K mg base A outer s H → RelV x u → w.own = none → StOk T w H S → Rep T w H x (.obj c fs) → attrI P (fun _ _ => .bad) (.obj c fs) c fs f S = .ok (.tup l) S' →
    codeAny (model prog wd) A (.call (.ref (T.fa g)) ⟨[u], []⟩) (CR (CX prog wd) outer prog wd H s (fun v H' => ∃ (it a : Addr) (vs : List V) (w1 : Wl) (H1 : Hp),
      v = .ref it ∧ s.heap.objs.size ≤ it ∧ Ext none w H w1 H1 ∧ StOk T w1 H1 S' ∧ H' = upd H1 it (ItOt a it) ∧ H1 it = none ∧ ((H1 a = some (.tup vs) ∧ Fz w1 a) ∨ KTup T.K a vs) ∧ Reps T w1 H1 vs l) (fun _ _ _ => False)) s
/-- a promise by values some of which are given by keyword, in the parameters' order -/
def FnRK (P : Program) (w : World) (K : PySem.W.Frag) (mg : Str → Option Value) (base : Heap) (CX : CXT) (k : Nat) (f : Addr) (pn : List Str) (sp : Sp) : Prop :=
  ∀ (A : Around) (outer : List Env) (s : Shared) (H : Hp) (us ws : List Value) (vs : List V) (Q : VK) (E : XK), Room k A → Env0 P w K mg base A outer s H → us.length + ws.length ≤ pn.length → Vals vs (us ++ ws) → sp vs H Q E →
    codeAny (model P w) A (.call (.ref f) ⟨us, ((pn.drop us.length).take ws.length).zip ws⟩) (CR CX outer P w H s Q E) s
structure Lv (T : Tb) (P : Pg) (prog : Program) (wd : World) (mg : Str → Option Value) (base : Heap) (k : Nat) : Prop where
  fn : ∀ f, f < P.fs.length → FnR prog wd T.K mg base (CX prog wd) k (T.fa f) (spF T P k f)
  ini : ∀ f, f < P.fs.length → FnR prog wd T.K mg base (CX prog wd) k (T.fa f) (spI T P k f)
  fnk : ∀ f, f < P.fs.length → FnRK prog wd T.K mg base (CX prog wd) k (T.fa f) (T.pn f) (spF T P k f)
  it : ∀ g f, 0 < k → itF P g = some f → ItR T P prog wd mg base k g f
end Mi
end

section
set_option maxRecDepth 100000
/-! Mi: operators of own classes, at the library's level. -/
namespace Mi
open PySem PySem.W PySem.Calls PyProof.Rows Builtin
section
variable {prog : Program} {w : World} {A : Around} {E : Value → Shared → Prop} {s : Shared} {K : Frag} {x C C2 L f f2 : Addr} {h₀ : Heap} {m : Str → Option Value} {ox : Obj} {od : Option Obj} {nm : String}
/-- x op b, both of own classes, unlike ones, both with the operator -/
theorem binop_two {op : Operator} {b : Value} {rc rc2 : Option Value} {Q : Value → Shared → Prop} (X : K.In s.heap) (I : InstAt s.heap x ox C od) (hb : Looks (model prog w) s.heap (typeOf b) (.ref C2)) (hc : selfFirst K C = true) (hc2 : selfFirst K C2 = true) (hne : C ≠ C2)
    (hs : findIn K (.ref C) (PySem.dunder op.info.2) = some (some (.ref f))) (hf : isFn K (.ref f) = true) (hr : findIn K (.ref C) (dunderR op.info.2) = some rc) (hp : rc = none ∨ ∃ g : Addr, rc = some (.ref g))
    (hs2 : findIn K (.ref C2) (PySem.dunder op.info.2) = some (some (.ref f2))) (hr2 : findIn K (.ref C2) (dunderR op.info.2) = some rc2) (hp2 : rc2 = none ∨ ∃ g : Addr, rc2 = some (.ref g)) (hsub : subIn K (.ref C2) (.ref C) = some false)
    (h : wpAny (model prog w) A (call (.ref f) [.ref x, b]) (PySem.W.CmpBack Q) E s) : wpAny (model prog w) A (binaryOp op (.ref x) b) Q E s := by
  obtain ⟨cd, rest, hcd, hm⟩ := ksp_first hc
  obtain ⟨cd2, rest2, hcd2, hm2⟩ := ksp_first hc2
  rcases hi : op.info with ⟨sym, nm'⟩
  rw [hi] at hs hr hs2 hr2
  dsimp only at hs hr hs2 hr2
  have one := ksp_try X I hs hf h
  obtain ⟨hh, g, d, tt, os⟩ := s
  have L1 : Looks (model prog w) hh (typeOf (.ref x)) (.ref C) := I.type
  have L2 : Looks (model prog w) hh (typeOf b) (.ref C2) := hb
  have L3 : Looks (model prog w) hh (fillsNumberSlot (.ref C) nm') true := fills_K X hcd hm hs
  have L4 : Looks (model prog w) hh (fillsNumberSlot (.ref C2) nm') true := fills_K X hcd2 hm2 hs2
  have L5 : Looks (model prog w) hh (isSubtype (.ref C2) (.ref C)) false := looks_subIn X hsub
  have L6 : Looks (model prog w) hh (numberSlotInPython (.ref C) nm') true := ksp_inPy X hs hr hp
  have L7 : Looks (model prog w) hh (numberSlotInPython (.ref C2) nm') true := ksp_inPy X hs2 hr2 hp2
  have hn : (Value.ref C == Value.ref C2) = false := Bool.eq_false_iff.mpr fun q => by cases beq_iff_eq.mp q; exact hne rfl
  simp only [binaryOp, hi]
  refine wpAny_holding (wpAny_bind ?_)
  unfold binaryOp1
  refine wpAny_bind (L1.at (wpAny_bind (L2.at (wpAny_bind (L3.at ?_)))))
  simp only [hn, Bool.false_eq_true, if_false]
  ksp_lk
  refine wpAny_mono one (fun r s' hr' => ?_) fun _ _ e => e
  obtain ⟨v, rfl, hq⟩ := hr'
  ksp_lk
  exact hq
/-- x op b, b of a built-in type -/
theorem binop_bt {op : Operator} {b : Value} {fo ro rc : Option Value} {T : String} {Q : Value → Shared → Prop} (X : K.In s.heap) (I : InstAt s.heap x ox C od) (hb : Looks (model prog w) s.heap (typeOf b) (.type T)) (hc : selfFirst K C = true)
    (hs : findIn K (.ref C) (PySem.dunder op.info.2) = some (some (.ref f))) (hf : isFn K (.ref f) = true) (hr : findIn K (.ref C) (dunderR op.info.2) = some rc) (hp : rc = none ∨ ∃ g : Addr, rc = some (.ref g))
    (h1 : findIn K (.type T) (PySem.dunder op.info.2) = some fo) (h2 : findIn K (.type T) (dunderR op.info.2) = some ro) (hsub : subIn K (.type T) (.ref C) = some false)
    (h : wpAny (model prog w) A (call (.ref f) [.ref x, b]) (PySem.W.CmpBack Q) E s) : wpAny (model prog w) A (binaryOp op (.ref x) b) Q E s := by
  obtain ⟨cd, rest, hcd, hm⟩ := ksp_first hc
  rcases hi : op.info with ⟨sym, nm'⟩
  rw [hi] at hs hr h1 h2
  dsimp only at hs hr h1 h2
  have one := ksp_try X I hs hf h
  obtain ⟨hh, g, d, tt, os⟩ := s
  have L1 : Looks (model prog w) hh (typeOf (.ref x)) (.ref C) := I.type
  have L2 : Looks (model prog w) hh (typeOf b) (.type T) := hb
  have L3 : Looks (model prog w) hh (fillsNumberSlot (.ref C) nm') true := fills_K X hcd hm hs
  have L4 : Looks (model prog w) hh (fillsNumberSlot (.type T) nm') ((fo.isSome && !isSeqSlot fo) || (ro.isSome && !isSeqSlot ro)) := ksp_fillsT X h1 h2
  have L5 : Looks (model prog w) hh (isSubtype (.type T) (.ref C)) false := looks_subIn X hsub
  have L6 : Looks (model prog w) hh (numberSlotInPython (.ref C) nm') true := ksp_inPy X hs hr hp
  have L7 : Looks (model prog w) hh (numberSlotInPython (.type T) nm') false := Looks.of_pure rfl
  have L8 : Looks (model prog w) hh (typeLookup (.type T) (dunderR nm')) ro := looks_findIn X h2
  generalize ((fo.isSome && !isSeqSlot fo) || (ro.isSome && !isSeqSlot ro)) = right at L4
  have hne : (Value.ref C == Value.type T) = false := Bool.eq_false_iff.mpr fun q => by cases beq_iff_eq.mp q
  simp only [binaryOp, hi]
  refine wpAny_holding (wpAny_bind ?_)
  unfold binaryOp1
  refine wpAny_bind (L1.at (wpAny_bind (L2.at (wpAny_bind (L3.at ?_)))))
  simp only [hne, Bool.false_eq_true, if_false]
  cases right with
  | false =>
    ksp_lk
    refine wpAny_mono one (fun r s' hr' => ?_) fun _ _ e => e
    obtain ⟨v, rfl, hq⟩ := hr'
    ksp_lk
    exact hq
  | true =>
    ksp_lk
    refine wpAny_mono one (fun r s' hr' => ?_) fun _ _ e => e
    obtain ⟨v, rfl, hq⟩ := hr'
    ksp_lk
    exact hq
/-- x op b of one own class, without the frame's words -/
theorem binop_one {op : Operator} {b : Value} {Q : Value → Shared → Prop} (X : K.In s.heap) (I : InstAt s.heap x ox C od) (hb : Looks (model prog w) s.heap (typeOf b) (.ref C)) (hc : selfFirst K C = true)
    (hs : findIn K (.ref C) (PySem.dunder op.info.2) = some (some (.ref f))) (hf : isFn K (.ref f) = true)
    (h : wpAny (model prog w) A (call (.ref f) [.ref x, b]) (PySem.W.CmpBack Q) E s) : wpAny (model prog w) A (binaryOp op (.ref x) b) Q E s := by
  obtain ⟨cd, hcd, hm⟩ := any_some hc
  obtain ⟨rest, hm⟩ : ∃ rest, cd.mro = .ref C :: rest := by
    cases q : cd.mro with
    | nil => rw [q] at hm; cases hm
    | cons a r => rw [q] at hm; exact ⟨r, by rw [List.head?_cons] at hm; cases (beq_iff_eq.mp hm); rfl⟩
  unfold binaryOp
  refine wpAny_holding (wpAny_bind ?_)
  unfold binaryOp1
  refine wpAny_bind (I.type.here (wpAny_bind (hb.here (wpAny_bind ((fills_K X hcd hm hs).here ?_)))))
  simp only [beq_self_eq_true, if_true]
  refine wpAny_bind (wpAny_pure ?_)
  simp only [Bool.and_false, Bool.false_eq_true, if_false, Bool.false_and]
  refine wpAny_bind (wpAny_pure ?_)
  simp only [Bool.false_eq_true, if_false]
  refine wpAny_bind (m := tryMethod (.ref x) _ b) ?_
  unfold tryMethod
  refine wpAny_bind (special_fn X I hs (beq_iff_eq.mp hf) (wpAny_mono h (fun v s' hv => ?_) fun _ _ e => e))
  cases v <;> first | exact hv.elim | exact wpAny_pure (wpAny_pure (wpAny_pure hv))

/-- x != b by object's != and an own == -/
theorem ne_own {b tb : Value} {Q : Value → Shared → Prop} (hu : A.units + 1 < cLine) (X : K.In s.heap) (I : InstAt s.heap x ox C od) (hb : Looks (model prog w) s.heap (typeOf b) tb) (hn : notFirst K C tb = true)
    (hs : findIn K (.ref C) "__ne__" = some (some (.builtin "object.__ne__"))) (he : findIn K (.ref C) "__eq__" = some (some (.ref f))) (hf : isFn K (.ref f) = true) (hob : mroIn K C (.type "object") = some true)
    (h : wpAny (model prog w) A.in1 (call (.ref f) [.ref x, b]) (fun v s' => ∃ k, v = .bool k ∧ Q (.bool (!k)) s') E s) : wpAny (model prog w) A (richCompare .NotEq (.ref x) b) Q E s := by
  have sub : Looks (model prog w) s.heap (isInstance (.ref x) (.type "object")) true := I.type.andThen (looks_mroIn X hob)
  have one : wpAny (model prog w) A (tryCompare (.ref x) "__ne__" b) (fun r s' => ∃ v, r = some v ∧ Q v s') E s := by
    unfold tryCompare
    refine wpAny_bind ?_
    simp only [callSpecialIfBound?, bindSpecialIfBound?]
    refine wpAny_holding (wpAny_bind (wpAny_bind (wpAny_bind (I.type.here ((looks_findIn X hs).here ?_)))))
    simp only [F.cmp_object.ne.bind]
    refine wpAny_bind (wpAny_askSetting (wpAny_ite ?_))
    have go : wpAny (model prog w) A (call (.builtin "object.__ne__") ([.ref x] ++ [b])) (fun v s' => v ≠ .notImplemented ∧ Q v s') E s := by
      obtain ⟨hh, g, d, tt, os⟩ := s
      refine wpAny_call (codeAny_call_builtin F.cmp_object.ne.plain F.cmpEntry_ne (@check_slot (model prog w) _ _ ⟨hh, g, d, tt, os⟩ "object.__ne__" "object" "__ne__" (.ref x) [b] [] _ F.cmpKind_ne F.cmpSplit_ne sub (F.cmpArgs_ne (.ref x) b) ?_))
      unfold Builtin.«object.__ne__»
      have hc : wpAny (model prog w) A.in1 (callSpecialIfBound? (.ref x) "__eq__" [b]) (fun r s' => ∃ k, r = some (.bool k) ∧ Q (.bool (!k)) s') E ⟨hh, g, d, tt, os⟩ :=
        ifBound_K X I he hf (wpAny_mono h (fun v s' ⟨k, e, q⟩ => ⟨k, by rw [e], q⟩) fun _ _ z => z)
      repeat (first
        | with_reducible refine wpAny_cRoomFor (A := A.in1) (show A.in1.units < cLine from hu) ?_
        | (refine wpAny_bind (m := callSpecialIfBound? (.ref x) (Str.ofString "__eq__") [b]) (wpAny_mono hc (fun r s' hr => ?_) fun _ _ e => e); obtain ⟨k, rfl, hq⟩ := hr)
        | (refine wpAny_bind (m := truthy (.bool _)) (wpAny_truthy_bool ?_))
        | wp_step)
      first
        | exact ⟨(fun z => nomatch z), hq⟩
        | (show wants _ _ _ _; exact ⟨(fun z => nomatch z), hq⟩)
    have fin : wpAny (model prog w) A (call (.builtin "object.__ne__") ([.ref x] ++ [b]) >>= fun v => pure (some v)) (fun r s' => wpAny (model prog w) A (match r with
      | some .notImplemented | none => pure none
      | some v => pure (some v)) (fun r s' => ∃ v, r = some v ∧ Q v s') E s') E s :=
      wpAny_bind (wpAny_mono go (fun v s' ⟨n, q⟩ => wpAny_pure (by cases v <;> first | exact absurd rfl n | exact wpAny_pure ⟨_, rfl, q⟩)) fun _ _ z => z)
    split
    · exact wpAny_bind (wpAny_pure (wpAny_pure (by exact fin)))
    · exact wpAny_tryCatch (wpAny_bind (wpAny_pure (wpAny_pure (by exact fin))))
  unfold richCompare
  simp only [oneThing_ref]
  refine wpAny_holding (wpAny_bind (wpAny_cRoomFor (Nat.lt_of_succ_lt hu) ?_))
  refine wpAny_bind (I.type.here (wpAny_bind (hb.here ?_)))
  split
  · rename_i q
    have e : subIn K tb (.ref C) = some false := by
      rcases Bool.or_eq_true_iff.mp hn with e | e
      · rw [beq_iff_eq.mp e] at q; simp at q
      · exact beq_iff_eq.mp e
    refine wpAny_bind ((looks_subIn X e).here ?_)
    simp only [Bool.false_eq_true, if_false]
    refine wpAny_bind (wpAny_mono one (fun r s' z => ?_) fun _ _ e => e)
    obtain ⟨v, rfl, hq⟩ := z
    exact wpAny_pure hq
  · refine wpAny_bind (wpAny_pure ?_)
    simp only [Bool.false_eq_true, if_false]
    refine wpAny_bind (wpAny_mono one (fun r s' z => ?_) fun _ _ e => e)
    obtain ⟨v, rfl, hq⟩ := z
    exact wpAny_pure hq
/-- b in x by an own __contains__ -/
theorem con_own {b : Value} {Q : Bool → Shared → Prop} (X : K.In s.heap) (I : InstAt s.heap x ox C od) (hs : findIn K (.ref C) "__contains__" = some (some (.ref f))) (hf : isFn K (.ref f) = true)
    (h : wpAny (model prog w) A (call (.ref f) [.ref x, b]) (fun v s' => ∃ k, v = .bool k ∧ Q k s') E s) : wpAny (model prog w) A (contains (.ref x) b) Q E s := by
  unfold contains
  refine wpAny_holding ?_
  refine wpAny_bind (wpAny_bind (I.type.here ((looks_findIn X hs).here ?_)))
  show wpAny (model prog w) A (if (some (Value.ref f) == some Value.none) = true then _ else _) Q E s
  rw [if_neg (by simp)]
  have go : wpAny (model prog w) A (callSpecialUnlessNone? (.ref x) "__contains__" [b] (do rule "in.none"; raiseError "TypeError" s!"'{← typeNameOf (.ref x)}' object is not a container")) (fun r s' => ∃ k, r = some (.bool k) ∧ Q k s') E s := by
    simp only [callSpecialUnlessNone?]
    refine wpAny_bind (wpAny_bind (I.type.here ((looks_findIn X hs).here ?_)))
    refine wpAny_holding (wpAny_bind ((bind_fn X _ (beq_iff_eq.mp hf)).here ?_))
    show wpAny (model prog w) A (if (Value.ref f == Value.none) = true then _ else _) _ E s
    rw [if_neg (by simp)]
    exact wpAny_bind (wpAny_mono h (fun v s' ⟨k, e, q⟩ => wpAny_pure ⟨k, by rw [e], q⟩) fun _ _ z => z)
  refine wpAny_bind (wpAny_mono go (fun r s' ⟨k, e, q⟩ => ?_) fun _ _ z => z)
  subst e
  exact wpAny_truthy_bool q
end
end Mi
end

section
set_option maxRecDepth 100000
set_option maxHeartbeats 1000000
/-! Mi: what the written part must hold; calls; operations by values. -/
namespace Mi
open PySem PySem.Spec L2 PyProof.Rows

/-- a plain class of one's own -/
structure ClsK (K : PySem.W.Frag) (C : Addr) : Prop where
  cls : Cls K C
  ca : PySem.W.findIn K (.ref C) "__class__" = some (some (.builtin "object.__class__"))
  cn : PySem.W.specialIn K (.builtin "object.__class__") "__get__" = some (some (.builtin "getset_descriptor.__get__"))
  ct : PySem.W.takesIn K (.builtin "object.__class__") = some true
  cm : PySem.W.mroIn K C (.type "object") = some true
  sf : PySem.W.selfFirst K C = true
def dunS : Dun → Str
  | .add => "__add__" | .sub => "__sub__" | .mul => "__mul__" | .neg => "__neg__" | .eq => "__eq__" | .bool => "__bool__" | .len => "__len__" | .abs => "__abs__" | .str => "__str__" | .con => "__contains__" | .iter => "__iter__"
/-- the reflected name of an operator -/
def opOf : Dun → Option Operator
  | .add => some .Add | .sub => some .Sub | .mul => some .Mult | _ => none
structure DunK (K : PySem.W.Frag) (C : Addr) (u : Dun) (f : Addr) : Prop where
  at_ : PySem.W.findIn K (.ref C) (dunS u) = some (some (.ref f))
  fn : PySem.W.isFn K (.ref f) = true
  refl : ∀ op, opOf u = some op → PySem.W.findIn K (.ref C) (dunderR op.info.2) = some none
  ne : u = .eq → PySem.W.findIn K (.ref C) "__ne__" = some (some (.builtin "object.__ne__"))
/-- C.m, a def of the class (or a static method) -/
structure ClsFn (K : PySem.W.Frag) (C : Addr) (m : Str) (g : Addr) : Prop where
  rd : ∃ mc, ClX.CRead K C mc ∧ (PySem.W.findCls K (.ref C) mc m = some (.val (.ref g)) ∨ ∃ p rest, PySem.W.findCls K (.ref C) mc m = some (.get (.builtin "staticmethod.__get__") (.ref p) .none (.ref C)) ∧ PySem.W.recIn K p "staticmethod" = some (.ref g :: rest))
  kp : PySem.W.keepIn K (.ref g) = true
structure KOk (T : Tb) (P : Pg) : Prop where
  nd : T.nm.Nodup
  cls : ∀ c, c < P.cs.length → ClsK T.K (T.ca c)
  inj : ∀ c d, c < P.cs.length → d < P.cs.length → T.ca c = T.ca d → c = d
  noat : ∀ c ci f, P.cs[c]? = some ci → f ∈ ci.flds → ∃ x, T.nm[f]? = some x ∧ NoAttr T.K (T.ca c) x
  meth : ∀ c ci m g, P.cs[c]? = some ci → ci.meth.lookup m = some g → g < P.fs.length ∧ ∃ x, T.nm[m]? = some x ∧ Meth T.K (T.ca c) x (T.fa g)
  stat : ∀ c ci m g, P.cs[c]? = some ci → ci.stat.lookup m = some g → g < P.fs.length ∧ ∃ x, T.nm[m]? = some x ∧ ClsFn T.K (T.ca c) x (T.fa g)
  prop : ∀ c ci f g, P.cs[c]? = some ci → ci.prop.lookup f = some g → g < P.fs.length ∧ ∃ x p, T.nm[f]? = some x ∧ PropOf T.K (T.ca c) x p (T.fa g)
  dun : ∀ c ci u g, P.cs[c]? = some ci → ci.dun.lookup u = some g → g < P.fs.length ∧ DunK T.K (T.ca c) u (T.fa g)
  init : ∀ c ci f, P.cs[c]? = some ci → ci.init = some f → f < P.fs.length ∧ Mk T.K (T.ca c) (T.fa f)
  bt : ∀ u op t, opOf u = some op → t ∈ vtypes → (∃ fo, PySem.W.findIn T.K (.type t) (PySem.dunder op.info.2) = some fo) ∧ ∃ ro, PySem.W.findIn T.K (.type t) (dunderR op.info.2) = some ro
  kp : ∀ f, f < P.fs.length → PySem.W.keepIn T.K (.ref (T.fa f)) = true
  isa : ∀ c ci d, P.cs[c]? = some ci → d < P.cs.length → PySem.W.kitOne T.K (.ref (T.ca c)) (.ref (T.ca d)) = some (ci.anc.contains d)
  ist : ∀ c n, c < P.cs.length → n ∈ vtypes → PySem.W.kitOne T.K (.ref (T.ca c)) (.type n) = some false
  isv : ∀ t d, t ∈ vtypes → d < P.cs.length → PySem.W.kitOne T.K (.type t) (.ref (T.ca d)) = some false
  subT : ∀ t d, t ∈ vtypes → d < P.cs.length → PySem.W.subIn T.K (.type t) (.ref (T.ca d)) = some false
  /-- what stands right of an own == is of no class below -/
  nf : ∀ c ci d, P.cs[c]? = some ci → d < P.cs.length → (P.cs[d]?.all fun di => !di.anc.contains c || decide (c = d)) = true → PySem.W.notFirst T.K (T.ca c) (.ref (T.ca d)) = true
  subC : ∀ c ci d, P.cs[c]? = some ci → d < P.cs.length → (P.cs[d]?.all fun di => !di.anc.contains c) = true → PySem.W.subIn T.K (.ref (T.ca d)) (.ref (T.ca c)) = some false

structure Cn (T : Tb) (P : Pg) (k : Nat) (Wx : WX) (X : Cx) : Prop where
  K : X.K = T.K
  calm : X.calm = true
  tk : Takes X Wx
  room : Room k X.A
  lv : Lv T P X.prog X.w X.mg X.base k
  lw : ∀ j, k = j + 1 → Lv T P X.prog X.w X.mg X.base j
  lw2 : ∀ j, k = j + 2 → Lv T P X.prog X.w X.mg X.base j
  low : ∀ j, j < k → Lv T P X.prog X.w X.mg X.base j
  ko : KOk T P

/-! ### worlds within -/
def Wl.inner (w : Wl) : Wl := ⟨w.cs, w.own.toList ++ w.ux, none⟩
def Wl.outer (w1 w : Wl) : Wl := ⟨w1.cs, w.ux, w.own⟩
theorem fz_inner {w : Wl} {a : Addr} : Fz w.inner a ↔ Fz w a := by
  unfold Fz Wl.inner
  cases h : w.own with
  | none => simp
  | some b =>
    simp only [Option.toList, List.cons_append, List.nil_append, List.mem_cons, not_or, ne_eq, Option.some.injEq, reduceCtorEq, not_false_eq_true, and_true]
    constructor
    · rintro ⟨h1, h2, h3⟩; exact ⟨h1, h3, fun z => h2 z.symm⟩
    · rintro ⟨h1, h2, h3⟩; exact ⟨h1, fun z => h3 z.symm, h2⟩
section
variable {T : Tb} {w w1 : Wl} {H H' : Hp} {S : Store}
theorem mono_inner : Mono w H w.inner H := ⟨fun _ _ _ h f => ⟨h, fz_inner.mpr f⟩, fun _ _ h => .inl h, fun _ h => h⟩
theorem StOk.inner (st : StOk T w H S) : StOk T w.inner H S := by
  refine ⟨st.len, fun n c hc a? ha => (st.at_ n c hc a? ha).mono mono_inner fun _ _ => rfl, st.inj, fun n a h => ⟨?_, fun z => nomatch z⟩, fun a ha => ?_, fun a h => (nomatch h), st.tabs⟩
  · obtain ⟨d1, d2⟩ := st.dis n a h
    show a ∉ w.own.toList ++ w.ux
    intro z
    rcases List.mem_append.mp z with z | z
    · exact d2 (by cases q : w.own with
        | none => rw [q] at z; cases z
        | some b => rw [q] at z; simp at z; rw [z])
    · exact d1 z
  · rcases List.mem_append.mp (show a ∈ w.own.toList ++ w.ux from ha) with z | z
    · cases q : w.own with
      | none => rw [q] at z; cases z
      | some b => rw [q] at z; simp at z; subst z; exact st.owns _ q
    · exact st.uxs a z
theorem fz_outer (e1 : w1.ux = w.inner.ux) (e2 : w1.own = none) {a : Addr} : Fz w1 a ↔ Fz (w1.outer w) a := by
  have e : w1 = (w1.outer w).inner := by
    obtain ⟨c, u, o⟩ := w1
    simp only [Wl.inner, Wl.outer] at e1 e2 ⊢
    rw [e1, e2]
  rw [show Fz w1 a ↔ Fz (w1.outer w).inner a by rw [← e]]
  exact fz_inner
theorem mono_outer (e1 : w1.ux = w.inner.ux) (e2 : w1.own = none) : Mono w1 H w1 H → Mono w1 H (w1.outer w) H := fun _ => ⟨fun _ _ _ h f => ⟨h, (fz_outer e1 e2).mp f⟩, fun _ _ h => .inl h, fun _ h => h⟩
theorem mono_refl : Mono w H w H := ⟨fun _ _ _ h f => ⟨h, f⟩, fun _ _ h => .inl h, fun _ h => h⟩
theorem Ext.outer (e : Ext none w.inner H w1 H') : Ext none w H (w1.outer w) H' := ⟨e.len, e.keep, e.there, e.fresh, e.cell, e.dead, rfl, rfl⟩
theorem StOk.outer (st : StOk T w1 H' S) (e : Ext none w.inner H w1 H') (own : ∀ a, w.own = some a → Nt H a) : StOk T (w1.outer w) H' S := by
  have e1 := e.ux
  have e2 : w1.own = none := e.own
  refine ⟨st.len, fun n c hc a? ha => (st.at_ n c hc a? ha).mono (mono_outer e1 e2 mono_refl) fun _ _ => rfl, st.inj, fun n a h => ?_, fun a ha => ?_, fun a h => e.there a (own a h), st.tabs⟩
  · have q := (st.dis n a h).1
    rw [e1] at q
    refine ⟨fun z => q (List.mem_append_right _ z), fun z => q (List.mem_append_left _ ?_)⟩
    show a ∈ w.own.toList
    rw [show w.own = some a from z]; simp
  · refine st.uxs a ?_
    rw [e1]
    exact List.mem_append_right _ ha
theorem post_inner {Wx : WX} {σ : L2.St} {r : Res} {Q : VK} (h : PostE T Wx w σ H r Q) (st : StOk T w H S) : PostF T w.inner H r Q (fun c d H' => Wx c d σ H') := by
  cases r with
  | ok d S' => exact fun v w' H' e rv st' => h v (w'.outer w) H' e.outer (rv.mono (mono_outer e.ux e.own mono_refl)) (st'.outer e st.owns)
  | exc c fs S' =>
    intro cls dd w' H' e ex st'
    refine h cls dd (w'.outer w) H' e.outer ⟨ex.1, ?_⟩ (st'.outer e st.owns)
    rcases ex.2 with q | ⟨dx, vs, q1, q2, q3, q4⟩
    · exact .inl q
    · exact .inr ⟨dx, vs, q1, q2, (fz_outer e.ux e.own).mp q3, q4.mono (mono_outer e.ux e.own mono_refl)⟩
  | bad => exact h
end

section
variable {T : Tb} {P : Pg} {k : Nat} {Wx : WX} {X : Cx} {pins : List (Addr × Obj)} {σ : L2.St} {H : Hp} {s : Shared} {Q : VK} {w : Wl} {S : Store} {us : List Value} {vs : List V} {ds : List D}
/-- a promise used from a body, at the body's place or one builtin further in -/
theorem call_at {A : Around} {j : Nat} {g : Addr} {sp : Sp} (tk : Takes X Wx) (F : FnR X.prog X.w X.K X.mg X.base (CX X.prog X.w) j g sp) (hr : Room j A) (e0 : Env0 X.prog X.w X.K X.mg X.base A X.stack s H) (I : Inv X pins σ H s) (r : Vals vs us) (h : sp vs H Q (fun c d H' => Wx c d σ H')) :
    codeAny (model X.prog X.w) A (.call (.ref g) ⟨us, []⟩) (fun r s' => match r with | .ok (.ret v) => EP X pins σ Q v s' | .ok _ => False | .error e => X.xe e s') s := by
  refine codeAny_mono (F A X.stack s H us vs Q _ hr e0 r h) fun r s' hq => ?_
  cases r with
  | error e => exact tk e s' (XE.of_call I (fun cls d H' h => h) hq)
  | ok fl =>
    cases fl with
    | ret u => exact I.after hq
    | next => exact False.elim hq
    | brk => exact False.elim hq
    | cont => exact False.elim hq
theorem fn_some {f : Nat} {es : List D} {n : Nat} (h : fill P f n ds = some es) : f < P.fs.length := by
  unfold fill at h
  cases q : P.fs[f]? with
  | none => rw [q] at h; cases h
  | some fi => exact (List.getElem?_eq_some_iff.mp q).1
theorem call_fn (cn : Cn T P k Wx X) {f : Nat} {es : List D} (I : Inv X pins σ H s) (r : Vals vs us) (st : StOk T w H S) (rs : Reps T w H vs ds) (hf : fill P f 0 ds = some es) (h : PostE T Wx w σ H (run P k (.fn f es) S) Q) :
    wpAny (model X.prog X.w) X.A (call (.ref (T.fa f)) us) (EP X pins σ Q) X.xe s := by
  have F := cn.lv.fn f (fn_some hf)
  rw [← cn.K] at F
  exact wpAny_call (call_at cn.tk F cn.room I.env0 I r ⟨w.inner, S, ds, es, rfl, st.inner, rs.mono mono_inner, hf, post_inner h st⟩)
theorem call_fnk (cn : Cn T P k Wx X) {f : Nat} {es : List D} {zs : List Value} (I : Inv X pins σ H s) (hl : us.length + zs.length ≤ (T.pn f).length) (r : Vals vs (us ++ zs)) (st : StOk T w H S) (rs : Reps T w H vs ds) (hf : fill P f 0 ds = some es) (h : PostE T Wx w σ H (run P k (.fn f es) S) Q) :
    wpAny (model X.prog X.w) X.A (call (.ref (T.fa f)) us ((((T.pn f).drop us.length).take zs.length).zip zs)) (EP X pins σ Q) X.xe s := by
  have F := cn.lv.fnk f (fn_some hf)
  rw [← cn.K] at F
  refine wpAny_call (codeAny_mono (F X.A X.stack s H us zs vs Q _ cn.room I.env0 hl r ⟨w.inner, S, ds, es, rfl, st.inner, rs.mono mono_inner, hf, post_inner h st⟩) fun r s' hq => ?_)
  cases r with
  | error e => exact cn.tk e s' (XE.of_call I (fun cls d H' h => h) hq)
  | ok fl =>
    cases fl with
    | ret u => exact I.after hq
    | next => exact False.elim hq
    | brk => exact False.elim hq
    | cont => exact False.elim hq
theorem call_low (cn : Cn T P k Wx X) {f : Nat} {es : List D} (I : Inv X pins σ H s) (r : Vals vs us) (st : StOk T w H S) (rs : Reps T w H vs ds) (hf : fill P f 0 ds = some es) (h : PostE T Wx w σ H (run P k (.low f es) S) Q) :
    codeAny (model X.prog X.w) X.A.in1 (.call (.ref (T.fa f)) ⟨us, []⟩) (fun r s' => match r with | .ok (.ret v) => EP X pins σ Q v s' | .ok _ => False | .error e => X.xe e s') s := by
  cases k with
  | zero => exact h.elim
  | succ j =>
    have F := (cn.lw j rfl).fn f (fn_some hf)
    rw [← cn.K] at F
    exact call_at cn.tk F cn.room.in1 I.env0.in1 I r ⟨w.inner, S, ds, es, rfl, st.inner, rs.mono mono_inner, hf, post_inner h st⟩
theorem call_low2 (cn : Cn T P k Wx X) {f : Nat} {es : List D} (I : Inv X pins σ H s) (r : Vals vs us) (st : StOk T w H S) (rs : Reps T w H vs ds) (hf : fill P f 0 ds = some es) (h : PostE T Wx w σ H (run P k (.low2 f es) S) Q) :
    codeAny (model X.prog X.w) X.A.in1.in1 (.call (.ref (T.fa f)) ⟨us, []⟩) (fun r s' => match r with | .ok (.ret v) => EP X pins σ Q v s' | .ok _ => False | .error e => X.xe e s') s := by
  cases k with
  | zero => exact h.elim
  | succ j =>
    cases j with
    | zero => exact h.elim
    | succ i =>
      have F := (cn.lw2 i rfl).fn f (fn_some hf)
      rw [← cn.K] at F
      exact call_at cn.tk F cn.room.in1.in1 I.env0.in1.in1 I r ⟨w.inner, S, ds, es, rfl, st.inner, rs.mono mono_inner, hf, post_inner h st⟩
theorem call_new (cn : Cn T P k Wx X) {c f : Nat} {ci : CI} {es : List D} (I : Inv X pins σ H s) (r : Vals vs us) (st : StOk T w H S) (rs : Reps T w H vs ds) (hc : P.cs[c]? = some ci) (hi : ci.init = some f) (hf : fill P f 1 ds = some es) (h : PostE T Wx w σ H (run P k (.new c es) S) Q) :
    wpAny (model X.prog X.w) X.A (call (.ref (T.ca c)) us) (EP X pins σ Q) X.xe s := by
  cases k with
  | zero => exact h.elim
  | succ j =>
    obtain ⟨hfl, M⟩ := cn.ko.init c ci f hc hi
    have F := (cn.lw j rfl).ini f hfl
    rw [← cn.K] at F M
    have hx0 : H (s.heap.objs.size + 1) = none := I.hok.fresh (Nat.le_succ _)
    have hd0 : H s.heap.objs.size = none := I.hok.fresh (Nat.le_refl _)
    have nxd : s.heap.objs.size ≠ s.heap.objs.size + 1 := Nat.ne_of_lt (Nat.lt_succ_self _)
    have I2 := Inv.made (C := T.ca c) I
    generalize hx : s.heap.objs.size + 1 = x at *
    generalize hdx : s.heap.objs.size = dx at *
    generalize hH2 : upd (upd H dx (.own x)) x (.ins (T.ca c) dx []) = H2 at *
    have old : ∀ a u, H a = some u → H2 a = some u := by
      intro a u ha
      rw [← hH2, upd_ne (fun z => by rw [z, hx0] at ha; cases ha), upd_ne (fun z => by rw [z, hd0] at ha; cases ha)]; exact ha
    have old0 : ∀ a, Nt H a → Nt H2 a := fun a ⟨u, e, k⟩ => ⟨u, old a u e, k⟩
    have hX : H2 x = some (.ins (T.ca c) dx []) := by rw [← hH2, upd_same]
    have xc : ∀ n : Nat, w.cs[n]? ≠ some (some x) := fun n z => st.cellH z hx0
    have xu : x ∉ w.ux := fun z => (st.uxs x z).ne hx0
    have xo : w.own ≠ some x := fun z => (st.owns x z).ne hx0
    generalize hw2 : (⟨w.cs, w.own.toList ++ w.ux, some x⟩ : Wl) = w2
    have mem_own : ∀ a, a ∈ w.own.toList → w.own = some a := by
      intro a ha
      cases q : w.own with
      | none => rw [q] at ha; cases ha
      | some b => rw [q] at ha; simp at ha; rw [ha]
    have m2 : Mono w H w2 H2 := by
      subst hw2
      refine ⟨fun a u _ ha hf => ⟨old a u ha, hf.1, fun z => ?_, fun z => ?_⟩, fun _ _ h => .inl h, fun _ h => h⟩
      · rcases List.mem_append.mp z with z | z
        · exact hf.2.2 (mem_own a z)
        · exact hf.2.1 z
      · cases z; rw [hx0] at ha; cases ha
    have st2 : StOk T w2 H2 S := by
      subst hw2
      refine ⟨st.len, fun n cc hcc a? ha => (st.at_ n cc hcc a? ha).mono m2 fun a ea => ?_, st.inj, fun n a ha => ⟨fun z => ?_, fun z => ?_⟩, fun a ha => ?_, fun a ha => ?_, st.tabs.ext old⟩
      · subst ea
        cases q : H a with
        | none => exact absurd q (st.cellH ha)
        | some u => exact old a u q
      · rcases List.mem_append.mp z with z | z
        · exact (st.dis n a ha).2 (mem_own a z)
        · exact (st.dis n a ha).1 z
      · cases z; exact xc n ha
      · rcases List.mem_append.mp ha with z | z
        · exact old0 a (st.owns a (mem_own a z))
        · exact old0 a (st.uxs a z)
      · cases ha; exact ⟨_, hX, ins_nt⟩
    have r2 : Vals (V.ref x :: vs) (Value.ref x :: us) := .cons rfl r
    have hsp : spI T P j f (V.ref x :: vs) H2 (fun v H3 => v = .non ∧ Q (.ref x) H3) (fun cc d H' => Wx cc d σ H') := by
      refine ⟨w2, S, x, vs, ds, es, c, [], dx, [], rfl, by rw [← hw2], st2, rs.mono m2, hf, hX, .nil, ?_⟩
      have h' : PostE T Wx w σ H ((run P j (.ini f c [] es) S).bind fun d S1 => match d with
        | .obj c' fs => if c' = c then (if ci.frozen then .ok (.obj c fs) S1 else .bad) else .bad
        | _ => .bad) Q := by
        have := h
        simp only [run, hc, hi] at this
        exact this
      -- from here on outwards
      have out : ∀ {w' : Wl} {H' : Hp}, Ext (some x) w2 H2 w' H' → Ext none w H (w'.outer w) H' ∧ Mono w' H' (w'.outer w) H' ∧ (∀ n : Nat, w'.cs[n]? ≠ some (some x)) ∧ ∀ S1, StOk T w' H' S1 → StOk T (w'.outer w) H' S1 := by
        intro w' H' e
        have hux : w'.ux = w.own.toList ++ w.ux := by rw [e.ux, ← hw2]
        have hcs : w2.cs = w.cs := by rw [← hw2]
        have m : Mono w' H' (w'.outer w) H' := by
          refine ⟨fun a u _ ha hf => ⟨ha, hf.1, fun z => hf.2.1 (by rw [hux]; exact List.mem_append_right _ z), fun z => hf.2.1 (by rw [hux]; exact List.mem_append_left _ (by show a ∈ w.own.toList; rw [show w.own = some a from z]; simp))⟩, fun _ _ h => .inl h, fun _ h => h⟩
        refine ⟨⟨by have := e.len; rw [hcs] at this; exact this, fun a u ha hn _ nt => ?_, fun a ha => e.there a (old0 a ha), fun a ha hn => e.fresh a (old0 a ha) (by rw [hcs]; exact hn), by rw [← hcs]; exact e.cell, by rw [← hcs]; exact e.dead, rfl, rfl⟩, m, e.fresh x ⟨_, hX, ins_nt⟩ (by rw [hcs]; exact xc), fun S1 st1 => ?_⟩
        · exact e.keep a u (old a u ha) (by rw [hcs]; exact hn) (fun z => by cases z; rw [hx0] at ha; cases ha) (nt.imp id fun q => by rw [hcs]; exact q)
        · refine ⟨st1.len, fun n cc hcc a? ha => (st1.at_ n cc hcc a? ha).mono m fun _ _ => rfl, st1.inj, fun n a ha => ⟨fun z => (st1.dis n a ha).1 (by rw [hux]; exact List.mem_append_right _ z), fun z => (st1.dis n a ha).1 (by rw [hux]; exact List.mem_append_left _ (by show a ∈ w.own.toList; rw [show w.own = some a from z]; simp))⟩, fun a ha => st1.uxs a (by rw [hux]; exact List.mem_append_right _ ha), fun a ha => e.there a (old0 a (st.owns a ha)), st1.tabs⟩
      cases hr : run P j (.ini f c [] es) S with
      | ok d S1 =>
        rw [hr] at h'
        cases d with
        | obj c' fs =>
          have h2 : PostE T Wx w σ H (if c' = c then (if ci.frozen then .ok (.obj c fs) S1 else .bad) else .bad) Q := h'
          split at h2
          · rename_i hcc
            subst hcc
            split at h2
            · refine ⟨fun w' H' c2 fs2 dx2 vs2 ed e hx2 rf st' => ?_, _, _, rfl⟩
              cases ed
              obtain ⟨e1, m1, nc, so⟩ := out e
              exact ⟨rfl, h2 (.ref x) (w'.outer w) H' e1 (.obj hx2 ⟨nc, xu, xo⟩ (rf.mono m1)) (so S1 st')⟩
            · exact h2.elim
          · exact h2.elim
        | _ => exact h'.elim
      | exc cc fs S1 =>
        rw [hr] at h'
        intro cls dd w' H' e ex st'
        obtain ⟨e1, m1, nc, so⟩ := out e
        refine h' cls dd (w'.outer w) H' e1 ⟨ex.1, ?_⟩ (so S1 st')
        rcases ex.2 with q | ⟨dx', vs', q1, q2, q3, q4⟩
        · exact .inl q
        · exact .inr ⟨dx', vs', q1, q2, (m1.fz dx' _ (fun _ z => by cases z) q2 q3).2, q4.mono m1⟩
      | bad => rw [hr] at h'; exact h'.elim
    subst hx; subst hdx
    refine wpAny_call (make_map (f := T.fa f) I.kIn M.makes M.init (beq_iff_eq.mp M.fn) (codeAny_mono (F _ X.stack _ _ (Value.ref (s.heap.objs.size + 1) :: us) _ _ _ (cn.room.make (T.ca c) us []) (I2.env0.make (T.ca c) us []) r2 hsp) fun r s' hq' => ?_))
    cases r with
    | error e => exact cn.tk e s' (XE.of_call I2 (fun cls d H' h => h) hq')
    | ok fl =>
      cases fl with
      | ret u =>
        obtain ⟨v, H', I3, rv, ev, q3⟩ := I2.after hq'
        subst ev
        exact ⟨rv, ⟨V.ref (s.heap.objs.size + 1), H', I3, rfl, q3⟩⟩
      | next => exact False.elim hq'
      | brk => exact False.elim hq'
      | cont => exact False.elim hq'
end

/-! ### operations by values, with the slots -/
abbrev R2S := L2.St → V → V → Hp → VK → Prop
def OpS (X : Cx) (f : Value → Value → Sem Value) (r : R2S) : Prop :=
  ∀ (pins : List (Addr × Obj)) (s : Shared) (σ : L2.St) (H : Hp) (x y : V) (v u : Value) (Q : VK), Inv X pins σ H s → RelV x v → RelV y u → r σ x y H Q →
    wpAny (model X.prog X.w) X.A (f v u) (EP X pins σ Q) X.xe s
def UnS (X : Cx) (f : Value → Sem Value) (r : L2.St → V → Hp → VK → Prop) : Prop :=
  ∀ (pins : List (Addr × Obj)) (s : Shared) (σ : L2.St) (H : Hp) (x : V) (v : Value) (Q : VK), Inv X pins σ H s → RelV x v → r σ x H Q →
    wpAny (model X.prog X.w) X.A (f v) (EP X pins σ Q) X.xe s
def CallS (X : Cx) (f : Value) (r : L2.St → List V → Hp → VK → Prop) : Prop :=
  ∀ (pins : List (Addr × Obj)) (s : Shared) (σ : L2.St) (H : Hp) (xs : List V) (us : List Value) (Q : VK), Inv X pins σ H s → Vals xs us → r σ xs H Q →
    wpAny (model X.prog X.w) X.A (call f us) (EP X pins σ Q) X.xe s
/-- what is asked of two values in the mirror's words -/
def r2 (T : Tb) (Wx : WX) (g : D → D → Store → Res) : R2S := fun σ x y H Q => ∃ w S dx dy, StOk T w H S ∧ Rep T w H x dx ∧ Rep T w H y dy ∧ PostE T Wx w σ H (g dx dy S) Q
def r1 (T : Tb) (Wx : WX) (g : D → Store → Res) : L2.St → V → Hp → VK → Prop := fun σ x H Q => ∃ w S dx, StOk T w H S ∧ Rep T w H x dx ∧ PostE T Wx w σ H (g dx S) Q
def rL (T : Tb) (Wx : WX) (g : List D → Store → Res) : L2.St → List V → Hp → VK → Prop := fun σ xs H Q => ∃ w S ds, StOk T w H S ∧ Reps T w H xs ds ∧ PostE T Wx w σ H (g ds S) Q
theorem _root_.L2.OpR.at {X : Cx} {f : Value → Value → Sem Value} {r : R2} (h : OpR X f r) {pins : List (Addr × Obj)} {s : Shared} {σ : L2.St} {H : Hp} {x y : V} {v u : Value} {Q : VK} (I : Inv X pins σ H s) (rx : RelV x v) (ry : RelV y u) (q : r x y H Q) :
    wpAny (model X.prog X.w) X.A (f v u) (EP X pins σ Q) X.xe s := h pins s σ H x y v u Q I rx ry q
section
variable {T : Tb} {P : Pg} {k : Nat} {Wx : WX} {X : Cx} {pins : List (Addr × Obj)} {σ : L2.St} {H : Hp} {s : Shared} {Q : VK} {w : Wl} {S : Store}
theorem post_flat {d : D} {v : V} (h : PostE T Wx w σ H (.ok d S) Q) (r : Rep T w H v d) (st : StOk T w H S) : Q v H := post_ok h r st
/-- // by any divisor but 0 -/
def CDivS (_ j : Int) : Prop := j ≠ 0 ∧ j.natAbs.log2 < 9000
theorem op_fdivS : OpR X (binaryOp .FloorDiv) (rI CDivS fun i j => .int (i.fdiv j)) := opI fun i j _ _ _ _ _ hc q =>
  floordiv_int hc.1 q (.inl (PyProof.noPylong_of_log2 hc.2))
theorem sz_log2 {i : Int} (h : Sz i = true) : i.natAbs.log2 ≤ 8000 := by
  unfold Sz at h
  have h1 : i.natAbs < big := by
    have := Nat.ble_eq.mp h
    exact this
  unfold big at h1
  rcases Nat.eq_zero_or_pos i.natAbs with z | z
  · rw [z]; decide
  · exact Nat.le_of_lt ((Nat.log2_lt (Nat.ne_of_gt z)).mpr h1)
theorem sz_mul {i j : Int} (hi : Sz i = true) (hj : Sz j = true) : CMulW i j := by
  have a := sz_log2 hi
  have b := sz_log2 hj
  show i.natAbs.log2 + j.natAbs.log2 < 1000000
  omega
theorem mu_ok {i j : Int} (h : Mu i j = true) : IntMulOk i j := by
  have sm : ∀ x : Int, Nat.blt x.natAbs (2 ^ 60) = true → Builtin.Int.intBits x ≤ 64 := fun x hx => by
    have h1 : x.natAbs < 2 ^ 60 := Nat.ble_eq.mp hx
    exact intBits_le_64 (by omega) (by omega)
  rcases Bool.or_eq_true_iff.mp h with h | h
  · exact IntMulOk.of_left (sm _ h)
  · rcases Bool.or_eq_true_iff.mp h with h | h
    · exact IntMulOk.of_right (sm _ h)
    · have q := Bool.and_eq_true_iff.mp h
      exact (sz_mul q.1 q.2).ok
theorem op_mulA : OpR X (binaryOp .Mult) (rI IntMulOk fun i j => .int (i * j)) := opI fun _ _ _ _ _ _ _ hc q => mul_int q hc
theorem bt {a b : Bool} (h : (a && b) = true) : a = true ∧ b = true := Bool.and_eq_true_iff.mp h
/-- the instance that bears an object -/
theorem inst_at (I : Inv X pins σ H s) {a C dx : Addr} {fs : List (Str × V)} (h : H a = some (.ins C dx fs)) : ∃ od, PySem.W.InstAt s.heap a (PySem.W.instObj C dx) C (some od) ∧ (∀ name, fs.lookup name = none → PySem.W.lookIn name od = some none) := by
  obtain ⟨mA, O, r, _, _, _⟩ := ins_get I.hok h
  obtain ⟨od, J, hl⟩ := O.look
  exact ⟨od, J, fun name e => by
    have hn : mA name = none := RelO.none_of (by rw [← e]; exact r name)
    rw [hl, hn]⟩
theorem cmpback {Q : Value → Shared → Prop} {v : V} {u : Value} {s' : Shared} (r : RelV v u) (h : Q u s') : PySem.W.CmpBack Q u s' := by
  cases v with
  | non => cases (show u = Value.none from r); exact h
  | bl b => cases (show u = Value.bool b from r); exact h
  | int i => obtain ⟨t, e⟩ := (show ∃ t, u = Value.int i t from r); cases e; exact h
  | str x => obtain ⟨t, e⟩ := (show ∃ t, u = Value.str x t from r); cases e; exact h
  | byt b => obtain ⟨t, e⟩ := (show ∃ t, u = Value.bytes b t from r); cases e; exact h
  | flt b => obtain ⟨t, e⟩ := (show ∃ t, u = Value.float b t from r); cases e; exact h
  | ref a => cases (show u = Value.ref a from r); exact h
  | ty n => cases (show u = Value.type n from r); exact h
theorem ep_back {u : Value} {s' : Shared} (h : EP X pins σ Q u s') : PySem.W.CmpBack (EP X pins σ Q) u s' := by
  obtain ⟨v, H', I', r, q⟩ := h
  exact cmpback r ⟨v, H', I', r, q⟩
/-- the type of what is borne -/
def tyD (T : Tb) : D → Option Value
  | .non => some (.type "NoneType") | .bl _ => some (.type "bool") | .int _ => some (.type "int") | .str _ => some (.type "str")
  | .lst _ => some (.type "list") | .tup _ => some (.type "tuple") | .obj c _ => some (.ref (T.ca c))
  | _ => none
theorem tyx_of (ko : KOk T P) {x : V} {d : D} {t : Value} (r : Rep T w H x d) (h : tyD T d = some t) (hc : ∀ c fs, d = .obj c fs → c < P.cs.length) : TyX T.K H x t := by
  cases r with
  | non => cases h; exact .base .non
  | bl b => cases h; exact .base (.bl b)
  | int i => cases h; exact .base (.int i)
  | str z => cases h; exact .base (.str z)
  | ty n => cases h
  | lst rd f rs =>
    cases h
    exact .base (.lst rd)
  | lstK kl rs =>
    cases h
    obtain ⟨o, its, n, e, c, _⟩ := kl
    exact .kList e c
  | tup rd f rs =>
    cases h
    exact .base (.tup rd)
  | tupK kl rs =>
    cases h
    obtain ⟨o, its, n, e, c, _⟩ := kl
    exact .kTuple e c
  | obj q f rs =>
    cases h
    have kc := ko.cls _ (hc _ _ rfl)
    exact .base (.ins q kc.cls kc.ca kc.cn kc.ct kc.cm)
  | cell _ => cases h
  | dead _ => cases h
  | fn f => cases h
  | cls c => cases h
  | scr _ _ => cases h
theorem looks_ty (ko : KOk T P) (hK : X.K = T.K) (I : Inv X pins σ H s) {x : V} {u : Value} {d : D} {t : Value} (r : Rep T w H x d) (rx : RelV x u) (h : tyD T d = some t) (hc : ∀ c fs, d = .obj c fs → c < P.cs.length) : PySem.W.Looks (model X.prog X.w) s.heap (typeOf u) t := by
  have ty := tyx_of ko r h hc
  rw [← hK] at ty
  obtain ⟨Pr, Z, p, _⟩ := kit_of I rx ty
  exact Z.ty _ _ I.kIn p
end
end Mi
end

section
set_option maxRecDepth 100000
set_option maxHeartbeats 1000000
/-! Mi: the operators. -/
namespace Mi
open PySem PySem.Spec L2 PyProof.Rows

def bopO : Bop → Operator
  | .add => .Add | .sub => .Sub | .mul => .Mult | .fdiv => .FloorDiv | .mod => .Mod | .pow => .Pow
def copO : Cop → CmpOp
  | .eq => .Eq | .ne => .NotEq | .lt => .Lt | .le => .LtE | .gt => .Gt | .ge => .GtE | .isin => .In | .notin => .NotIn | .is => .Is | .isnot => .IsNot
section
variable {T : Tb} {P : Pg} {k : Nat} {Wx : WX} {X : Cx} {pins : List (Addr × Obj)} {σ : L2.St} {H : Hp} {s : Shared} {Q : VK} {w : Wl} {S : Store}
theorem sq_lst {a : Addr} {vs : List V} (h : H a = some (.lst vs)) : SqL X.K H a vs := .inl (.inl h)
theorem sq_tup {a : Addr} {vs : List V} (h : H a = some (.tup vs)) : SqT X.K H a vs := .inl (.inl h)
theorem Rep.lstI {x : V} {ds : List D} (r : Rep T w H x (.lst ds)) : ∃ a vs, x = .ref a ∧ SqL T.K H a vs ∧ Reps T w H vs ds := by
  cases r with
  | lst h f rs => exact ⟨_, _, rfl, .inl (.inl h), rs⟩
  | lstK h rs =>
    obtain ⟨o, its, n, h1, h2, h3, h4, h5, h6, _⟩ := h
    exact ⟨_, _, rfl, .inr ⟨o, its, n, h1, h2, h3, h4, h5, h6⟩, rs⟩
theorem Rep.tupI {x : V} {ds : List D} (r : Rep T w H x (.tup ds)) : ∃ a vs, x = .ref a ∧ SqT T.K H a vs ∧ Reps T w H vs ds := by
  cases r with
  | tup h f rs => exact ⟨_, _, rfl, .inl (.inl h), rs⟩
  | tupK h rs => exact ⟨_, _, rfl, .inr h, rs⟩
theorem Rep.intI {x : V} {i : Int} (r : Rep T w H x (.int i)) : x = .int i := by cases r; rfl
theorem Rep.strI {x : V} {i : Str} (r : Rep T w H x (.str i)) : x = .str i := by cases r; rfl
theorem Rep.blI {x : V} {i : Bool} (r : Rep T w H x (.bl i)) : x = .bl i := by cases r; rfl
theorem Rep.nonI {x : V} (r : Rep T w H x .non) : x = .non := by cases r; rfl
theorem Rep.objI {x : V} {c : Nat} {fs : List (Nat × D)} (r : Rep T w H x (.obj c fs)) : ∃ a dx vs, x = .ref a ∧ H a = some (.ins (T.ca c) dx vs) ∧ Fz w a ∧ RepF T w H vs fs := by
  cases r with
  | obj h f rs => exact ⟨_, _, _, rfl, h, f, rs⟩
/-- a cell that lives: its place and what stands there -/
theorem cell_lst (st : StOk T w H S) {x : V} {n : Nat} {ds : List D} (r : Rep T w H x (.cell n)) (h : S[n]? = some (.lst ds)) : ∃ a vs, x = .ref a ∧ w.cs[n]? = some (some a) ∧ H a = some (.lst vs) ∧ Reps T w H vs ds := by
  cases r with
  | cell e =>
    obtain ⟨a, vs, e1, e2, e3⟩ := st.at_ n _ h _ e
    cases e1
    exact ⟨_, _, rfl, e, e2, e3⟩
  | dead e =>
    obtain ⟨a, vs, e1, _⟩ := st.at_ n _ h _ e
    cases e1
theorem cell_ins (st : StOk T w H S) {x : V} {n c : Nat} {fs : List (Nat × D)} (r : Rep T w H x (.cell n)) (h : S[n]? = some (.ins c fs)) : ∃ a dx vs, x = .ref a ∧ w.cs[n]? = some (some a) ∧ H a = some (.ins (T.ca c) dx vs) ∧ RepF T w H vs fs := by
  cases r with
  | cell e =>
    obtain ⟨a, dx, vs, e1, e2, e3⟩ := st.at_ n _ h _ e
    cases e1
    exact ⟨_, _, _, rfl, e, e2, e3⟩
  | dead e =>
    obtain ⟨a, dx, vs, e1, _⟩ := st.at_ n _ h _ e
    cases e1
end
mutual
theorem dp_of {T : Tb} {w : Wl} {H : Hp} : ∀ {d : D} {p : PyData} {x : V}, pyD d = some p → Rep T w H x d → Dp T.K H x p
  | .non, p, x, h, r => by cases h; cases r; exact .non
  | .bl b, p, x, h, r => by cases h; cases r; exact .bl b
  | .int i, p, x, h, r => by cases h; cases r; exact .int i
  | .str i, p, x, h, r => by cases h; cases r; exact .str i
  | .lst l, p, x, h, r => by
    unfold pyD at h
    cases e : pyDs l with
    | none => rw [e] at h; cases h
    | some q =>
      rw [e] at h; cases h
      obtain ⟨a, vs, rfl, h1, h2⟩ := r.lstI
      exact .lst h1 (dps_of e h2)
  | .tup l, p, x, h, r => by
    unfold pyD at h
    cases e : pyDs l with
    | none => rw [e] at h; cases h
    | some q =>
      rw [e] at h; cases h
      obtain ⟨a, vs, rfl, h1, h2⟩ := r.tupI
      exact .tup h1 (dps_of e h2)
  | .obj c fs, p, x, h, r => by cases h
  | .cell n, p, x, h, r => by cases h
  | .fn n, p, x, h, r => by cases h
  | .cls n, p, x, h, r => by cases h
  | .ty n, p, x, h, r => by cases h
  | .scr n, p, x, h, r => by cases h
theorem dps_of {T : Tb} {w : Wl} {H : Hp} : ∀ {ds : List D} {ps : List PyData} {xs : List V}, pyDs ds = some ps → Reps T w H xs ds → DpAll T.K H xs ps
  | [], ps, xs, h, r => by cases h; cases r; exact .nil
  | d :: ds, ps, xs, h, r => by
    unfold pyDs at h
    cases e : pyD d with
    | none => rw [e] at h; cases h
    | some p =>
      cases e2 : pyDs ds with
      | none => rw [e, e2] at h; cases h
      | some q =>
        rw [e, e2] at h; cases h
        cases r with
        | cons r1 r2 => exact .cons (dp_of e r1) (dps_of e2 r2)
end
theorem okD_some {d : D} {p : PyData} (h : okD d = some p) : pyD d = some p ∧ SeqAt.shaped p = true := by
  unfold okD at h
  cases e : pyD d with
  | none => rw [e] at h; cases h
  | some q =>
    rw [e] at h
    dsimp only at h
    split at h
    · cases h; exact ⟨rfl, by assumption⟩
    · cases h
section
variable {T : Tb} {P : Pg} {k : Nat} {Wx : WX} {X : Cx} {pins : List (Addr × Obj)} {σ : L2.St} {H : Hp} {s : Shared} {Q : VK} {w : Wl} {S : Store}
theorem dun_at (cn : Cn T P k Wx X) {c f : Nat} {u : Dun} (h : dunOf P c u = some f) : ∃ ci, P.cs[c]? = some ci ∧ c < P.cs.length ∧ f < P.fs.length ∧ DunK T.K (T.ca c) u (T.fa f) := by
  unfold dunOf at h
  cases e : P.cs[c]? with
  | none => rw [e] at h; cases h
  | some ci =>
    rw [e] at h
    obtain ⟨h1, h2⟩ := cn.ko.dun c ci u f e h
    exact ⟨ci, rfl, (List.getElem?_eq_some_iff.mp e).1, h1, h2⟩
/-- all arguments, nothing filled in -/
theorem fill_all {f n : Nat} {fi : FI} {ds : List D} (h : P.fs[f]? = some fi) (hl : n + ds.length = fi.np) : fill P f n ds = some ds := by
  unfold fill
  rw [h]
  have : (n + ds.length ≤ fi.np && fi.np ≤ n + ds.length + fi.dfl.length) = true := by simp; omega
  simp only [this, if_true]
  rw [show fi.np - (n + ds.length) = 0 by omega]
  simp
/-- a direct call of the program that comes back must have got as many arguments as it has parameters -/
theorem run_np {j f : Nat} {ds : List D} {r : Res} (h : run P j (.fn f ds) S = r) (hr : r ≠ .bad) : fill P f 0 ds = some ds := by
  cases j with
  | zero => exact absurd h.symm (by intro z; exact hr z)
  | succ j =>
    simp only [run] at h
    cases e : P.fs[f]? with
    | none => rw [e] at h; exact absurd h.symm hr
    | some fi =>
      rw [e] at h
      dsimp only at h
      split at h
      · rename_i q
        exact fill_all e (by omega)
      · exact absurd h.symm hr
theorem post_nb {r : Res} (h : PostE T Wx w σ H r Q) : r ≠ .bad := by
  intro z; rw [z] at h; exact h
theorem base_ty {d : D} (h : base d = true) : ∃ t, t ∈ vtypes ∧ tyD T d = some (.type t) ∧ ∀ c fs, d = .obj c fs → c < P.cs.length := by
  cases d <;> first
    | exact absurd (show false = true from h) Bool.false_ne_true
    | exact ⟨_, show _ ∈ ["NoneType", "bool", "int", "str", "list", "tuple"] from by first | exact .head _ | exact .tail _ (.head _) | exact .tail _ (.tail _ (.head _)) | exact .tail _ (.tail _ (.tail _ (.head _))) | exact .tail _ (.tail _ (.tail _ (.tail _ (.head _)))) | exact .tail _ (.tail _ (.tail _ (.tail _ (.tail _ (.head _))))), rfl, fun _ _ z => nomatch z⟩
theorem own_op (cn : Cn T P k Wx X) {op : Operator} {u : Dun} {c f : Nat} {x y : V} {v z : Value} {fs : List (Nat × D)} {dy : D} (hop : opOf u = some op) (hd : dunS u = PySem.dunder op.info.2) (hf : dunOf P c u = some f) (ok : rOk P c u dy = true) (I : Inv X pins σ H s) (rx : RelV x v) (ry : RelV y z) (st : StOk T w H S)
    (hx : Rep T w H x (.obj c fs)) (hy : Rep T w H y dy) (h : PostE T Wx w σ H (run P k (.fn f [.obj c fs, dy]) S) Q) : wpAny (model X.prog X.w) X.A (binaryOp op v z) (EP X pins σ Q) X.xe s := by
  obtain ⟨ci, hc, hcl, hfl, dk⟩ := dun_at cn hf
  obtain ⟨a, dx, vs, rfl, ha, fz, rf⟩ := hx.objI
  cases (show v = Value.ref a from rx)
  obtain ⟨od, J, _⟩ := inst_at I ha
  have kI := I.kIn
  rw [cn.K] at kI
  have kc := cn.ko.cls c hcl
  have go : wpAny (model X.prog X.w) X.A (call (.ref (T.fa f)) [.ref a, z]) (PySem.W.CmpBack (EP X pins σ Q)) X.xe s :=
    wpAny_mono (call_fn cn I (vs := [.ref a, y]) (.cons rfl (.cons ry .nil)) st (.cons hx (.cons hy .nil)) (run_np rfl (post_nb h)) h) (fun _ _ q => ep_back q) fun _ _ e => e
  have hs := dk.at_
  rw [hd] at hs
  have same : ∀ d fs', dy = .obj d fs' → d = c → wpAny (model X.prog X.w) X.A (binaryOp op (.ref a) z) (EP X pins σ Q) X.xe s := by
    intro d fs' e1 e2
    subst e1; subst e2
    exact binop_one kI J (looks_ty cn.ko cn.K I hy ry rfl (fun _ _ q => by cases q; exact hcl)) kc.sf hs dk.fn go
  have bs : base dy = true → wpAny (model X.prog X.w) X.A (binaryOp op (.ref a) z) (EP X pins σ Q) X.xe s := by
    intro hb
    obtain ⟨t, ht, e, hq⟩ := base_ty (T := T) (P := P) hb
    obtain ⟨⟨fo, h1⟩, ro, h2⟩ := cn.ko.bt u op t hop ht
    exact binop_bt kI J (looks_ty cn.ko cn.K I hy ry e hq) kc.sf hs dk.fn (dk.refl op hop) (.inl rfl) h1 h2 (cn.ko.subT t c ht hcl) go
  cases dy with
  | obj d fs' =>
    unfold rOk at ok
    by_cases e : d = c
    · exact same d fs' rfl e
    · simp only [e, decide_false, Bool.false_or] at ok
      cases e2 : P.cs[d]? with
      | none => rw [e2] at ok; cases ok
      | some di =>
        rw [e2] at ok
        obtain ⟨ok1, ok2⟩ := bt ok
        obtain ⟨g, hg⟩ := Option.isSome_iff_exists.mp ok2
        have hdl : d < P.cs.length := (List.getElem?_eq_some_iff.mp e2).1
        obtain ⟨_, dk2⟩ := cn.ko.dun d di u g e2 hg
        have hs2 := dk2.at_
        rw [hd] at hs2
        exact binop_two kI J (looks_ty cn.ko cn.K I hy ry rfl (fun _ _ q => by cases q; exact hdl)) kc.sf (cn.ko.cls d hdl).sf (fun q => e (cn.ko.inj c d hcl hdl q).symm) hs dk.fn (dk.refl op hop) (.inl rfl) hs2 (dk2.refl op hop) (.inl rfl)
          (cn.ko.subC c ci d hc hdl (by rw [e2]; exact ok1)) go
  | cell n => cases ok
  | fn n => cases ok
  | cls n => cases ok
  | ty n => cases ok
  | scr n => cases ok
  | non => exact bs rfl
  | bl b => exact bs rfl
  | int i => exact bs rfl
  | str i => exact bs rfl
  | lst l => exact bs rfl
  | tup l => exact bs rfl
/-- a list's object -/
theorem lst_obj (hK : X.K = T.K) (I : Inv X pins σ H s) {x : V} {ds : List D} (r : Rep T w H x (.lst ds)) : ∃ a vs its n, x = .ref a ∧ s.heap.get? a = some { cls := .type "list", dict := none, data := .seq (List.toArray its) n, slots := #[] } ∧ Vals vs its ∧ Reps T w H vs ds ∧ vs.length ≤ sizeLine := by
  cases r with
  | lst h f rs =>
    obtain ⟨z, its, n, r, hl, e⟩ := I.lstM h
    exact ⟨_, _, its, n, rfl, e, r, rs, z⟩
  | @lstK a vs ds h rs =>
    obtain ⟨o, its, n, h1, h2, h3, h4, h5, h6, h7⟩ := h
    obtain ⟨c, d, dt, sl⟩ := o
    simp only at h2 h3 h4 h7
    subst h2 h3 h4 h7
    rw [← hK] at h1
    refine ⟨_, vs, its.toList, n, rfl, I.kIn _ _ h1, h6, rs, ?_⟩
    have := h6.length
    rw [this]
    simpa using h5
theorem cat_list (hK : X.K = T.K) (I : Inv X pins σ H s) {x y : V} {v u : Value} {d e : List D} (rx : RelV x v) (ry : RelV y u) (st : StOk T w H S) (hx : Rep T w H x (.lst d)) (hy : Rep T w H y (.lst e)) (hz : d.length + e.length ≤ lim) (h : PostE T Wx w σ H (.ok (.lst (d ++ e)) S) Q) :
    wpAny (model X.prog X.w) X.A (binaryOp .Add v u) (EP X pins σ Q) X.xe s := by
  obtain ⟨a, vs, its, n, rfl, g1, r1, p1, z1⟩ := lst_obj hK I hx
  obtain ⟨b, us, its2, n2, rfl, g2, r2, p2, z2⟩ := lst_obj hK I hy
  cases (show v = Value.ref a from rx)
  cases (show u = Value.ref b from ry)
  have hl1 := r1.length
  have hl2 := r2.length
  have hd1 := p1.length
  have hd2 := p2.length
  have hs : sizeLine = 16777216 := sizeLine_eq
  unfold lim at hz
  refine PySem.P.add_list g1 g2 ?_ (by simp only [List.size_toArray]; omega)
  have ea : its.toArray ++ its2.toArray = (its ++ its2).toArray := by simp
  rw [ea]
  refine ⟨.ref _, _, I.lnew (t' := s.toks) (r1.append r2) (by rw [List.length_append]; omega), rfl, ?_⟩
  exact post_new h st I.fresh (.lst upd_same (st.fz_new I.fresh) ((p1.append p2).mono ((ext_new I.fresh).mono (.inl rfl))))
end
end Mi
end

section
set_option maxRecDepth 100000
set_option maxHeartbeats 1000000
/-! Mi: != of lists and tuples by an own __eq__, all pairs equal. -/
namespace Mi
open PySem PySem.SeqAt GQ
open AutoSeq1 (wpAny_loadPart')
open MeetsSeq MeetsSeq2 MeetsSeq3 SeqRoads2
section
variable {prog : Program} {w : World} {A : Around} {R : Result → Shared → Prop}
theorem tuple_neG (l b : Addr) (items items2 : Array Value) (n n2 : Nat) (dd dd2 : Option Addr) (sl sl2 : Array (Option Value)) (hsz : items.size = items2.size) (I : Nat → Shared → Prop)
    (turn : ∀ i (h1 : i < items.size) (h2 : i < items2.size) s, I i s → wpAny (model prog w) A.in1 (eqBool items[i] items2[i]) (fun r s' => r = true ∧ I (i + 1) s') (fun e s' => R (.error e) s') s)
    (fin : ∀ s, I items.size s → R (.ok (.ret (.bool false))) s) {s : Shared} (hl1 : s.heap.get? l = some { cls := .type "tuple", dict := dd, data := .seq items n, slots := sl }) (hb1 : s.heap.get? b = some { cls := .type "tuple", dict := dd2, data := .seq items2 n2, slots := sl2 }) (h : I 0 s) :
    wpAny (model prog w) A.in1 (Builtin.«tuple.__ne__» ⟨[.ref l, .ref b], []⟩) (FinOf prog w A R) (fun e s' => R (.error e) s') s := by
  have f2 := AutoSeq1.sub_tuple_tuple
  have hZ : (items.toList.zip items2.toList).length = items.size := by simp [hsz]
  have h0 := h
  obtain ⟨hp, g, d, tk, os⟩ := s
  wp_walk using wpAny_loadPart' hl1, wpAny_loadPart' hb1, wpAny_forIn_list _ (fun rest b s' => b.1 = none ∧ ∃ i, rest = (items.toList.zip items2.toList).drop i ∧ i ≤ items.size ∧ I i s') _
  case turn =>
    rintro ⟨y, x⟩ rest b s' ⟨hb', i, hz, hi, hI⟩
    have hlt : i < (items.toList.zip items2.toList).length := by
      rcases Nat.lt_or_ge i (items.toList.zip items2.toList).length with h' | h'
      · exact h'
      · rw [List.drop_of_length_le h'] at hz; cases hz
    have h1 : i < items.size := hZ ▸ hlt
    have h2 : i < items2.size := hsz ▸ h1
    rw [List.drop_eq_getElem_cons hlt] at hz
    injection hz with hyx hrest
    have hy : y = items[i] := by have := congrArg Prod.fst hyx; simpa using this
    have hx : x = items2[i] := by have := congrArg Prod.snd hyx; simpa using this
    subst hy hx
    refine wpAny_bind (wpAny_mono (turn i h1 h2 s' hI) (fun r s2 q2 => ?_) fun _ _ x => x)
    obtain ⟨hr, q2⟩ := q2
    subst hr
    wp_walk
    exact ⟨rfl, i + 1, hrest, h1, q2⟩
  case fin =>
    rintro ⟨b1, b2⟩ s' ⟨hb', i, hz, hi, hI⟩
    simp only at hb'
    subst hb'
    have hge : items.size ≤ i := by
      rcases Nat.lt_or_ge i (items.toList.zip items2.toList).length with h' | h'
      · rw [List.drop_eq_getElem_cons h'] at hz; cases hz
      · exact hZ ▸ h'
    have hi' : i = items.size := by omega
    have hR : R (.ok (.ret (.bool false))) s' := fin s' (hi' ▸ hI)
    wp_walk
    simpa [Builtin.Tuple.tupleCompareSizes, hsz] using hR
  case h =>
    exact ⟨rfl, 0, rfl, Nat.zero_le _, h0⟩
theorem ne_loopG (l b : Addr) (N : Nat) (I : Nat → Shared → Prop) (hl : ListI prog w A (fun e s' => R (.error e) s') l b N I)
    (fin : ∀ s, I N s → R (.ok (.ret (.bool false))) s) (k : Nat) :
    ∀ i : Nat, N - i = k → i ≤ N → ∀ s, I i s →
      wpAny (model prog w) A.in1 (Builtin.«list.__eq__.loop» ⟨[.ref l, .ref b, rawInt i, rawInt 3], []⟩) (FinOf prog w A R) (fun e s' => R (.error e) s') s := by
  induction k with
  | zero =>
    intro i hk hi s h
    obtain ⟨items, items2, n, n2, hl1, hb1, hs1, hs2, _⟩ := hl _ _ h
    have hi' : i = N := by omega
    have hR : R (.ok (.ret (.bool false))) s := fin s (hi' ▸ h)
    obtain ⟨hp, g, d, tk, os⟩ := s
    wp_walk using wpAny_loadPart' hl1, wpAny_loadPart' hb1
    have hi1 : items[((i : Nat) : Int).toNat]? = none := by simp; omega
    have hi2 : items2[((i : Nat) : Int).toNat]? = none := by simp; omega
    rw [hi1, hi2]
    wp_walk using wpAny_loadPart' hl1, wpAny_loadPart' hb1
    show R (.ok (.ret (.bool (items.size != items2.size)))) _
    rw [hs1, hs2]
    simpa using hR
  | succ k ih =>
    intro i hk hi s h
    obtain ⟨items, items2, n, n2, hl1, hb1, hs1, hs2, turn⟩ := hl _ _ h
    have hlt : i < items.size := by omega
    have hlt2 : i < items2.size := by omega
    have ht := turn hlt hlt2
    obtain ⟨hp, g, d, tk, os⟩ := s
    wp_walk using wpAny_loadPart' hl1, wpAny_loadPart' hb1
    have hi1 : items[((i : Nat) : Int).toNat]? = some items[i] := by simp [hlt]
    have hi2 : items2[((i : Nat) : Int).toNat]? = some items2[i] := by simp [hlt2]
    have hc : ((i : Int) + 1) = ((i + 1 : Nat) : Int) := by omega
    rw [hi1, hi2]
    refine wpAny_bind (wpAny_mono ht (fun r s2 h2 => ?_) fun _ _ x => x)
    obtain ⟨hr, h2⟩ := h2
    subst hr
    have hrec := ih (i + 1) (by omega) (by omega) s2 h2
    obtain ⟨hp2, g2, d2, tk2, os2⟩ := s2
    wp_walk
    rw [hc]
    exact ⟨plainId_quiet plain_eq_loop _, codeAny_builtin entry_eq_loop (by
      rw [Around.under_plainId plain_eq_loop _]
      exact hrec)⟩
theorem list_neG (l b : Addr) (N : Nat) (I : Nat → Shared → Prop) (hl : ListI prog w A (fun e s' => R (.error e) s') l b N I)
    (fin : ∀ s, I N s → R (.ok (.ret (.bool false))) s) {s : Shared} (h : I 0 s) :
    wpAny (model prog w) A.in1 (Builtin.«list.__ne__» ⟨[.ref l, .ref b], []⟩) (FinOf prog w A R) (fun e s' => R (.error e) s') s := by
  obtain ⟨items, items2, n, n2, hl1, hb1, hs1, hs2, _⟩ := hl _ _ h
  have hrec := ne_loopG (A := A) (R := R) l b N I hl fin _ 0 rfl (Nat.zero_le _) s h
  obtain ⟨hp, g, d, tk, os⟩ := s
  have f3 := AutoSeq1.sub_list_list
  have hne : ¬ (items.size != items2.size) = true := by simp [hs1, hs2]
  wp_walk using wpAny_loadPart' hl1, wpAny_loadPart' hb1
  exact ⟨plainId_quiet plain_eq_loop _, codeAny_builtin entry_eq_loop (by
    rw [Around.under_plainId plain_eq_loop _]
    exact hrec)⟩
end
section
variable {prog : Program} {w : World} {A : Around} {E : Value → Shared → Prop} {s : Shared}
theorem rn_listG {l b : Addr} {N : Nat} {Q : Value → Shared → Prop} (hu : A.units < cLine) (I : Nat → Shared → Prop) (hl : ListI prog w A E l b N I)
    (fin : ∀ s, I N s → Q (.bool false) s) (h : I 0 s) : wpAny (model prog w) A (richCompare .NotEq (.ref l) (.ref b)) Q E s := by
  obtain ⟨items, items2, n, n2, hl1, hb1, _, _, _⟩ := hl _ _ h
  refine wpAny_richCompare_same_room (op := .NotEq) ⟨_, hl1, rfl⟩ ⟨_, hb1, rfl⟩ F.slot_list_ne (call_here F.slot_list_ne ⟨_, hl1, rfl⟩ F.entry_list_ne (F.args_list_ne_2 _ _) ?_) hu
  exact list_neG (R := wants (fun v s' => v ≠ .notImplemented ∧ Q v s') E) l b N I hl (fun s' q => ⟨(fun x => nomatch x), fin s' q⟩) h
theorem rn_tupG {l b : Addr} {items items2 : Array Value} {Q : Value → Shared → Prop} (hsz : items.size = items2.size) (hu : A.units < cLine) (I : Nat → Shared → Prop)
    (hl : s.heap.IsTuple l items) (hb : s.heap.IsTuple b items2)
    (turn : ∀ i (h1 : i < items.size) (h2 : i < items2.size) s, I i s → wpAny (model prog w) A.in1 (eqBool items[i] items2[i]) (fun r s' => r = true ∧ I (i + 1) s') E s)
    (fin : ∀ s, I items.size s → Q (.bool false) s) (h : I 0 s) : wpAny (model prog w) A (richCompare .NotEq (.ref l) (.ref b)) Q E s := by
  obtain ⟨⟨cls, dd, data, sl⟩, ho, hc, n, hd⟩ := id hl
  obtain ⟨⟨cls2, dd2, data2, sl2⟩, ho2, hc2, n2, hd2⟩ := id hb
  simp only at hc hd hc2 hd2
  subst hc hd hc2 hd2
  refine wpAny_richCompare_same_room (op := .NotEq) ⟨_, ho, rfl⟩ ⟨_, ho2, rfl⟩ F.slot_tuple_ne (call_here F.slot_tuple_ne ⟨_, ho, rfl⟩ F.entry_tuple_ne (F.args_tuple_ne_2 _ _) ?_) hu
  exact tuple_neG (R := wants (fun v s' => v ≠ .notImplemented ∧ Q v s') E) l b items items2 n n2 dd dd2 sl sl2 hsz I turn (fun s' q => ⟨(fun x => nomatch x), fin s' q⟩) ho ho2 h
end
end Mi
end

section
set_option maxRecDepth 100000
set_option maxHeartbeats 1000000
/-! Mi: lists and tuples of own instances, all pairs equal. -/
namespace Mi
open PySem PySem.Spec L2 PyProof.Rows
section
variable {T : Tb} {P : Pg} {k : Nat} {Wx : WX} {X : Cx} {pins : List (Addr × Obj)} {σ : L2.St} {H : Hp} {s : Shared} {Q : VK} {w : Wl} {S : Store}
theorem takes_nox : Takes X.nox (fun _ _ _ _ => False) := fun u s' ⟨_, _, _, _, _, _, _, _, _, _, _, _, _, _, _, _, w⟩ => w
theorem Cn.nox (cn : Cn T P k Wx X) : Cn T P k (fun _ _ _ _ => False) X.nox := ⟨cn.K, cn.calm, takes_nox, cn.room, cn.lv, cn.lw, cn.lw2, cn.low, cn.ko⟩
theorem post_noExc {r : Res} (h : PostE T Wx w σ H (noExc r) Q) : PostE T (fun _ _ _ _ => False) w σ H r Q := by
  cases r with
  | ok d S => exact h
  | exc c fs S => exact h.elim
  | bad => exact h.elim
theorem post_if {c : Prop} [Decidable c] {r : Res} (h : PostE T Wx w σ H (if c then r else .bad) Q) : c ∧ PostE T Wx w σ H r Q := by
  by_cases q : c
  · rw [if_pos q] at h; exact ⟨q, h⟩
  · rw [if_neg q] at h; exact h.elim
theorem flat_V {x : V} {d : D} (r : Rep T w H x d) (h : flat d = true) : flatV x = true := by
  cases d <;> first
    | exact absurd (show false = true from h) Bool.false_ne_true
    | (cases r; rfl)
theorem flat_eq {x y : V} {d e : D} (r : Rep T w H x d) (q : Rep T w H y e) (h : flat d = true) (h' : flat e = true) : eqV x y = eqD d e := by
  cases d <;> first
    | exact absurd (show false = true from h) Bool.false_ne_true
    | (cases r; cases e <;> first
        | exact absurd (show false = true from h') Bool.false_ne_true
        | (cases q; rfl))
/-- the world without its cells -/
def Wl.iso (w : Wl) : Wl := ⟨[], w.cs.filterMap id ++ (w.own.toList ++ w.ux), none⟩
theorem mem_cells {a : Addr} : a ∈ w.cs.filterMap id ↔ ∃ n : Nat, w.cs[n]? = some (some a) := by
  rw [List.mem_filterMap]
  constructor
  · rintro ⟨o, ho, e⟩
    obtain ⟨n, hn⟩ := List.mem_iff_getElem?.mp ho
    exact ⟨n, by rw [hn]; exact congrArg some e⟩
  · rintro ⟨n, hn⟩
    exact ⟨some a, List.mem_iff_getElem?.mpr ⟨n, hn⟩, rfl⟩
theorem fz_iso {a : Addr} (h : Fz w a) : Fz w.iso a := by
  refine ⟨fun n hn => by simp [Wl.iso] at hn, fun hm => ?_, fun z => nomatch z⟩
  rcases List.mem_append.mp (show a ∈ w.cs.filterMap id ++ (w.own.toList ++ w.ux) from hm) with z | z
  · obtain ⟨n, hn⟩ := mem_cells.mp z
    exact h.1 n hn
  · rcases List.mem_append.mp z with z | z
    · cases q : w.own with
      | none => rw [q] at z; cases z
      | some b => rw [q] at z; simp at z; subst z; exact h.2.2 q
    · exact h.2.1 z
theorem StOk.iso (st : StOk T w H S) : StOk T w.iso H [] := by
  refine ⟨rfl, fun n c h => by simp at h, fun n m a h => by simp [Wl.iso] at h, fun n a h => by simp [Wl.iso] at h, fun a ha => ?_, fun a h => (nomatch h), st.tabs⟩
  rcases List.mem_append.mp (show a ∈ w.cs.filterMap id ++ (w.own.toList ++ w.ux) from ha) with z | z
  · obtain ⟨n, hn⟩ := mem_cells.mp z
    exact st.cellN hn
  · rcases List.mem_append.mp z with z | z
    · cases q : w.own with
      | none => rw [q] at z; cases z
      | some b => rw [q] at z; simp at z; subst z; exact st.owns _ q
    · exact st.uxs a z
end
section
variable {T : Tb} {w : Wl} {H : Hp}
mutual
theorem Rep.iso : ∀ {v : V} {d : D}, noCell d = true → Rep T w H v d → Rep T w.iso H v d
  | _, _, _, .non => .non
  | _, _, _, .bl b => .bl b
  | _, _, _, .int i => .int i
  | _, _, _, .str s => .str s
  | _, _, _, .ty n => .ty n
  | _, _, h, .lst r f rs => .lst r (fz_iso f) (Reps.iso h rs)
  | _, _, h, .lstK k rs => .lstK k (Reps.iso h rs)
  | _, _, h, .tup r f rs => .tup r (fz_iso f) (Reps.iso h rs)
  | _, _, h, .tupK k rs => .tupK k (Reps.iso h rs)
  | _, _, h, .obj r f rs => .obj r (fz_iso f) (RepF.iso h rs)
  | _, _, h, .cell e => absurd (show false = true from h) Bool.false_ne_true
  | _, _, h, .dead e => absurd (show false = true from h) Bool.false_ne_true
  | _, _, _, .fn f => .fn f
  | _, _, _, .cls c => .cls c
  | _, _, h, .scr _ _ => absurd (show false = true from h) Bool.false_ne_true
theorem Reps.iso : ∀ {vs : List V} {ds : List D}, noCells ds = true → Reps T w H vs ds → Reps T w.iso H vs ds
  | _, _, _, .nil => .nil
  | _, _, h, .cons r rs => .cons (Rep.iso (bt h).1 r) (Reps.iso (bt h).2 rs)
theorem RepF.iso : ∀ {vs : List (Str × V)} {fs : List (Nat × D)}, noCellF fs = true → RepF T w H vs fs → RepF T w.iso H vs fs
  | _, _, _, .nil => .nil
  | _, _, h, .cons e r rs => .cons e (Rep.iso (bt h).1 r) (RepF.iso (bt h).2 rs)
end
end
section
variable {T : Tb} {P : Pg} {k : Nat} {Wx : WX} {X : Cx} {pins : List (Addr × Obj)} {σ : L2.St} {H : Hp} {s : Shared} {Q : VK} {w : Wl} {S : Store}
theorem kept_ext {H' : Hp} (e : L2.Ext H H') (st : StOk T w H S) : Ext none w H w H' ∧ StOk T w H' S := by
  have there : ∀ a, Nt H a → Nt H' a := fun a ⟨u, h, k⟩ => ⟨u, e a u h, k⟩
  have ex : Ext none w H w H' := ⟨Nat.le_refl _, fun a u h _ _ _ => e a u h, there, fun _ _ h => h, fun _ _ h => .inl h, fun _ h => h, rfl, rfl⟩
  refine ⟨ex, st.same (ex.mono (.inl rfl)) (fun n a ha => ?_) there (st.tabs.ext e)⟩
  cases q : H a with
  | none => exact absurd q (st.cellH ha)
  | some u => exact e a u q
theorem not_first (cn : Cn T P k Wx X) {c : Nat} {ci : CI} {y : V} {z : Value} {dy : D} (hc : P.cs[c]? = some ci) (ok : eOk P c dy = true) (I : Inv X pins σ H s) (ry : RelV y z) (hy : Rep T w H y dy) :
    ∃ tb, PySem.W.Looks (model X.prog X.w) s.heap (typeOf z) tb ∧ PySem.W.notFirst T.K (T.ca c) tb = true := by
  have hcl : c < P.cs.length := (List.getElem?_eq_some_iff.mp hc).1
  have bs : base dy = true → ∃ tb, PySem.W.Looks (model X.prog X.w) s.heap (typeOf z) tb ∧ PySem.W.notFirst T.K (T.ca c) tb = true := by
    intro hb
    obtain ⟨t, ht, e, hq⟩ := base_ty (T := T) (P := P) hb
    refine ⟨_, looks_ty cn.ko cn.K I hy ry e hq, ?_⟩
    unfold PySem.W.notFirst
    rw [cn.ko.subT t c ht hcl]
    simp
  cases dy with
  | obj d fs' =>
    unfold eOk at ok
    dsimp only at ok
    cases e2 : P.cs[d]? with
    | none => rw [e2] at ok; cases ok
    | some di =>
      rw [e2] at ok
      have hdl : d < P.cs.length := (List.getElem?_eq_some_iff.mp e2).1
      exact ⟨_, looks_ty cn.ko cn.K I hy ry rfl (fun _ _ q => by cases q; exact hdl), cn.ko.nf c ci d hc hdl (by rw [e2]; exact ok)⟩
  | cell n => cases ok
  | fn n => cases ok
  | cls n => cases ok
  | ty n => cases ok
  | scr n => cases ok
  | non => exact bs rfl
  | bl b => exact bs rfl
  | int i => exact bs rfl
  | str i => exact bs rfl
  | lst l => exact bs rfl
  | tup l => exact bs rfl
/-- two equal items, one builtin further in -/
theorem iso_turn (cn : Cn T P k Wx X) {x y : V} {u v : Value} {d e : D} (I : Inv X pins σ H s) (rx : RelV x u) (ry : RelV y v) (st : StOk T w H S) (hx : Rep T w H x d) (hy : Rep T w H y e) (h : eqIso P (run P k) d e = true) :
    wpAny (model X.prog X.w) X.A.in1 (eqBool u v) (fun r s' => r = true ∧ ∃ H', Inv X pins σ H' s' ∧ L2.Ext H H') X.xe s := by
  unfold eqIso at h
  split at h
  · rename_i q
    have hq := eqAt_V (A := X.A.in1) (s := s) rx ry (flat_V hx (bt q).1) (flat_V hy (bt q).2)
    rw [flat_eq hx hy (bt q).1 (bt q).2, h] at hq
    exact hq X.prog X.w X.xe _ ⟨rfl, H, I, L2.Ext.rfl'⟩
  · cases d with
    | obj c fs =>
      dsimp only at h
      cases hf : dunOf P c .eq with
      | none => rw [hf] at h; cases h
      | some f =>
        rw [hf] at h
        obtain ⟨h1, h2⟩ := bt h
        obtain ⟨h3, nc2⟩ := bt h1
        obtain ⟨ok, nc1⟩ := bt h3
        have hr : run P k (.low f [.obj c fs, e]) [] = .ok (.bl true) [] := by
          revert h2
          cases run P k (.low f [.obj c fs, e]) [] with
          | ok d' S' =>
            cases d' with
            | bl b => cases b <;> cases S' <;> simp
            | _ => simp
          | exc _ _ _ => simp
          | bad => simp
        obtain ⟨ci, hc, hcl, hfl, dk⟩ := dun_at cn hf
        obtain ⟨a, dx, vs, rfl, ha, fz, rf⟩ := id hx.objI
        cases (show u = Value.ref a from rx)
        obtain ⟨od, J, _⟩ := inst_at I ha
        obtain ⟨m, hF⟩ := I.fr
        have kI := I.ok.mod.kin
        rw [cn.K] at kI
        obtain ⟨tb, L, nf⟩ := not_first cn hc ok I ry hy
        have hl : fill P f 0 [.obj c fs, e] = some [.obj c fs, e] := by
          cases k with
          | zero => cases hr
          | succ j => exact run_np (S := []) (j := j) hr (fun z => nomatch z)
        have post : PostE T (fun _ _ _ _ => False) w.iso σ H (run P k (.low f [.obj c fs, e]) []) (fun z H' => z = .bl true ∧ L2.Ext H H') := by
          rw [hr]
          intro z w' H' ex rz st'
          cases rz
          exact ⟨rfl, fun b o hb => ex.keep b o hb (fun n hn => by simp [Wl.iso] at hn) (fun q => nomatch q) (.inr (by rw [st'.len]; simp [Wl.iso]))⟩
        have un := cn.room.units
        have cmp : wpAny (model X.prog X.w) X.A.in1 (richCompare .Eq (.ref a) v) (fun z s' => ∃ r, z = .bool r ∧ (r = true ∧ ∃ H', Inv X pins σ H' s' ∧ L2.Ext H H')) X.xe s := by
          refine PySem.W.cmp_K (op := .Eq) (tb := tb) (show X.A.units + 1 < cLine by omega) hF kI J L nf dk.at_ dk.fn ?_
          have cc := call_low cn.nox (I.wish _) (us := [.ref a, v]) (vs := [.ref a, y]) (.cons rfl (.cons ry .nil)) st.iso (.cons (hx.iso nc1) (.cons (hy.iso nc2) .nil)) hl post
          refine wpAny_mono (wpAny_call (codeAny_mono cc fun r s' hq => ?_)) (fun _ _ z => z) fun _ _ z => z
          cases r with
          | error er => exact False.elim hq
          | ok fl =>
            cases fl with
            | ret z =>
              obtain ⟨zv, H', I', rz, e1, e2⟩ := hq
              subst e1
              cases (show z = Value.bool true from rz)
              exact ⟨true, rfl, rfl, H', I'.unwish, e2⟩
            | next => exact False.elim hq
            | brk => exact False.elim hq
            | cont => exact False.elim hq
        by_cases hab : v = .ref a
        · rw [hab]
          exact SeqAt.EqAt.same (A := X.A.in1) (s := s) (.ref a) X.prog X.w X.xe _ ⟨rfl, H, I, L2.Ext.rfl'⟩
        · unfold eqBool
          refine wpAny_holding ?_
          refine wpAny_ite_split (fun h => absurd (eq_of_beq h).symm hab) (fun _ => ?_)
          refine wpAny_bind (wpAny_mono cmp (fun v s' hv => ?_) fun _ _ x => x)
          obtain ⟨r, rfl, q⟩ := hv
          exact wpAny_truthy_bool q
    | _ => cases h
/-- two equal items, two builtins further in -/
theorem iso_turn2 (cn : Cn T P k Wx X) {x y : V} {u v : Value} {d e : D} (I : Inv X pins σ H s) (rx : RelV x u) (ry : RelV y v) (st : StOk T w H S) (hx : Rep T w H x d) (hy : Rep T w H y e) (h : eqIso2 P (run P k) d e = true) :
    wpAny (model X.prog X.w) X.A.in1.in1 (eqBool u v) (fun r s' => r = true ∧ ∃ H', Inv X pins σ H' s' ∧ L2.Ext H H') X.xe s := by
  unfold eqIso2 at h
  split at h
  · rename_i q
    have hq := eqAt_V (A := X.A.in1.in1) (s := s) rx ry (flat_V hx (bt q).1) (flat_V hy (bt q).2)
    rw [flat_eq hx hy (bt q).1 (bt q).2, h] at hq
    exact hq X.prog X.w X.xe _ ⟨rfl, H, I, L2.Ext.rfl'⟩
  · cases d with
    | obj c fs =>
      dsimp only at h
      cases hf : dunOf P c .eq with
      | none => rw [hf] at h; cases h
      | some f =>
        rw [hf] at h
        obtain ⟨h1, h2⟩ := bt h
        obtain ⟨h3, nc2⟩ := bt h1
        obtain ⟨ok, nc1⟩ := bt h3
        have hr : run P k (.low2 f [.obj c fs, e]) [] = .ok (.bl true) [] := by
          revert h2
          cases run P k (.low2 f [.obj c fs, e]) [] with
          | ok d' S' =>
            cases d' with
            | bl b => cases b <;> cases S' <;> simp
            | _ => simp
          | exc _ _ _ => simp
          | bad => simp
        obtain ⟨ci, hc, hcl, hfl, dk⟩ := dun_at cn hf
        obtain ⟨a, dx, vs, rfl, ha, fz, rf⟩ := id hx.objI
        cases (show u = Value.ref a from rx)
        obtain ⟨od, J, _⟩ := inst_at I ha
        obtain ⟨m, hF⟩ := I.fr
        have kI := I.ok.mod.kin
        rw [cn.K] at kI
        obtain ⟨tb, L, nf⟩ := not_first cn hc ok I ry hy
        have hl : fill P f 0 [.obj c fs, e] = some [.obj c fs, e] := by
          cases k with
          | zero => cases hr
          | succ j =>
            cases j with
            | zero => cases hr
            | succ i => exact run_np (S := []) (j := i) hr (fun z => nomatch z)
        have post : PostE T (fun _ _ _ _ => False) w.iso σ H (run P k (.low2 f [.obj c fs, e]) []) (fun z H' => z = .bl true ∧ L2.Ext H H') := by
          rw [hr]
          intro z w' H' ex rz st'
          cases rz
          exact ⟨rfl, fun b o hb => ex.keep b o hb (fun n hn => by simp [Wl.iso] at hn) (fun q => nomatch q) (.inr (by rw [st'.len]; simp [Wl.iso]))⟩
        have un := cn.room.units
        have cmp : wpAny (model X.prog X.w) X.A.in1.in1 (richCompare .Eq (.ref a) v) (fun z s' => ∃ r, z = .bool r ∧ (r = true ∧ ∃ H', Inv X pins σ H' s' ∧ L2.Ext H H')) X.xe s := by
          refine PySem.W.cmp_K (op := .Eq) (tb := tb) (show X.A.units + 1 + 1 < cLine by omega) hF kI J L nf dk.at_ dk.fn ?_
          have cc := call_low2 cn.nox (I.wish _) (us := [.ref a, v]) (vs := [.ref a, y]) (.cons rfl (.cons ry .nil)) st.iso (.cons (hx.iso nc1) (.cons (hy.iso nc2) .nil)) hl post
          refine wpAny_mono (wpAny_call (codeAny_mono cc fun r s' hq => ?_)) (fun _ _ z => z) fun _ _ z => z
          cases r with
          | error er => exact False.elim hq
          | ok fl =>
            cases fl with
            | ret z =>
              obtain ⟨zv, H', I', rz, e1, e2⟩ := hq
              subst e1
              cases (show z = Value.bool true from rz)
              exact ⟨true, rfl, rfl, H', I'.unwish, e2⟩
            | next => exact False.elim hq
            | brk => exact False.elim hq
            | cont => exact False.elim hq
        by_cases hab : v = .ref a
        · rw [hab]
          exact SeqAt.EqAt.same (A := X.A.in1.in1) (s := s) (.ref a) X.prog X.w X.xe _ ⟨rfl, H, I, L2.Ext.rfl'⟩
        · unfold eqBool
          refine wpAny_holding ?_
          refine wpAny_ite_split (fun h => absurd (eq_of_beq h).symm hab) (fun _ => ?_)
          refine wpAny_bind (wpAny_mono cmp (fun v s' hv => ?_) fun _ _ x => x)
          obtain ⟨r, rfl, q⟩ := hv
          exact wpAny_truthy_bool q
    | _ => cases h
def LoopJ (X : Cx) (pins : List (Addr × Obj)) (σ : L2.St) (H : Hp) (s' : Shared) : Prop := ∃ H', Inv X pins σ H' s' ∧ L2.Ext H H'
theorem isos_len : ∀ {ds es : List D}, eqsIso P (run P k) ds es = true → ds.length = es.length
  | [], [], _ => rfl
  | [], _ :: _, h => by cases h
  | _ :: _, [], h => by cases h
  | d :: ds, e :: es, h => congrArg (· + 1) (isos_len (bt h).2)
theorem isos_get : ∀ {ds es : List D} {i : Nat} {d e : D}, eqsIso P (run P k) ds es = true → ds[i]? = some d → es[i]? = some e → eqIso P (run P k) d e = true
  | [], [], _, _, _, _, h, _ => by simp at h
  | [], _ :: _, _, _, _, h, _, _ => by cases h
  | _ :: _, [], _, _, _, h, _, _ => by cases h
  | x :: ds, y :: es, 0, d, e, h, h1, h2 => by simp at h1 h2; subst h1; subst h2; exact (bt h).1
  | x :: ds, y :: es, i + 1, d, e, h, h1, h2 => isos_get (i := i) (bt h).2 (by simpa using h1) (by simpa using h2)
theorem isos_turn (cn : Cn T P k Wx X) {xs ys : List V} {us vs : List Value} {ds es : List D} (st : StOk T w H S) (r1 : Vals xs us) (r2 : Vals ys vs) (hx : Reps T w H xs ds) (hy : Reps T w H ys es) (h : eqsIso P (run P k) ds es = true)
    (i : Nat) (h1 : i < us.toArray.size) (h2 : i < vs.toArray.size) (s' : Shared) (l : LoopJ X pins σ H s') :
    wpAny (model X.prog X.w) X.A.in1 (eqBool us.toArray[i] vs.toArray[i]) (fun r s2 => r = true ∧ LoopJ X pins σ H s2) X.xe s' := by
  obtain ⟨H1, I1, e1⟩ := l
  obtain ⟨ex, st1⟩ := kept_ext e1 st
  have k1 : i < xs.length := by rw [r1.length]; simpa using h1
  have k2 : i < ys.length := by rw [r2.length]; simpa using h2
  obtain ⟨u, hu, ru⟩ := r1.get (List.getElem?_eq_getElem k1)
  obtain ⟨v, hv, rv⟩ := r2.get (List.getElem?_eq_getElem k2)
  obtain ⟨d, hd, rd⟩ := hx.getV (List.getElem?_eq_getElem k1)
  obtain ⟨e, he, re⟩ := hy.getV (List.getElem?_eq_getElem k2)
  have g1 : us[i]? = some us.toArray[i] := by
    have h1' : i < us.length := by simpa using h1
    rw [List.getElem?_eq_getElem h1'] <;> simp
  have g2 : vs[i]? = some vs.toArray[i] := by
    have h2' : i < vs.length := by simpa using h2
    rw [List.getElem?_eq_getElem h2'] <;> simp
  rw [g1] at hu
  rw [g2] at hv
  rw [Option.some.inj hu, Option.some.inj hv]
  have m := ex.mono (.inl rfl)
  refine wpAny_mono (iso_turn cn I1 ru rv st1 (rd.mono m) (re.mono m) (isos_get h hd he)) (fun r s2 q => ?_) fun _ _ x => x
  obtain ⟨hr, H2, I2, e2⟩ := q
  exact ⟨hr, H2, I2, e1.trans e2⟩
theorem isos2_len : ∀ {ds es : List D}, eqsIso2 P (run P k) ds es = true → ds.length = es.length
  | [], [], _ => rfl
  | [], _ :: _, h => by cases h
  | _ :: _, [], h => by cases h
  | d :: ds, e :: es, h => congrArg (· + 1) (isos2_len (bt h).2)
theorem isos2_get : ∀ {ds es : List D} {i : Nat} {d e : D}, eqsIso2 P (run P k) ds es = true → ds[i]? = some d → es[i]? = some e → eqIso2 P (run P k) d e = true
  | [], [], _, _, _, _, h, _ => by simp at h
  | [], _ :: _, _, _, _, h, _, _ => by cases h
  | _ :: _, [], _, _, _, h, _, _ => by cases h
  | x :: ds, y :: es, 0, d, e, h, h1, h2 => by simp at h1 h2; subst h1; subst h2; exact (bt h).1
  | x :: ds, y :: es, i + 1, d, e, h, h1, h2 => isos2_get (i := i) (bt h).2 (by simpa using h1) (by simpa using h2)
theorem isos2_turn (cn : Cn T P k Wx X) {xs ys : List V} {us vs : List Value} {ds es : List D} (st : StOk T w H S) (r1 : Vals xs us) (r2 : Vals ys vs) (hx : Reps T w H xs ds) (hy : Reps T w H ys es) (h : eqsIso2 P (run P k) ds es = true)
    (i : Nat) (h1 : i < us.toArray.size) (h2 : i < vs.toArray.size) (s' : Shared) (l : LoopJ X pins σ H s') :
    wpAny (model X.prog X.w) X.A.in1.in1 (eqBool us.toArray[i] vs.toArray[i]) (fun r s2 => r = true ∧ LoopJ X pins σ H s2) X.xe s' := by
  obtain ⟨H1, I1, e1⟩ := l
  obtain ⟨ex, st1⟩ := kept_ext e1 st
  have k1 : i < xs.length := by rw [r1.length]; simpa using h1
  have k2 : i < ys.length := by rw [r2.length]; simpa using h2
  obtain ⟨u, hu, ru⟩ := r1.get (List.getElem?_eq_getElem k1)
  obtain ⟨v, hv, rv⟩ := r2.get (List.getElem?_eq_getElem k2)
  obtain ⟨d, hd, rd⟩ := hx.getV (List.getElem?_eq_getElem k1)
  obtain ⟨e, he, re⟩ := hy.getV (List.getElem?_eq_getElem k2)
  have g1 : us[i]? = some us.toArray[i] := by
    have h1' : i < us.length := by simpa using h1
    rw [List.getElem?_eq_getElem h1'] <;> simp
  have g2 : vs[i]? = some vs.toArray[i] := by
    have h2' : i < vs.length := by simpa using h2
    rw [List.getElem?_eq_getElem h2'] <;> simp
  rw [g1] at hu
  rw [g2] at hv
  rw [Option.some.inj hu, Option.some.inj hv]
  have m := ex.mono (.inl rfl)
  refine wpAny_mono (iso_turn2 cn I1 ru rv st1 (rd.mono m) (re.mono m) (isos2_get h hd he)) (fun r s2 q => ?_) fun _ _ x => x
  obtain ⟨hr, H2, I2, e2⟩ := q
  exact ⟨hr, H2, I2, e1.trans e2⟩
theorem isoN_turn (cn : Cn T P k Wx X) {x y : V} {u v : Value} {d e : D} (I : Inv X pins σ H s) (rx : RelV x u) (ry : RelV y v) (st : StOk T w H S) (hx : Rep T w H x d) (hy : Rep T w H y e) (h : eqIsoN P (run P k) d e = true) :
    wpAny (model X.prog X.w) X.A.in1 (eqBool u v) (fun r s' => r = true ∧ ∃ H', Inv X pins σ H' s' ∧ L2.Ext H H') X.xe s := by
  unfold eqIsoN at h
  split at h
  · rename_i l r
    obtain ⟨a, vs, rfl, h1, h2⟩ := hx.tupI
    obtain ⟨b, us, rfl, h3, h4⟩ := hy.tupI
    cases (show u = Value.ref a from rx)
    cases (show v = Value.ref b from ry)
    rw [← cn.K] at h1 h3
    obtain ⟨its, r1, p1, z1⟩ := I.tuple h1
    obtain ⟨its2, r2, p2, z2⟩ := I.tuple h3
    have hsz : its.toArray.size = its2.toArray.size := by
      rw [List.size_toArray, List.size_toArray, ← r1.length, ← r2.length, h2.length, h4.length]; exact isos2_len h
    have un := cn.room.units
    have cmp : wpAny (model X.prog X.w) X.A.in1 (richCompare .Eq (.ref a) (.ref b)) (fun r s' => r = .bool true ∧ LoopJ X pins σ H s') X.xe s :=
      GQ.rc_tupG hsz (show X.A.units + 1 < cLine by omega) (fun _ s' => LoopJ X pins σ H s') p1 p2 (fun i q1 q2 s' q => isos2_turn cn st r1 r2 h2 h4 h i q1 q2 s' q) (fun s' q => ⟨rfl, q⟩) ⟨H, I, L2.Ext.rfl'⟩
    by_cases hab : (Value.ref b) = .ref a
    · rw [hab]
      exact SeqAt.EqAt.same (A := X.A.in1) (s := s) (.ref a) X.prog X.w X.xe _ ⟨rfl, H, I, L2.Ext.rfl'⟩
    · unfold eqBool
      refine wpAny_holding ?_
      refine wpAny_ite_split (fun h => absurd (eq_of_beq h).symm hab) (fun _ => ?_)
      refine wpAny_bind (wpAny_mono cmp (fun v s' hv => ?_) fun _ _ x => x)
      obtain ⟨rfl, q⟩ := hv
      exact wpAny_truthy_bool ⟨rfl, q⟩
  · exact iso_turn cn I rx ry st hx hy h
theorem isosN_len : ∀ {ds es : List D}, eqsIsoN P (run P k) ds es = true → ds.length = es.length
  | [], [], _ => rfl
  | [], _ :: _, h => by cases h
  | _ :: _, [], h => by cases h
  | d :: ds, e :: es, h => congrArg (· + 1) (isosN_len (bt h).2)
theorem isosN_get : ∀ {ds es : List D} {i : Nat} {d e : D}, eqsIsoN P (run P k) ds es = true → ds[i]? = some d → es[i]? = some e → eqIsoN P (run P k) d e = true
  | [], [], _, _, _, _, h, _ => by simp at h
  | [], _ :: _, _, _, _, h, _, _ => by cases h
  | _ :: _, [], _, _, _, h, _, _ => by cases h
  | x :: ds, y :: es, 0, d, e, h, h1, h2 => by simp at h1 h2; subst h1; subst h2; exact (bt h).1
  | x :: ds, y :: es, i + 1, d, e, h, h1, h2 => isosN_get (i := i) (bt h).2 (by simpa using h1) (by simpa using h2)
theorem isosN_turn (cn : Cn T P k Wx X) {xs ys : List V} {us vs : List Value} {ds es : List D} (st : StOk T w H S) (r1 : Vals xs us) (r2 : Vals ys vs) (hx : Reps T w H xs ds) (hy : Reps T w H ys es) (h : eqsIsoN P (run P k) ds es = true)
    (i : Nat) (h1 : i < us.toArray.size) (h2 : i < vs.toArray.size) (s' : Shared) (l : LoopJ X pins σ H s') :
    wpAny (model X.prog X.w) X.A.in1 (eqBool us.toArray[i] vs.toArray[i]) (fun r s2 => r = true ∧ LoopJ X pins σ H s2) X.xe s' := by
  obtain ⟨H1, I1, e1⟩ := l
  obtain ⟨ex, st1⟩ := kept_ext e1 st
  have k1 : i < xs.length := by rw [r1.length]; simpa using h1
  have k2 : i < ys.length := by rw [r2.length]; simpa using h2
  obtain ⟨u, hu, ru⟩ := r1.get (List.getElem?_eq_getElem k1)
  obtain ⟨v, hv, rv⟩ := r2.get (List.getElem?_eq_getElem k2)
  obtain ⟨d, hd, rd⟩ := hx.getV (List.getElem?_eq_getElem k1)
  obtain ⟨e, he, re⟩ := hy.getV (List.getElem?_eq_getElem k2)
  have g1 : us[i]? = some us.toArray[i] := by
    have h1' : i < us.length := by simpa using h1
    rw [List.getElem?_eq_getElem h1'] <;> simp
  have g2 : vs[i]? = some vs.toArray[i] := by
    have h2' : i < vs.length := by simpa using h2
    rw [List.getElem?_eq_getElem h2'] <;> simp
  rw [g1] at hu
  rw [g2] at hv
  rw [Option.some.inj hu, Option.some.inj hv]
  have m := ex.mono (.inl rfl)
  refine wpAny_mono (isoN_turn cn I1 ru rv st1 (rd.mono m) (re.mono m) (isosN_get h hd he)) (fun r s2 q => ?_) fun _ _ x => x
  obtain ⟨hr, H2, I2, e2⟩ := q
  exact ⟨hr, H2, I2, e1.trans e2⟩
def eqDeep1 (f : List D → List D → Bool) (x y : D) : Bool := match x, y with
  | .tup a, .tup b => f a b
  | .lst a, .lst b => f a b
  | _, _ => false
theorem deep_iso (cn : Cn T P k Wx X) {x y : V} {u v : Value} {d e : D} (I : Inv X pins σ H s) (rx : RelV x u) (ry : RelV y v) (st : StOk T w H S) (hx : Rep T w H x d) (hy : Rep T w H y e) (h : eqDeep1 (eqsIso P (run P k)) d e = true) :
    wpAny (model X.prog X.w) X.A (richCompare .Eq u v) (fun r s' => r = .bool true ∧ LoopJ X pins σ H s') X.xe s ∧
    wpAny (model X.prog X.w) X.A (richCompare .NotEq u v) (fun r s' => r = .bool false ∧ LoopJ X pins σ H s') X.xe s := by
  unfold eqDeep1 at h
  split at h
  · rename_i l r
    obtain ⟨a, vs, rfl, h1, h2⟩ := hx.tupI
    obtain ⟨b, us, rfl, h3, h4⟩ := hy.tupI
    cases (show u = Value.ref a from rx)
    cases (show v = Value.ref b from ry)
    rw [← cn.K] at h1 h3
    obtain ⟨its, r1, p1, z1⟩ := I.tuple h1
    obtain ⟨its2, r2, p2, z2⟩ := I.tuple h3
    have hsz : its.toArray.size = its2.toArray.size := by
      rw [List.size_toArray, List.size_toArray, ← r1.length, ← r2.length, h2.length, h4.length]; exact isos_len h
    exact ⟨GQ.rc_tupG hsz cn.room.units0 (fun _ s' => LoopJ X pins σ H s') p1 p2 (fun i q1 q2 s' q => isos_turn cn st r1 r2 h2 h4 h i q1 q2 s' q) (fun s' q => ⟨rfl, q⟩) ⟨H, I, L2.Ext.rfl'⟩,
      rn_tupG hsz cn.room.units0 (fun _ s' => LoopJ X pins σ H s') p1 p2 (fun i q1 q2 s' q => isos_turn cn st r1 r2 h2 h4 h i q1 q2 s' q) (fun s' q => ⟨rfl, q⟩) ⟨H, I, L2.Ext.rfl'⟩⟩
  · rename_i l r
    obtain ⟨a, _, rfl, _, _⟩ := id hx.lstI
    obtain ⟨b, _, rfl, _, _⟩ := id hy.lstI
    cases (show u = Value.ref a from rx)
    cases (show v = Value.ref b from ry)
    have LI : GQ.ListI X.prog X.w X.A X.xe a b l.length (fun _ s' => LoopJ X pins σ H s') := by
      intro i s' q
      obtain ⟨H1, I1, e1⟩ := id q
      obtain ⟨ex, st1⟩ := kept_ext e1 st
      have m := ex.mono (.inl rfl)
      obtain ⟨a', xs, its, n, ea, g1, r1, h2, z1⟩ := lst_obj cn.K I1 (hx.mono m)
      obtain ⟨b', ys, its2, n2, eb, g2, r2, h4, z2⟩ := lst_obj cn.K I1 (hy.mono m)
      cases ea; cases eb
      refine ⟨its.toArray, its2.toArray, n, n2, g1, g2, by rw [List.size_toArray, ← r1.length, h2.length], by rw [List.size_toArray, ← r2.length, h4.length, isos_len h], fun q1 q2 => ?_⟩
      refine wpAny_mono (isos_turn (H := H1) cn st1 r1 r2 h2 h4 h i q1 q2 s' ⟨H1, I1, L2.Ext.rfl'⟩) (fun r s2 q => ?_) fun _ _ x => x
      obtain ⟨hr, H2, I2, e2⟩ := q
      exact ⟨hr, H2, I2, e1.trans e2⟩
    exact ⟨GQ.rc_listG cn.room.units0 _ LI (fun s' q => ⟨rfl, q⟩) ⟨H, I, L2.Ext.rfl'⟩, rn_listG cn.room.units0 _ LI (fun s' q => ⟨rfl, q⟩) ⟨H, I, L2.Ext.rfl'⟩⟩
  · cases h
theorem deep_isoN (cn : Cn T P k Wx X) {x y : V} {u v : Value} {d e : D} (I : Inv X pins σ H s) (rx : RelV x u) (ry : RelV y v) (st : StOk T w H S) (hx : Rep T w H x d) (hy : Rep T w H y e) (h : eqDeep1 (eqsIsoN P (run P k)) d e = true) :
    wpAny (model X.prog X.w) X.A (richCompare .Eq u v) (fun r s' => r = .bool true ∧ LoopJ X pins σ H s') X.xe s ∧
    wpAny (model X.prog X.w) X.A (richCompare .NotEq u v) (fun r s' => r = .bool false ∧ LoopJ X pins σ H s') X.xe s := by
  unfold eqDeep1 at h
  split at h
  · rename_i l r
    obtain ⟨a, vs, rfl, h1, h2⟩ := hx.tupI
    obtain ⟨b, us, rfl, h3, h4⟩ := hy.tupI
    cases (show u = Value.ref a from rx)
    cases (show v = Value.ref b from ry)
    rw [← cn.K] at h1 h3
    obtain ⟨its, r1, p1, z1⟩ := I.tuple h1
    obtain ⟨its2, r2, p2, z2⟩ := I.tuple h3
    have hsz : its.toArray.size = its2.toArray.size := by
      rw [List.size_toArray, List.size_toArray, ← r1.length, ← r2.length, h2.length, h4.length]; exact isosN_len h
    exact ⟨GQ.rc_tupG hsz cn.room.units0 (fun _ s' => LoopJ X pins σ H s') p1 p2 (fun i q1 q2 s' q => isosN_turn cn st r1 r2 h2 h4 h i q1 q2 s' q) (fun s' q => ⟨rfl, q⟩) ⟨H, I, L2.Ext.rfl'⟩,
      rn_tupG hsz cn.room.units0 (fun _ s' => LoopJ X pins σ H s') p1 p2 (fun i q1 q2 s' q => isosN_turn cn st r1 r2 h2 h4 h i q1 q2 s' q) (fun s' q => ⟨rfl, q⟩) ⟨H, I, L2.Ext.rfl'⟩⟩
  · rename_i l r
    obtain ⟨a, _, rfl, _, _⟩ := id hx.lstI
    obtain ⟨b, _, rfl, _, _⟩ := id hy.lstI
    cases (show u = Value.ref a from rx)
    cases (show v = Value.ref b from ry)
    have LI : GQ.ListI X.prog X.w X.A X.xe a b l.length (fun _ s' => LoopJ X pins σ H s') := by
      intro i s' q
      obtain ⟨H1, I1, e1⟩ := id q
      obtain ⟨ex, st1⟩ := kept_ext e1 st
      have m := ex.mono (.inl rfl)
      obtain ⟨a', xs, its, n, ea, g1, r1, h2, z1⟩ := lst_obj cn.K I1 (hx.mono m)
      obtain ⟨b', ys, its2, n2, eb, g2, r2, h4, z2⟩ := lst_obj cn.K I1 (hy.mono m)
      cases ea; cases eb
      refine ⟨its.toArray, its2.toArray, n, n2, g1, g2, by rw [List.size_toArray, ← r1.length, h2.length], by rw [List.size_toArray, ← r2.length, h4.length, isosN_len h], fun q1 q2 => ?_⟩
      refine wpAny_mono (isosN_turn (H := H1) cn st1 r1 r2 h2 h4 h i q1 q2 s' ⟨H1, I1, L2.Ext.rfl'⟩) (fun r s2 q => ?_) fun _ _ x => x
      obtain ⟨hr, H2, I2, e2⟩ := q
      exact ⟨hr, H2, I2, e1.trans e2⟩
    exact ⟨GQ.rc_listG cn.room.units0 _ LI (fun s' q => ⟨rfl, q⟩) ⟨H, I, L2.Ext.rfl'⟩, rn_listG cn.room.units0 _ LI (fun s' q => ⟨rfl, q⟩) ⟨H, I, L2.Ext.rfl'⟩⟩
  · cases h
theorem deep_cmp (cn : Cn T P k Wx X) {x y : V} {u v : Value} {d e : D} (I : Inv X pins σ H s) (rx : RelV x u) (ry : RelV y v) (st : StOk T w H S) (hx : Rep T w H x d) (hy : Rep T w H y e) (h : eqDeep P (run P k) d e = true) :
    wpAny (model X.prog X.w) X.A (richCompare .Eq u v) (fun r s' => r = .bool true ∧ LoopJ X pins σ H s') X.xe s ∧
    wpAny (model X.prog X.w) X.A (richCompare .NotEq u v) (fun r s' => r = .bool false ∧ LoopJ X pins σ H s') X.xe s := by
  unfold eqDeep at h
  split at h
  · rcases Bool.or_eq_true_iff.mp h with h | h
    · exact deep_iso cn I rx ry st hx hy h
    · exact deep_isoN cn I rx ry st hx hy h
  · rcases Bool.or_eq_true_iff.mp h with h | h
    · exact deep_iso cn I rx ry st hx hy h
    · exact deep_isoN cn I rx ry st hx hy h
  · cases h
end
end Mi
end

section
set_option maxRecDepth 100000
set_option maxHeartbeats 1000000
set_option exponentiation.threshold 10000
/-! Mi: operators, comparisons, truth, attributes, indices, built-in functions. -/
namespace Mi
open PySem PySem.Spec L2 PyProof.Rows
section
variable {T : Tb} {P : Pg} {k : Nat} {Wx : WX} {X : Cx} {pins : List (Addr × Obj)} {σ : L2.St} {H : Hp} {s : Shared} {Q : VK} {w : Wl} {S : Store}
theorem lim_line : lim ≤ sizeLine := by rw [sizeLine_eq]; decide
theorem op_bin (cn : Cn T P k Wx X) (op : Bop) : OpS X (binaryOp (bopO op)) (r2 T Wx (binM P (run P k) op)) := by
  intro pins s σ H x y v u Q I rx ry ⟨w, S, dx, dy, st, hx, hy, h⟩
  cases dx with
  | int i =>
    cases dy with
    | int j =>
      have ex := hx.intI; have ey := hy.intI; subst ex ey
      cases op with
      | add => exact op_add.at I rx ry ⟨i, j, rfl, rfl, post_ok h (.int _) st⟩
      | sub => exact op_sub.at I rx ry ⟨i, j, rfl, rfl, post_ok h (.int _) st⟩
      | mul =>
        obtain ⟨q, h⟩ := post_if h
        exact op_mulA.at I rx ry ⟨i, j, rfl, rfl, mu_ok q, post_ok h (.int _) st⟩
      | fdiv =>
        obtain ⟨q, h⟩ := post_if h
        exact op_fdivS.at I rx ry ⟨i, j, rfl, rfl, ⟨by simpa using (bt q).1, by have := sz_log2 (bt q).2; omega⟩, post_ok h (.int _) st⟩
      | mod =>
        obtain ⟨q, h⟩ := post_if h
        exact op_modN.at I rx ry ⟨i, j, rfl, rfl, by simpa using q, post_ok h (.int _) st⟩
      | pow =>
        obtain ⟨q, h⟩ := post_if h
        obtain ⟨q1, q2⟩ := bt q
        obtain ⟨q3, q4⟩ := bt q1
        exact op_pow.at I rx ry ⟨i, j, rfl, rfl, ⟨of_decide_eq_true q3, by have := of_decide_eq_true q4; omega, of_decide_eq_true q2⟩, post_ok h (.int _) st⟩
    | _ => exact (show False from h).elim
  | str a =>
    cases dy with
    | str b =>
      have ex := hx.strI; have ey := hy.strI; subst ex ey
      cases op with
      | add =>
        obtain ⟨q, h⟩ := post_if h
        exact op_add_str.at I rx ry ⟨a, b, rfl, rfl, Nat.le_trans q lim_line, post_ok h (.str _) st⟩
      | _ => exact (show False from h).elim
    | _ => exact (show False from h).elim
  | lst a =>
    cases dy with
    | lst b =>
      cases op with
      | add =>
        obtain ⟨q, h⟩ := post_if h
        exact cat_list cn.K I rx ry st hx hy q h
      | _ => exact (show False from h).elim
    | _ => exact (show False from h).elim
  | obj c fs =>
    have go : ∀ u' op', opOf u' = some op' → dunS u' = PySem.dunder op'.info.2 → opDun op = some u' → bopO op = op' → wpAny (model X.prog X.w) X.A (binaryOp (bopO op) v u) (EP X pins σ Q) X.xe s := by
      intro u' op' e1 e2 e3 e4
      have h' : PostE T Wx w σ H (match dunOf P c u' with
        | some f => if rOk P c u' dy then run P k (.fn f [.obj c fs, dy]) S else .bad
        | none => .bad) Q := by
        have := h
        simp only [binM, e3] at this
        exact this
      cases hf : dunOf P c u' with
      | none => rw [hf] at h'; exact h'.elim
      | some f =>
        rw [hf] at h'
        obtain ⟨q, h'⟩ := post_if h'
        rw [e4]
        exact own_op cn e1 e2 hf q I rx ry st hx hy h'
    cases op with
    | add => exact go .add .Add rfl rfl rfl rfl
    | sub => exact go .sub .Sub rfl rfl rfl rfl
    | mul => exact go .mul .Mult rfl rfl rfl rfl
    | _ => exact (show False from h).elim
  | _ => exact (show False from h).elim
theorem op_negS (cn : Cn T P k Wx X) : UnS X (unaryOp .USub) (r1 T Wx (negM P (run P k))) := by
  intro pins s σ H x v Q I rx ⟨w, S, dx, st, hx, h⟩
  cases dx with
  | int i =>
    have ex := hx.intI; subst ex
    exact un_neg pins s σ H _ v Q I rx ⟨i, rfl, post_ok h (.int _) st⟩
  | obj c fs =>
    have h' : PostE T Wx w σ H (match dunOf P c .neg with
      | some f => run P k (.fn f [.obj c fs]) S
      | none => .bad) Q := h
    cases hf : dunOf P c .neg with
    | none => rw [hf] at h'; exact h'.elim
    | some f =>
      rw [hf] at h'
      obtain ⟨ci, hc, hcl, hfl, dk⟩ := dun_at cn hf
      obtain ⟨a, dx, vs, rfl, ha, fz, rf⟩ := hx.objI
      cases (show v = Value.ref a from rx)
      obtain ⟨od, J, _⟩ := inst_at I ha
      obtain ⟨m, hF⟩ := I.fr
      have kI := I.ok.mod.kin
      rw [cn.K] at kI
      exact PySem.W.ksp_neg hF kI J dk.at_ dk.fn (call_fn cn I (vs := [.ref a]) (.cons rfl .nil) st (.cons hx .nil) (run_np rfl (post_nb h')) h')
  | _ => exact (show False from h).elim
theorem as_bool {r : Res} (h : PostE T Wx w σ H (asBool r) Q) : PostE T Wx w σ H r Q ∧ ∀ d S', r = .ok d S' → ∃ b, d = .bl b := by
  cases r with
  | ok d S' =>
    cases d with
    | bl b => exact ⟨h, fun _ _ e => by cases e; exact ⟨b, rfl⟩⟩
    | _ => exact h.elim
  | exc c fs S' => exact ⟨h, fun _ _ e => by cases e⟩
  | bad => exact h.elim
theorem bl_post {r : Res} (h : PostE T Wx w σ H r Q) (h2 : ∀ d S', r = .ok d S' → ∃ b, d = .bl b) : PostE T Wx w σ H r (fun v H' => ∃ b, v = .bl b ∧ Q (.bl b) H') := by
  cases r with
  | ok d S' =>
    obtain ⟨b, rfl⟩ := h2 d S' rfl
    intro v w' H' e r st
    have q := h v w' H' e r st
    cases r
    exact ⟨b, rfl, q⟩
  | exc c fs S' => exact h
  | bad => exact h.elim
theorem flip_bool {r : Res} (h : PostE T Wx w σ H (flipB r) Q) : PostE T Wx w σ H r (fun v H' => ∃ b, v = .bl b ∧ Q (.bl !b) H') := by
  cases r with
  | ok d S' =>
    cases d with
    | bl b =>
      intro v w' H' e r st
      cases r
      exact ⟨b, rfl, h _ w' H' e (.bl _) st⟩
    | _ => exact h.elim
  | exc c fs S' => exact h
  | bad => exact h.elim
theorem dpc_of (st : StOk T w H S) {d : D} {p : PyData} {x : V} (h : okE d S = some p) (r : Rep T w H x d) : Dp T.K H x p ∧ SeqAt.shaped p = true := by
  have go : okD d = some p → Dp T.K H x p ∧ SeqAt.shaped p = true := fun h => ⟨dp_of (okD_some h).1 r, (okD_some h).2⟩
  cases d with
  | cell n =>
    simp only [okE] at h
    split at h
    · rename_i l e
      obtain ⟨a, vs, rfl, _, h1, h2⟩ := cell_lst st r e
      obtain ⟨q1, q2⟩ := okD_some h
      unfold pyD at q1
      cases e2 : pyDs l with
      | none => rw [e2] at q1; cases q1
      | some q =>
        rw [e2] at q1; cases q1
        exact ⟨.lst (.inl (.inl h1)) (dps_of e2 h2), q2⟩
    · cases h
  | _ => exact go h
theorem op_eqS (cn : Cn T P k Wx X) : OpS X (compareOp .Eq) (r2 T Wx (eqM P (run P k))) := by
  intro pins s σ H x y v u Q I rx ry ⟨w, S, dx, dy, st, hx, hy, h⟩
  have own : PostE T Wx w σ H (eqOwn P (run P k) dx dy S) Q → wpAny (model X.prog X.w) X.A (compareOp .Eq v u) (EP X pins σ Q) X.xe s := by
    intro h
    cases dx with
    | obj c fs =>
      unfold eqOwn at h
      dsimp only at h
      cases hf : dunOf P c .eq with
      | none => rw [hf] at h; exact h.elim
      | some f =>
        rw [hf] at h
        obtain ⟨q, h⟩ := post_if h
        obtain ⟨h1, h2⟩ := as_bool h
        obtain ⟨ci, hc, hcl, hfl, dk⟩ := dun_at cn hf
        obtain ⟨a, dx, vs, rfl, ha, fz, rf⟩ := hx.objI
        cases (show v = Value.ref a from rx)
        obtain ⟨od, J, _⟩ := inst_at I ha
        obtain ⟨m, hF⟩ := I.fr
        have kI := I.ok.mod.kin
        rw [cn.K] at kI
        obtain ⟨tb, L, nf⟩ := not_first cn hc q I ry hy
        show wpAny _ _ (richCompare .Eq _ _) _ _ _
        refine PySem.W.cmp_K (op := .Eq) (tb := tb) cn.room.units0 hF kI J L nf dk.at_ dk.fn ?_
        exact wpAny_mono (call_fn cn I (vs := [.ref a, y]) (.cons rfl (.cons ry .nil)) st (.cons hx (.cons hy .nil)) (run_np rfl (post_nb h1)) h1) (fun _ _ z => ep_back z) fun _ _ e => e
    | _ => exact h.elim
  have own : PostE T Wx w σ H (if eqDeep P (run P k) dx dy then .ok (.bl true) S else eqOwn P (run P k) dx dy S) Q → wpAny (model X.prog X.w) X.A (compareOp .Eq v u) (EP X pins σ Q) X.xe s := by
    intro h
    split at h
    · rename_i q
      show wpAny _ _ (richCompare .Eq _ _) _ _ _
      refine wpAny_mono (deep_cmp cn I rx ry st hx hy q).1 (fun r s' z => ?_) fun _ _ e => e
      obtain ⟨er, H', I', e⟩ := z
      subst er
      obtain ⟨ex, st'⟩ := kept_ext e st
      exact ⟨.bl true, H', I', rfl, h _ w H' ex (.bl _) st'⟩
    · exact own h
  have h' : PostE T Wx w σ H (eqM P (run P k) dx dy S) Q := h
  unfold eqM at h'
  cases e1 : okE dx S with
  | none => rw [e1] at h'; exact own h'
  | some p =>
    cases e2 : okE dy S with
    | none => rw [e1, e2] at h'; exact own h'
    | some q =>
      rw [e1, e2] at h'
      obtain ⟨a1, a2⟩ := dpc_of st e1 hx
      obtain ⟨b1, b2⟩ := dpc_of st e2 hy
      exact (op_eqD cn.room.units).at I rx ry ⟨p, q, by rw [cn.K]; exact a1, by rw [cn.K]; exact b1, a2, b2, post_ok h' (.bl _) st⟩
theorem op_neS (cn : Cn T P k Wx X) : OpS X (compareOp .NotEq) (r2 T Wx (neM P (run P k))) := by
  intro pins s σ H x y v u Q I rx ry ⟨w, S, dx, dy, st, hx, hy, h⟩
  have own : PostE T Wx w σ H (neOwn P (run P k) dx dy S) Q → wpAny (model X.prog X.w) X.A (compareOp .NotEq v u) (EP X pins σ Q) X.xe s := by
    intro h
    cases dx with
    | obj c fs =>
      unfold neOwn at h
      dsimp only at h
      cases hf : dunOf P c .eq with
      | none => rw [hf] at h; exact h.elim
      | some f =>
        rw [hf] at h
        obtain ⟨q, h⟩ := post_if h
        have h1 := flip_bool h
        obtain ⟨ci, hc, hcl, hfl, dk⟩ := dun_at cn hf
        obtain ⟨a, dx, vs, rfl, ha, fz, rf⟩ := hx.objI
        cases (show v = Value.ref a from rx)
        obtain ⟨od, J, _⟩ := inst_at I ha
        have kI := I.kIn
        rw [cn.K] at kI
        obtain ⟨tb, L, nf⟩ := not_first cn hc q I ry hy
        show wpAny _ _ (richCompare .NotEq _ _) _ _ _
        have hun := cn.room.units
        refine ne_own (by omega) kI J L nf (dk.ne rfl) dk.at_ dk.fn (cn.ko.cls c hcl).cm ?_
        have hl : fill P f 0 [.obj c fs, dy] = some [.obj c fs, dy] := by
          cases k with
          | zero => exact absurd rfl (post_nb h1)
          | succ j => exact run_np (S := S) (j := j) rfl (fun z => by
              have := post_nb h1
              exact this z)
        refine wpAny_mono (wpAny_call (call_low cn I (vs := [.ref a, y]) (.cons rfl (.cons ry .nil)) st (.cons hx (.cons hy .nil)) hl h1)) (fun z s' hz => ?_) fun _ _ e => e
        obtain ⟨zv, H', I', rz, b, eb, qb⟩ := hz
        subst eb
        cases (show z = Value.bool b from rz)
        exact ⟨b, rfl, .bl _, H', I', rfl, qb⟩
    | _ => exact h.elim
  have own : PostE T Wx w σ H (if eqDeep P (run P k) dx dy then .ok (.bl false) S else neOwn P (run P k) dx dy S) Q → wpAny (model X.prog X.w) X.A (compareOp .NotEq v u) (EP X pins σ Q) X.xe s := by
    intro h
    split at h
    · rename_i q
      show wpAny _ _ (richCompare .NotEq _ _) _ _ _
      refine wpAny_mono (deep_cmp cn I rx ry st hx hy q).2 (fun r s' z => ?_) fun _ _ e => e
      obtain ⟨er, H', I', e⟩ := z
      subst er
      obtain ⟨ex, st'⟩ := kept_ext e st
      exact ⟨.bl false, H', I', rfl, h _ w H' ex (.bl _) st'⟩
    · exact own h
  have h' : PostE T Wx w σ H (neM P (run P k) dx dy S) Q := h
  unfold neM at h'
  cases e1 : okE dx S with
  | none => rw [e1] at h'; exact own h'
  | some p =>
    cases e2 : okE dy S with
    | none => rw [e1, e2] at h'; exact own h'
    | some q =>
      rw [e1, e2] at h'
      obtain ⟨a1, a2⟩ := dpc_of st e1 hx
      obtain ⟨b1, b2⟩ := dpc_of st e2 hy
      exact (op_neD cn.room.units).at I rx ry ⟨p, q, by rw [cn.K]; exact a1, by rw [cn.K]; exact b1, a2, b2, post_ok h' (.bl _) st⟩
theorem flats_V : ∀ {xs : List V} {ds : List D}, Reps T w H xs ds → ds.all flat = true → xs.all flatV = true
  | _, _, .nil, _ => rfl
  | _, _, .cons r t, h => by
    rw [List.all_cons] at h
    rw [List.all_cons, flat_V r (bt h).1, flats_V t (bt h).2]; rfl
theorem in_eq {x : V} {d : D} (r : Rep T w H x d) (h : flat d = true) : ∀ {xs : List V} {ds : List D}, Reps T w H xs ds → ds.all flat = true → inV x xs = ds.any fun e => eqD e d
  | _, _, .nil, _ => rfl
  | _, _, .cons q t, h' => by
    rw [List.all_cons] at h'
    have := in_eq r h t (bt h').2
    unfold inV at this ⊢
    rw [List.any_cons, List.any_cons, this, flat_eq q r (bt h').1 h]
theorem elems_sq {y : V} {dy : D} {l : List D} (hK : X.K = T.K) (r : Rep T w H y dy) (h : elems dy = some l) : ∃ p xs, y = .ref p ∧ (SqL X.K H p xs ∨ SqT X.K H p xs) ∧ Reps T w H xs l := by
  rw [hK]
  cases dy with
  | lst l' =>
    cases h
    obtain ⟨a, vs, e, h1, h2⟩ := r.lstI
    exact ⟨a, vs, e, .inl h1, h2⟩
  | tup l' =>
    cases h
    obtain ⟨a, vs, e, h1, h2⟩ := r.tupI
    exact ⟨a, vs, e, .inr h1, h2⟩
  | _ => cases h
theorem own_con (cn : Cn T P k Wx X) {x y : V} {v u : Value} {dx dy : D} (I : Inv X pins σ H s) (rx : RelV x v) (ry : RelV y u) (st : StOk T w H S) (hx : Rep T w H x dx) (hy : Rep T w H y dy) (h : PostE T Wx w σ H (conOwn P (run P k) dx dy S) Q) :
    wpAny (model X.prog X.w) X.A (compareOp .In v u) (EP X pins σ Q) X.xe s := by
  cases dy with
  | obj c fs =>
    unfold conOwn at h
    dsimp only at h
    cases hf : dunOf P c .con with
    | none => rw [hf] at h; exact h.elim
    | some f =>
      rw [hf] at h
      obtain ⟨h1, h2⟩ := as_bool h
      obtain ⟨ci, hc, hcl, hfl, dk⟩ := dun_at cn hf
      obtain ⟨a, dx', vs, rfl, ha, fz, rf⟩ := hy.objI
      cases (show u = Value.ref a from ry)
      obtain ⟨od, J, _⟩ := inst_at I ha
      have kI := I.kIn
      rw [cn.K] at kI
      show wpAny _ _ (contains (.ref a) v >>= fun r => pure (Value.bool r)) _ _ _
      refine wpAny_bind (con_own kI J dk.at_ dk.fn (wpAny_mono (call_fn cn I (vs := [.ref a, x]) (.cons rfl (.cons rx .nil)) st (.cons hy (.cons hx .nil)) (run_np rfl (post_nb h1)) (bl_post h1 h2)) (fun z s' hz => ?_) fun _ _ e => e))
      obtain ⟨zv, H', I', rz, b, eb, qb⟩ := hz
      subst eb
      cases (show z = Value.bool b from rz)
      exact ⟨b, rfl, wpAny_pure ⟨.bl b, H', I', rfl, qb⟩⟩
  | _ => exact h.elim
theorem is_B {x : V} {d : D} {v b : Bool} (r : Rep T w H x d) (h : PostE T Wx w σ H (isB v b d S) Q) (st : StOk T w H S) : Q (.bl (if x = .bl b then v else !v)) H ∧ ∀ u, RelV x u → plainIs u (.bool b) = true ∧ (u = .bool b ↔ x = .bl b) := by
  have fl : ∀ {a : Addr} {u : Value}, RelV (V.ref a) u → plainIs u (.bool b) = true ∧ (u = .bool b ↔ V.ref a = .bl b) := by
    intro a u hu
    cases (show u = Value.ref a from hu)
    exact ⟨rfl, ⟨(fun z => nomatch z), (fun z => nomatch z)⟩⟩
  cases r <;> first
    | exact (show False from h).elim
    | (refine ⟨?_, fun u hu => fl hu⟩
       rw [if_neg (fun z => nomatch z)]
       exact post_ok h (.bl _) st)
    | skip
  · refine ⟨?_, fun u hu => ?_⟩
    · rw [if_neg (fun z => nomatch z)]
      exact post_ok h (.bl _) st
    · cases (show u = Value.none from hu)
      exact ⟨rfl, ⟨(fun z => nomatch z), (fun z => nomatch z)⟩⟩
  · rename_i a
    refine ⟨?_, fun u hu => ?_⟩
    · have e : (if V.bl a = .bl b then v else !v) = ((a == b) == v) := by cases a <;> cases b <;> cases v <;> rfl
      rw [e]
      exact post_ok h (.bl _) st
    · cases (show u = Value.bool a from hu)
      refine ⟨rfl, ⟨fun z => by cases z; rfl, fun z => by cases z; rfl⟩⟩
  · refine ⟨?_, fun u hu => ?_⟩
    · rw [if_neg (fun z => nomatch z)]
      exact post_ok h (.bl _) st
    · obtain ⟨t, e⟩ : ∃ t, u = Value.int _ t := hu
      subst e
      exact ⟨rfl, ⟨(fun z => nomatch z), (fun z => nomatch z)⟩⟩
  · refine ⟨?_, fun u hu => ?_⟩
    · rw [if_neg (fun z => nomatch z)]
      exact post_ok h (.bl _) st
    · obtain ⟨t, e⟩ : ∃ t, u = Value.str _ t := hu
      subst e
      exact ⟨rfl, ⟨(fun z => nomatch z), (fun z => nomatch z)⟩⟩
theorem op_cmp (cn : Cn T P k Wx X) (op : Cop) : OpS X (compareOp (copO op)) (r2 T Wx (cmpM P (run P k) op)) := by
  have ord : ∀ (op : Cop) (f : Value → Value → Sem Value), OpR X f (rI0 fun i j => .bl (cmpI op i j)) → OpS X f (r2 T Wx (fun x y S => match x with
    | .int i => (match y with
      | .int j => .ok (.bl (cmpI op i j)) S
      | _ => .bad)
    | _ => .bad)) := by
    intro op f hf pins s σ H x y v u Q I rx ry ⟨w, S, dx, dy, st, hx, hy, h⟩
    cases dx with
    | int i =>
      cases dy with
      | int j =>
        have ex := hx.intI; have ey := hy.intI; subst ex ey
        exact hf pins s σ H _ _ v u Q I rx ry ⟨i, j, rfl, rfl, post_ok h (.bl _) st⟩
      | _ => exact h.elim
    | _ => exact h.elim
  cases op with
  | eq => exact op_eqS cn
  | ne => exact op_neS cn
  | lt => exact ord .lt _ op_lt
  | le => exact ord .le _ op_le
  | gt => exact ord .gt _ op_gt
  | ge => exact ord .ge _ op_ge
  | is =>
    intro pins s σ H x y v u Q I rx ry ⟨w, S, dx, dy, st, hx, hy, h⟩
    cases dy with
    | bl b =>
      cases hy
      cases (show u = Value.bool b from ry)
      obtain ⟨q1, q2⟩ := is_B (v := true) hx h st
      obtain ⟨p1, p2⟩ := q2 v rx
      refine wpAny_is_plain p1 ⟨.bl _, H, I, rfl, ?_⟩
      have e : (v == Value.bool b) = (if x = .bl b then true else !true) := by
        by_cases hb : x = .bl b
        · rw [if_pos hb, p2.mpr hb]; exact beq_self_eq_true _
        · rw [if_neg hb]; exact beq_eq_false_iff_ne.mpr fun z => hb (p2.mp z)
      rw [e]
      exact q1
    | _ => exact (show False from h).elim
  | isnot =>
    intro pins s σ H x y v u Q I rx ry ⟨w, S, dx, dy, st, hx, hy, h⟩
    cases dy with
    | bl b =>
      cases hy
      cases (show u = Value.bool b from ry)
      obtain ⟨q1, q2⟩ := is_B (v := false) hx h st
      obtain ⟨p1, p2⟩ := q2 v rx
      refine wpAny_isNot_plain p1 ⟨.bl _, H, I, rfl, ?_⟩
      have e : (!(v == Value.bool b)) = (if x = .bl b then false else !false) := by
        by_cases hb : x = .bl b
        · rw [if_pos hb, p2.mpr hb]; simp
        · rw [if_neg hb, beq_eq_false_iff_ne.mpr fun z => hb (p2.mp z)]
      rw [e]
      exact q1
    | _ => exact (show False from h).elim
  | isin =>
    intro pins s σ H x y v u Q I rx ry ⟨w, S, dx, dy, st, hx, hy, h⟩
    have h' : PostE T Wx w σ H (match elems dy with
      | some l => if flat dx && l.all flat then .ok (.bl (l.any fun d => eqD d dx)) S else .bad
      | none => conOwn P (run P k) dx dy S) Q := h
    cases e : elems dy with
    | none => rw [e] at h'; exact own_con cn I rx ry st hx hy h'
    | some l =>
      rw [e] at h'
      obtain ⟨q, h'⟩ := post_if h'
      obtain ⟨p, xs, rfl, hs, rs⟩ := elems_sq cn.K hy e
      exact op_in_seq.at I rx ry ⟨p, xs, rfl, hs, flat_V hx (bt q).1, flats_V rs (bt q).2, by
        rw [in_eq hx (bt q).1 rs (bt q).2]; exact post_ok h' (.bl _) st⟩
  | notin =>
    intro pins s σ H x y v u Q I rx ry ⟨w, S, dx, dy, st, hx, hy, h⟩
    have h' : PostE T Wx w σ H (match elems dy with
      | some l => if flat dx && l.all flat then .ok (.bl !(l.any fun d => eqD d dx)) S else .bad
      | none => .bad) Q := h
    cases e : elems dy with
    | none => rw [e] at h'; exact h'.elim
    | some l =>
      rw [e] at h'
      obtain ⟨q, h'⟩ := post_if h'
      obtain ⟨p, xs, rfl, hs, rs⟩ := elems_sq cn.K hy e
      exact op_notIn_seq.at I rx ry ⟨p, xs, rfl, hs, flat_V hx (bt q).1, flats_V rs (bt q).2, by
        rw [in_eq hx (bt q).1 rs (bt q).2]; exact post_ok h' (.bl _) st⟩
theorem list_ne {α β : Type} {a : List α} {b : List β} (h : a.length = b.length) : a.isEmpty = b.isEmpty := by
  cases a <;> cases b <;> simp_all
theorem truth_V {x : V} {d : D} {b : Bool} (r : Rep T w H x d) (h : truth d = some b) : TruV T.K x H b := by
  cases d with
  | non => cases r; cases h; exact rfl
  | bl _ => cases r; cases h; exact rfl
  | int _ => cases r; cases h; exact rfl
  | str z =>
    cases r
    unfold truth at h
    by_cases q : z.length ≤ sizeLine
    · simp only [q, if_true] at h
      cases h
      refine ⟨q, ?_⟩
      cases e : z.length with
      | zero => rfl
      | succ n =>
        simp
        omega
    · simp only [q, if_false] at h; cases h
  | lst l =>
    cases h
    obtain ⟨a, vs, rfl, h1, h2⟩ := r.lstI
    exact .inl ⟨vs, h1, by rw [list_ne h2.length]⟩
  | tup l =>
    cases h
    obtain ⟨a, vs, rfl, h1, h2⟩ := r.tupI
    exact .inr (.inl ⟨vs, h1, by rw [list_ne h2.length]⟩)
  | _ => cases h
theorem truth_ok (hK : X.K = T.K) {x : V} {u : Value} {d : D} {b : Bool} {R : Bool → Hp → Prop} (I : Inv X pins σ H s) (rx : RelV x u) (r : Rep T w H x d) (h : truth d = some b) (q : R b H) : wpAny (model X.prog X.w) X.A (truthy u) (TP X pins σ R) X.xe s :=
  tru_ok pins s σ H x u R I rx ⟨b, by rw [hK]; exact truth_V r h, q⟩
end
end Mi
end

section
set_option maxRecDepth 100000
set_option maxHeartbeats 1000000
/-! Mi: rules for expressions and tests. -/
namespace Mi
open PySem PySem.Spec L2 PyProof.Rows

/-! ### the tree's forms -/
/-- o is not super() -/
def plainO : Expr → Bool
  | .Call (.Name id _) [] [] _ => id != "super"
  | _ => true
theorem attr_base {o : Expr} {f : Str} {env : Env} {wh : Sem Value} (h : plainO o = true) : attributeBase o f env wh = wh := by
  unfold attributeBase
  split
  · rename_i id pn pos
    have h' : (id != "super") = true := h
    simp only [h', Bool.true_or, if_true]
    try exact bind_pure _
  · rfl
def noStar : List Expr → Bool
  | [] => true
  | .Starred _ _ :: _ => false
  | _ :: r => noStar r
theorem star_cons {e : Expr} {es : List Expr} {env : Env} (h : noStar (e :: es) = true) : starEach (e :: es) env = (false, eval e env) :: starEach es env ∧ noStar es = true := by
  cases e <;> first
    | exact absurd (show false = true from h) Bool.false_ne_true
    | exact ⟨rfl, h⟩
theorem star_any {pos : Pos} {env : Env} : ∀ {es : List Expr}, noStar es = true → (backTo pos (starEach es env)).any (·.1) = false
  | [], _ => rfl
  | e :: es, h => by
    obtain ⟨h1, h2⟩ := star_cons (env := env) h
    rw [h1]
    exact star_any h2
theorem star_all {pos : Pos} {env : Env} : ∀ {es : List Expr}, noStar es = true → (backTo pos (starEach es env)).all (fun x => !x.1) = true
  | [], _ => rfl
  | e :: es, h => by
    obtain ⟨h1, h2⟩ := star_cons (env := env) h
    rw [h1]
    exact star_all h2
theorem meth_form {o : Expr} {m : Str} {apos pos : Pos} {es : List Expr} {env : Env} (h1 : plainO o = true) (h2 : noStar es = true) (h3 : es.length < 30) (h4 : (apos.endLine == pos.line) = true) :
    eval (.Call (.Attribute o m apos) es [] pos) env = (do
      let ov ← eval o env
      standAt apos.atName
      let (f, first) ← holding [ov] (getMethod ov m (do return (← importBound o env).getD true))
      callWith pos f first (backTo pos (starEach es env)) (backToKw pos (keywordEach [] env))) := by
  have e1 : eval (.Call (.Attribute o m apos) es [] pos) env = (do
      let ov ← attributeBase o m env (eval o env)
      standAt apos.atName
      methodCall o m apos pos env ov (es.length + ([] : List Keyword).length) (backTo pos (starEach es env)) (backToKw pos (keywordEach [] env))) := rfl
  have e2 : methodCallForm (es.length + ([] : List Keyword).length) (backTo pos (starEach es env)) (backToKw pos (keywordEach [] env)) = true := by
    unfold methodCallForm
    rw [star_all h2]
    show (true && true && decide (es.length + 0 + 0 < 30)) = true
    simpa using h3
  rw [e1, attr_base h1]
  unfold methodCall
  rw [e2]
  have e3 : ∀ p, methodCallPos true o env apos pos = pure p ↔ methodCallPos true o env apos pos = pure p := fun _ => Iff.rfl
  have e4 : methodCallPos true o env apos pos = pure pos := by
    unfold methodCallPos
    rw [h4]; rfl
  rw [e4]
  rfl
theorem kw_names {pos : Pos} {env : Env} : ∀ {kws : List Keyword}, (backToKw pos (keywordEach kws env)).map (·.1) = kws.map (·.arg)
  | [] => rfl
  | ⟨n, v, p⟩ :: r => by
    show n :: (backToKw pos (keywordEach r env)).map (·.1) = n :: r.map (·.arg)
    rw [kw_names]
theorem some_list {α : Type} : ∀ {x : List (Option Str × α)} {l : List Str}, x.map (·.1) = l.map some → x.all (·.1.isSome) = true ∧ x.any (·.1.isNone) = false ∧ x.filterMap (·.1) = l
  | [], [], _ => ⟨rfl, rfl, rfl⟩
  | [], _ :: _, h => by cases h
  | _ :: _, [], h => by cases h
  | (n, v) :: x, y :: l, h => by
    obtain ⟨h1, h2⟩ := List.cons.inj (show n :: x.map (·.1) = some y :: l.map some from h)
    obtain ⟨q1, q2, q3⟩ := some_list h2
    subst h1
    exact ⟨by simp [q1], by simp [q2], by simp [q3]⟩
theorem kw_len {pos : Pos} {env : Env} {kws : List Keyword} : (backToKw pos (keywordEach kws env)).length = kws.length := by
  have := congrArg List.length (kw_names (pos := pos) (env := env) (kws := kws))
  simpa using this
theorem meth_formK {o : Expr} {m : Str} {apos pos : Pos} {es : List Expr} {kws : List Keyword} {l : List Str} {env : Env} (h1 : plainO o = true) (h2 : noStar es = true) (h3 : es.length + kws.length < 15) (h4 : (apos.endLine == pos.line) = true) (hk : kws.map (·.arg) = l.map some) :
    eval (.Call (.Attribute o m apos) es kws pos) env = (do
      let ov ← eval o env
      standAt apos.atName
      let (f, first) ← holding [ov] (getMethod ov m (do return (← importBound o env).getD true))
      callWith pos f first (backTo pos (starEach es env)) (backToKw pos (keywordEach kws env))) := by
  have e1 : eval (.Call (.Attribute o m apos) es kws pos) env = (do
      let ov ← attributeBase o m env (eval o env)
      standAt apos.atName
      methodCall o m apos pos env ov (es.length + kws.length) (backTo pos (starEach es env)) (backToKw pos (keywordEach kws env))) := rfl
  have e2 : methodCallForm (es.length + kws.length) (backTo pos (starEach es env)) (backToKw pos (keywordEach kws env)) = true := by
    obtain ⟨q1, q2, q3⟩ := some_list ((kw_names (pos := pos) (env := env) (kws := kws)).trans hk)
    unfold methodCallForm
    rw [star_all h2, q1]
    simp only [Bool.true_and, Bool.and_true, decide_eq_true_eq]
    first
      | omega
      | (split <;> omega)
  rw [e1, attr_base h1]
  unfold methodCall
  rw [e2]
  have e4 : methodCallPos true o env apos pos = pure pos := by
    unfold methodCallPos
    rw [h4]; rfl
  rw [e4]
  rfl
def plainIx : Expr → Bool
  | .Slice .. => false
  | _ => true
theorem plain_ix {b : Expr} (h : plainIx b = true) : PlainIx b := by
  intro o i
  cases b <;> first
    | exact absurd (show false = true from h) Bool.false_ne_true
    | rfl
def plainT : Expr → Bool
  | .UnaryOp .Not _ _ => false | .BoolOp .. => false | .IfExp .. => false | .Compare .. => false
  | _ => true
theorem plain_t {a : Expr} {env : Env} (h : plainT a = true) : ∀ whole, isTrue a env whole = (do let v ← whole; standAt a.pos; holding [v] (truthy v)) := by
  intro wh
  cases a <;> first
    | exact absurd (show false = true from h) Bool.false_ne_true
    | rfl
    | (rename_i op _ _; cases op <;> first
        | exact absurd (show false = true from h) Bool.false_ne_true
        | rfl)
/-- what stands behind in, not in: no set display -/
def plainSet : Expr → Bool
  | .Set .. => false
  | _ => true
theorem plain_behind {op : CmpOp} {b : Expr} (h : plainSet b = true) : behindInMarks op b = false := by
  cases b <;> first
    | exact absurd (show false = true from h) Bool.false_ne_true
    | rfl

/-! ### rules -/
theorem PE.imp {X : Cx} {e : Expr} {t t' : TE} (h : PE X e t) (i : ∀ σ H Q, t' σ H Q → t σ H Q) : PE X e t' := ⟨fun pins s σ H Q I hw => h.run pins s σ H Q I (i σ H Q hw)⟩
def tru (m : Mir) : Mir := fun fr S => (m fr S).bind fun d S1 => match truth d with
  | some b => .ok (.bl b) S1
  | none => .bad
def tT (T : Tb) (Wx : WX) (m : Mir) : TT := fun σ H Q => tE T Wx (tru m) σ H (fun v H' => ∃ b, v = .bl b ∧ Q b H')
section
variable {T : Tb} {P : Pg} {k : Nat} {Wx : WX} {X : Cx} {pins : List (Addr × Obj)} {σ : L2.St} {H : Hp} {s : Shared} {Q : VK} {w : Wl} {S : Store} {a b c : Expr} {ma mb mc : Mir} {pos : Pos}
/-- one value -/
theorem un1 {g : D → Store → Res} (h : tE T Wx (fun fr S => (ma fr S).bind g) σ H Q) : tE T Wx ma σ H (fun x H1 => r1 T Wx g σ x H1 Q) := by
  obtain ⟨w, fr, S, f, st, p⟩ := h
  exact ⟨w, fr, S, f, st, (post_bind p).imp fun v H1 ⟨w1, d, S1, e, r, st1, _, q⟩ => ⟨w1, S1, d, st1, r, q⟩⟩
/-- two values -/
theorem bin2 {g : D → D → Store → Res} (h : tE T Wx (fun fr S => (ma fr S).bind fun x S1 => (mb fr S1).bind fun y S2 => g x y S2) σ H Q) : tE T Wx ma σ H (fun x H1 => tE T Wx mb σ H1 (fun y H2 => r2 T Wx g σ x y H2 Q)) := by
  obtain ⟨w, fr, S, f, st, p⟩ := h
  refine ⟨w, fr, S, f, st, (post_bind p).imp fun x H1 ⟨w1, d, S1, e, r, st1, _, q⟩ => ?_⟩
  exact ⟨w1, fr, S1, f.mono e st, st1, (post_bind q).imp fun y H2 ⟨w2, d2, S2, e2, r2, st2, _, q2⟩ => ⟨w2, S2, d, d2, st2, r.mono (e2.mono (.inl rfl)), r2, q2⟩⟩
theorem m_bin {op : Operator} {g : D → D → Store → Res} (ho : OpS X (binaryOp op) (r2 T Wx g)) (ha : PE X a (tE T Wx ma)) (hb : PE X b (tE T Wx mb)) :
    PE X (.BinOp a op b pos) (tE T Wx fun fr S => (ma fr S).bind fun x S1 => (mb fr S1).bind fun y S2 => g x y S2) :=
  ⟨fun pins s σ H Q I h => wpAny_BinOp (L2.bin ha hb I (bin2 h) fun v u s2 x y H2 I2 rx ry q => ho pins s2 σ H2 x y v u Q I2 rx ry q)⟩
theorem m_cmp {op : CmpOp} {g : D → D → Store → Res} (ho : OpS X (compareOp op) (r2 T Wx g)) (ha : PE X a (tE T Wx ma)) (hb : PE X b (tE T Wx mb)) (hm : plainSet b = true) :
    PE X (.Compare a [op] [b] pos) (tE T Wx fun fr S => (ma fr S).bind fun x S1 => (mb fr S1).bind fun y S2 => g x y S2) :=
  ⟨fun pins s σ H Q I h => wpAny_Compare1 (L2.bin ha hb I (bin2 h) fun v u s2 x y H2 I2 rx ry q => ho pins s2 σ H2 x y v u Q I2 rx ry q) (plain_behind hm)⟩
/-- what a test wants of a value -/
theorem tru_post {r : Res} {R : Bool → Hp → Prop} (h : PostE T Wx w σ H (r.bind fun d S1 => match truth d with
    | some b => .ok (.bl b) S1
    | none => .bad) (fun v H' => ∃ b, v = .bl b ∧ R b H')) : PostE T Wx w σ H r (fun v H1 => ∃ w1 d S1 b, Ext none w H w1 H1 ∧ Rep T w1 H1 v d ∧ StOk T w1 H1 S1 ∧ r = .ok d S1 ∧ truth d = some b ∧ R b H1) := by
  refine (post_bind h).imp fun v H1 ⟨w1, d, S1, e, rv, st, er, q⟩ => ?_
  cases ht : truth d with
  | none => rw [ht] at q; exact q.elim
  | some b =>
    rw [ht] at q
    obtain ⟨b', e1, e2⟩ := post_ok (v := .bl b) q (.bl b) st
    cases e1
    exact ⟨w1, d, S1, b, e, rv, st, er, ht, e2⟩
/-- a comparison gives bools alone -/
theorem m_tcmp {op : CmpOp} {g : D → D → Store → Res} (ho : OpS X (compareOp op) (r2 T Wx g)) (hg : ∀ x y S d S', g x y S = .ok d S' → ∃ b, d = .bl b) (ha : PE X a (tE T Wx ma)) (hb : PE X b (tE T Wx mb)) (hm : plainSet b = true) :
    PT X (.Compare a [op] [b] pos) (tT T Wx fun fr S => (ma fr S).bind fun x S1 => (mb fr S1).bind fun y S2 => g x y S2) := by
  refine ⟨fun pins s σ H Q I h => ?_⟩
  have h' : tE T Wx (fun fr S => (ma fr S).bind fun x S1 => (mb fr S1).bind fun y S2 => g x y S2) σ H (fun v H' => ∃ b, v = .bl b ∧ Q b H') := by
    obtain ⟨w, fr, S, f, st, p⟩ := h
    refine ⟨w, fr, S, f, st, (tru_post p).imp fun v H1 ⟨w1, d, S1, b, e, r, st1, er, ht, q⟩ => ?_⟩
    have hd : ∃ b, d = .bl b := by
      change (ma fr S).bind (fun x S1 => (mb fr S1).bind fun y S2 => g x y S2) = _ at er
      cases e1 : ma fr S with
      | ok x S2 =>
        rw [e1] at er
        cases e2 : mb fr S2 with
        | ok y S3 =>
          simp only [Res.bind, e2] at er
          exact hg _ _ _ _ _ er
        | exc _ _ _ => simp only [Res.bind, e2] at er; cases er
        | bad => simp only [Res.bind, e2] at er; cases er
      | exc _ _ _ => rw [e1] at er; cases er
      | bad => rw [e1] at er; cases er
    obtain ⟨b', rfl⟩ := hd
    cases r
    cases ht
    exact ⟨_, rfl, q⟩
  refine wpAny_isTrue_Compare1 (L2.bin ha hb I (bin2 h') fun v u s2 x y H2 I2 rx ry q => thn (ho pins s2 σ H2 x y v u _ I2 rx ry q) fun c s3 ⟨z, H3, I3, r3, bb, e, q3⟩ => ?_) (plain_behind hm)
  subst e
  cases (show c = Value.bool bb from r3)
  exact wpAny_truthy_bool ⟨H3, I3, q3⟩
theorem m_val (hK : X.K = T.K) (ha : PE X a (tE T Wx ma)) (hp : plainT a = true) : PT X a (tT T Wx ma) := by
  refine ⟨fun pins s σ H Q I h => ?_⟩
  obtain ⟨w, fr, S, f, st, p⟩ := h
  refine isTrue_plain (thn (ha.run pins s σ H _ I ⟨w, fr, S, f, st, tru_post p⟩) fun v s1 ⟨x, H1, I1, r1, w1, d, S1, b, e, r, st1, _, ht, q⟩ => ?_) (plain_t hp _)
  exact truth_ok hK I1 r1 r ht q
def notM (ma : Mir) : Mir := fun fr S => (ma fr S).bind fun x S1 => match truth x with
    | some b => .ok (.bl !b) S1
    | none => .bad
def varM (i : Nat) : Mir := fun fr S => match fr.σ[i]? with
    | some (some d) => .ok d S
    | _ => .bad
theorem m_not (ha : PT X a (tT T Wx ma)) : PT X (.UnaryOp .Not a pos) (tT T Wx (notM ma)) := by
  refine ⟨fun pins s σ H Q I h => isTrue_not (ha.run pins s σ H (fun c H1 => Q (!c) H1) I ?_)⟩
  obtain ⟨w, fr, S, f, st, p⟩ := h
  refine ⟨w, fr, S, f, st, ?_⟩
  unfold tru notM at p
  unfold tru
  cases e : ma fr S with
  | ok x S1 =>
    rw [e] at p
    cases ht : truth x with
    | none => simp only [Res.bind, ht] at p; exact p.elim
    | some b =>
      simp only [Res.bind, ht] at p ⊢
      intro v w' H' e' r st'
      cases r
      obtain ⟨b', e1, q⟩ := p _ w' H' e' (.bl _) st'
      cases e1
      exact ⟨b, rfl, q⟩
  | exc c fs S1 => rw [e] at p; exact p
  | bad => rw [e] at p; exact p.elim
theorem m_notV (hK : X.K = T.K) (ha : PE X a (tE T Wx ma)) : PE X (.UnaryOp .Not a pos) (tE T Wx (notM ma)) := by
  refine ⟨fun pins s σ H Q I h => ?_⟩
  refine UnaryOp_ (thn (ha.run pins s σ H _ I (un1 h)) fun v s1 ⟨x, H1, I1, rx, w, S, d, st, r, q⟩ => ?_)
  dsimp only at q
  cases ht : truth d with
  | none => rw [ht] at q; exact q.elim
  | some b =>
    rw [ht] at q
    exact not_of (thn (truth_ok hK I1 rx r ht (R := fun c H2 => Q (.bl (!c)) H2) (post_ok q (.bl _) st)) fun c s2 ⟨H2, I2, q2⟩ => ⟨.bl (!c), H2, I2, rfl, q2⟩)
/-! and, or -/
def andM (ma mb : Mir) : Mir := fun fr S => (ma fr S).bind fun x S1 => match truth x with
    | some true => mb fr S1
    | some false => .ok x S1
    | none => .bad
def orM (ma mb : Mir) : Mir := fun fr S => (ma fr S).bind fun x S1 => match truth x with
    | some true => .ok x S1
    | some false => mb fr S1
    | none => .bad
theorem m_and (hK : X.K = T.K) {rest : List Expr} (ha : PE X a (tE T Wx ma)) (hb : PE X (.BoolOp .And (b :: rest) pos) (tE T Wx mb)) : PE X (.BoolOp .And (a :: b :: rest) pos) (tE T Wx (andM ma mb)) := by
  refine ⟨fun pins s σ H Q I h => ?_⟩
  refine BoolOp_and (thn (ha.run pins s σ H _ I (tE_bind h)) fun v s1 ⟨x, H1, I1, rx, w, fr, d, S, f, st, r, q⟩ => ?_)
  cases ht : truth d with
  | none => rw [ht] at q; exact q.elim
  | some b =>
    rw [ht] at q
    refine thn (truth_ok hK I1 rx r ht (R := fun c H2 => c = b ∧ H2 = H1) ⟨rfl, rfl⟩) fun c s2 ⟨H2, I2, e1, e2⟩ => ?_
    subst e1; rw [e2] at I2
    cases c with
    | true => exact hb.run pins s2 σ H1 Q I2 ⟨w, fr, S, f, st, q⟩
    | false => exact ⟨x, H1, I2, rx, post_ok q r st⟩
theorem m_or (hK : X.K = T.K) {rest : List Expr} (ha : PE X a (tE T Wx ma)) (hb : PE X (.BoolOp .Or (b :: rest) pos) (tE T Wx mb)) : PE X (.BoolOp .Or (a :: b :: rest) pos) (tE T Wx (orM ma mb)) := by
  refine ⟨fun pins s σ H Q I h => ?_⟩
  refine BoolOp_or (thn (ha.run pins s σ H _ I (tE_bind h)) fun v s1 ⟨x, H1, I1, rx, w, fr, d, S, f, st, r, q⟩ => ?_)
  cases ht : truth d with
  | none => rw [ht] at q; exact q.elim
  | some b =>
    rw [ht] at q
    refine thn (truth_ok hK I1 rx r ht (R := fun c H2 => c = b ∧ H2 = H1) ⟨rfl, rfl⟩) fun c s2 ⟨H2, I2, e1, e2⟩ => ?_
    subst e1; rw [e2] at I2
    cases c with
    | true => exact ⟨x, H1, I2, rx, post_ok q r st⟩
    | false => exact hb.run pins s2 σ H1 Q I2 ⟨w, fr, S, f, st, q⟩
theorem tT_and {R : Bool → Hp → Prop} (h : tT T Wx (andM ma mb) σ H R) : tT T Wx ma σ H (fun c H1 => if c = true then tT T Wx mb σ H1 R else R false H1) := by
  obtain ⟨w, fr, S, f, st, p⟩ := h
  refine ⟨w, fr, S, f, st, ?_⟩
  unfold tru andM at p
  unfold tru
  cases e : ma fr S with
  | ok x S1 =>
    rw [e] at p
    cases ht : truth x with
    | none => simp only [Res.bind, ht] at p; exact p.elim
    | some b =>
      simp only [Res.bind, ht] at p ⊢
      intro v w' H' e' r st'
      cases r
      refine ⟨b, rfl, ?_⟩
      cases b with
      | true =>
        rw [if_pos rfl]
        exact ⟨w', fr, S1, f.mono e' st, st', PostE.later e' p⟩
      | false =>
        rw [if_neg Bool.false_ne_true]
        dsimp only at p
        rw [ht] at p
        obtain ⟨b', e1, q⟩ := p _ w' H' e' (.bl _) st'
        cases e1
        exact q
  | exc c fs S1 => rw [e] at p; exact p
  | bad => rw [e] at p; exact p.elim
theorem tT_or {R : Bool → Hp → Prop} (h : tT T Wx (orM ma mb) σ H R) : tT T Wx ma σ H (fun c H1 => if c = true then R true H1 else tT T Wx mb σ H1 R) := by
  obtain ⟨w, fr, S, f, st, p⟩ := h
  refine ⟨w, fr, S, f, st, ?_⟩
  unfold tru orM at p
  unfold tru
  cases e : ma fr S with
  | ok x S1 =>
    rw [e] at p
    cases ht : truth x with
    | none => simp only [Res.bind, ht] at p; exact p.elim
    | some b =>
      simp only [Res.bind, ht] at p ⊢
      intro v w' H' e' r st'
      cases r
      refine ⟨b, rfl, ?_⟩
      cases b with
      | false =>
        rw [if_neg Bool.false_ne_true]
        exact ⟨w', fr, S1, f.mono e' st, st', PostE.later e' p⟩
      | true =>
        rw [if_pos rfl]
        dsimp only at p
        rw [ht] at p
        obtain ⟨b', e1, q⟩ := p _ w' H' e' (.bl _) st'
        cases e1
        exact q
  | exc c fs S1 => rw [e] at p; exact p
  | bad => rw [e] at p; exact p.elim
theorem PW.imp {t t' : TT} (h : PW X a t) (i : ∀ σ H R, t' σ H R → t σ H R) : PW X a t' := ⟨fun wh pins s σ H R I hw => h.run wh pins s σ H R I (i σ H R hw)⟩
theorem PT.imp {t t' : TT} (h : PT X a t) (i : ∀ σ H R, t' σ H R → t σ H R) : PT X a t' := ⟨fun pins s σ H R I hw => h.run pins s σ H R I (i σ H R hw)⟩
theorem w_and {rest : List Expr} (ha : PT X a (tT T Wx ma)) (hb : PW X (.BoolOp .And (b :: rest) pos) (tT T Wx mb)) : PW X (.BoolOp .And (a :: b :: rest) pos) (tT T Wx (andM ma mb)) := PW.imp (pw_and ha hb) fun σ H R h => tT_and h
theorem w_or {rest : List Expr} (ha : PT X a (tT T Wx ma)) (hb : PW X (.BoolOp .Or (b :: rest) pos) (tT T Wx mb)) : PW X (.BoolOp .Or (a :: b :: rest) pos) (tT T Wx (orM ma mb)) := PW.imp (pw_or ha hb) fun σ H R h => tT_or h
/-! a if c else b -/
def ifM (mc ma mb : Mir) : Mir := fun fr S => (mc fr S).bind fun x S1 => match truth x with
    | some true => ma fr S1
    | some false => mb fr S1
    | none => .bad
theorem tE_if (h : tE T Wx (ifM mc ma mb) σ H Q) : tT T Wx mc σ H (fun c H1 => if c = true then tE T Wx ma σ H1 Q else tE T Wx mb σ H1 Q) := by
  obtain ⟨w, fr, S, f, st, p⟩ := h
  refine ⟨w, fr, S, f, st, ?_⟩
  unfold ifM at p
  unfold tru
  cases e : mc fr S with
  | ok x S1 =>
    rw [e] at p
    cases ht : truth x with
    | none => simp only [Res.bind, ht] at p; exact p.elim
    | some b =>
      simp only [Res.bind, ht] at p ⊢
      intro v w' H' e' r st'
      cases r
      refine ⟨b, rfl, ?_⟩
      cases b with
      | false => exact ⟨w', fr, S1, f.mono e' st, st', PostE.later e' p⟩
      | true => exact ⟨w', fr, S1, f.mono e' st, st', PostE.later e' p⟩
  | exc c fs S1 => rw [e] at p; exact p
  | bad => rw [e] at p; exact p.elim
theorem m_if (hc : PT X c (tT T Wx mc)) (ha : PE X a (tE T Wx ma)) (hb : PE X b (tE T Wx mb)) : PE X (.IfExp c a b pos) (tE T Wx (ifM mc ma mb)) := PE.imp (pe_ifExp hc ha hb) fun σ H Q h => tE_if h
theorem tru_if : tru (ifM mc ma mb) = ifM mc (tru ma) (tru mb) := by
  funext fr S
  unfold tru ifM
  cases e : mc fr S with
  | ok x S1 =>
    simp only [Res.bind]
    cases ht : truth x with
    | none => rfl
    | some b => cases b <;> rfl
  | exc c fs S1 => rfl
  | bad => rfl
theorem m_tif (hc : PT X c (tT T Wx mc)) (ha : PT X a (tT T Wx ma)) (hb : PT X b (tT T Wx mb)) : PT X (.IfExp c a b pos) (tT T Wx (ifM mc ma mb)) := by
  refine ⟨fun pins s σ H Q I h => ?_⟩
  have h' : tE T Wx (ifM mc (tru ma) (tru mb)) σ H (fun v H' => ∃ b, v = .bl b ∧ Q b H') := by
    rw [← tru_if]; exact h
  show wpAny _ _ (do if ← isTrue c X.env (eval c X.env) then isTrue a X.env (eval a X.env) else isTrue b X.env (eval b X.env)) _ _ _
  refine wpAny_bind (thn (hc.run pins s σ H _ I (tE_if h')) fun d s1 ⟨H1, I1, q1⟩ => ?_)
  cases d with
  | true => exact ha.run pins s1 σ H1 Q I1 q1
  | false => exact hb.run pins s1 σ H1 Q I1 q1
/-! names -/
theorem m_var {i : Nat} {x : Str} (hN : X.N[i]? = some x) (hv : Vis X.env.scope x) (hd : (x == ("__debug__" : Str)) = false) (hcd : (x == ("__classdict__" : Str)) = false) :
    PE X (.Name x pos) (tE T Wx (varM i)) := by
  refine PE.imp (pe_var hN hv hd hcd) fun σ H Q ⟨w, fr, S, f, st, p⟩ => ?_
  unfold varM at p
  cases e : fr.σ[i]? with
  | none => rw [e] at p; exact p.elim
  | some o =>
    cases o with
    | none => rw [e] at p; exact p.elim
    | some d =>
      rw [e] at p
      obtain ⟨v, h1, h2⟩ := f.slot i d e
      exact ⟨v, h1, post_ok p h2 st⟩
theorem m_con {e : Expr} {v : V} {d : D} (h : PE X e (tC v)) (r : ∀ w H, Rep T w H v d) : PE X e (tE T Wx fun _ S => .ok d S) :=
  PE.imp h fun σ H Q ⟨w, fr, S, f, st, p⟩ => post_ok p (r w H) st
theorem m_neg {g : D → Store → Res} {op : UnaryOp} (ho : UnS X (unaryOp op) (r1 T Wx g)) (ha : PE X a (tE T Wx ma)) : PE X (.UnaryOp op a pos) (tE T Wx fun fr S => (ma fr S).bind g) :=
  ⟨fun pins s σ H Q I h => UnaryOp_ (thn (ha.run pins s σ H _ I (un1 h)) fun v s1 ⟨x, H1, I1, rx, q⟩ => ho pins s1 σ H1 x v Q I1 rx q)⟩
/-! is None -/
theorem non_iff {x : V} {d : D} (r : Rep T w H x d) (h : ∀ n, d ≠ .cell n) : decide (x = .non) = (match d with | .non => true | _ => false) := by
  cases r <;> first
    | rfl
    | exact absurd rfl (h _)
end
end Mi
end

section
set_option maxRecDepth 100000
set_option maxHeartbeats 1000000
/-! Mi: attributes, indices, calls, displays. -/
namespace Mi
open PySem PySem.Spec L2 PyProof.Rows
section
variable {T : Tb} {P : Pg} {k : Nat} {Wx : WX} {X : Cx} {pins : List (Addr × Obj)} {σ : L2.St} {H : Hp} {s : Shared} {Q : VK} {w : Wl} {S : Store} {a b c : Expr} {ma mb mc : Mir} {ml : MirL} {pos : Pos} {es : List Expr}
/-! ### is None -/
def isNM (ma : Mir) (v : Bool) : Mir := fun fr S => (ma fr S).bind fun x S1 => isND v x S1
theorem isN_d {x : V} {d : D} {v : Bool} (r : Rep T w H x d) (h : PostE T Wx w σ H (isND v d S) Q) (st : StOk T w H S) : Q (.bl (if x = .non then v else !v)) H := by
  cases r <;> first
    | exact (show False from h).elim
    | exact post_ok h (.bl _) st
theorem dec_t {x : V} : (if x = .non then true else !true) = decide (x = .non) := by by_cases h : x = .non <;> simp [h]
theorem dec_f {x : V} : (if x = .non then false else !false) = !decide (x = .non) := by by_cases h : x = .non <;> simp [h]
theorem m_isN {j} {pos' : Pos} (ha : PE X a (tE T Wx ma)) : PE X (.Compare a [.Is] [.Constant .none j pos'] pos) (tE T Wx (isNM ma true)) := by
  refine PE.imp (pe_cmp (pc_isN ha)) fun σ H Q h => ?_
  obtain ⟨w, fr, S, f, st, p⟩ := h
  refine ⟨w, fr, S, f, st, (post_bind p).imp fun v H1 ⟨w1, d, S1, e, r, st1, _, q⟩ => ?_⟩
  rw [← dec_t]; exact isN_d r q st1
theorem m_notN {j} {pos' : Pos} (ha : PE X a (tE T Wx ma)) : PE X (.Compare a [.IsNot] [.Constant .none j pos'] pos) (tE T Wx (isNM ma false)) := by
  refine PE.imp (pe_cmp (pc_notN ha)) fun σ H Q h => ?_
  obtain ⟨w, fr, S, f, st, p⟩ := h
  refine ⟨w, fr, S, f, st, (post_bind p).imp fun v H1 ⟨w1, d, S1, e, r, st1, _, q⟩ => ?_⟩
  rw [← dec_f]; exact isN_d r q st1
/-- the tests -/
theorem isN_bl {v : Bool} {fr : Fr} {d : D} {S' : Store} (h : isNM ma v fr S = .ok d S') : ∃ b, d = .bl b := by
  unfold isNM at h
  cases e : ma fr S with
  | ok x S1 =>
    rw [e] at h
    cases x <;> first
      | (cases h; exact ⟨_, rfl⟩)
      | cases h
  | exc _ _ _ => rw [e] at h; cases h
  | bad => rw [e] at h; cases h
theorem bl_tT {m : Mir} (hb : ∀ fr S d S', m fr S = .ok d S' → ∃ b, d = .bl b) {R : Bool → Hp → Prop} (h : tT T Wx m σ H R) : tE T Wx m σ H (fun v H' => ∃ b, v = .bl b ∧ R b H') := by
  obtain ⟨w, fr, S, f, st, p⟩ := h
  refine ⟨w, fr, S, f, st, (tru_post p).imp fun v H1 ⟨w1, d, S1, b, e, r, st1, er, ht, q⟩ => ?_⟩
  obtain ⟨b', rfl⟩ := hb _ _ _ _ er
  cases r
  cases ht
  exact ⟨_, rfl, q⟩
theorem m_tisN {j} {pos' : Pos} (ha : PE X a (tE T Wx ma)) : PT X (.Compare a [.Is] [.Constant .none j pos'] pos) (tT T Wx (isNM ma true)) := by
  refine PT.imp (pt_cmp (pc_isN ha)) fun σ H R h => ?_
  obtain ⟨w, fr, S, f, st, p⟩ := bl_tT (fun _ _ _ _ h => isN_bl h) h
  refine ⟨w, fr, S, f, st, (post_bind p).imp fun v H1 ⟨w1, d, S1, e, r, st1, _, q⟩ => ?_⟩
  have := isN_d r q st1
  rw [dec_t] at this; exact this
theorem m_tnotN {j} {pos' : Pos} (ha : PE X a (tE T Wx ma)) : PT X (.Compare a [.IsNot] [.Constant .none j pos'] pos) (tT T Wx (isNM ma false)) := by
  refine PT.imp (pt_cmp (pc_notN ha)) fun σ H R h => ?_
  obtain ⟨w, fr, S, f, st, p⟩ := bl_tT (fun _ _ _ _ h => isN_bl h) h
  refine ⟨w, fr, S, f, st, (post_bind p).imp fun v H1 ⟨w1, d, S1, e, r, st1, _, q⟩ => ?_⟩
  have := isN_d r q st1
  rw [dec_f] at this; exact this
/-! ### chains -/
def chM (g1 g2 : D → D → Store → Res) (ma mb mc : Mir) : Mir := fun fr S => (ma fr S).bind fun x S1 => (mb fr S1).bind fun y S2 => (g1 x y S2).bind fun t S3 => match t with
    | .bl true => (mc fr S3).bind fun z S4 => g2 y z S4
    | .bl false => .ok (.bl false) S3
    | _ => .bad
theorem m_chain {op op' : CmpOp} {g1 g2 : D → D → Store → Res} (ho : OpS X (compareOp op) (r2 T Wx g1)) (ho' : OpS X (compareOp op') (r2 T Wx g2)) (ha : PE X a (tE T Wx ma)) (hb : PE X b (tE T Wx mb)) (hc : PE X c (tE T Wx mc)) (hm : plainSet c = true) :
    PE X (.Compare a [op, op'] [b, c] pos) (tE T Wx (chM g1 g2 ma mb mc)) := by
  have hm' : lastMarks [op, op'] [b, c] = false := plain_behind (op := op') hm
  refine ⟨fun pins s σ H Q I h => ?_⟩
  refine Compare_chain (thn (ha.run pins s σ H _ I (tE_bind h)) fun v s1 ⟨x, H1, I1, r1, w1, fr, d1, S1, f1, st1, rx, q1⟩ => chain_link (thn (hb.run pins s1 σ H1 _ I1 ⟨w1, fr, S1, f1, st1, post_bind q1⟩) fun u s2 ⟨y, H2, I2, r2, w2, d2, S2, e2, ry, st2, _, q2⟩ =>
    thn (ho pins s2 σ H2 x y v u _ I2 r1 r2 ⟨w2, S2, d1, d2, st2, rx.mono (e2.mono (.inl rfl)), ry, post_bind q2⟩) fun dd s3 ⟨z, H3, I3, r3, w3, d3, S3, e3, rz, st3, _, q3⟩ => ?_)) hm'
  cases d3 with
  | bl bb =>
    cases rz
    cases (show dd = Value.bool bb from r3)
    refine wpAny_truthy_bool ?_
    cases bb with
    | false => exact ite_ff ⟨.bl false, H3, I3, rfl, post_ok q3 (.bl _) st3⟩
    | true =>
      refine ite_tt (chain_last (thn (hc.run pins s3 σ H3 _ I3 ⟨w3, fr, S3, (f1.mono e2 st1).mono e3 st2, st3, post_bind q3⟩) fun w' s4 ⟨z', H4, I4, r4, w4, d4, S4, e4, rz4, st4, _, q4⟩ => ?_))
      exact ho' pins s4 σ H4 y z' u w' Q I4 r2 r4 ⟨w4, S4, d2, d4, st4, (ry.mono (e3.mono (.inl rfl))).mono (e4.mono (.inl rfl)), rz4, q4⟩
  | _ => exact q3.elim
theorem ch_bl {g1 g2 : D → D → Store → Res} (hg : ∀ x y S d S', g2 x y S = .ok d S' → ∃ b, d = .bl b) {fr : Fr} {d : D} {S' : Store} (h : chM g1 g2 ma mb mc fr S = .ok d S') : ∃ b, d = .bl b := by
  unfold chM at h
  cases e : ma fr S with
  | exc _ _ _ => rw [e] at h; cases h
  | bad => rw [e] at h; cases h
  | ok x S1 =>
    simp only [e, Res.bind] at h
    cases e2 : mb fr S1 with
    | exc _ _ _ => rw [e2] at h; cases h
    | bad => rw [e2] at h; cases h
    | ok y S2 =>
      simp only [e2, Res.bind] at h
      cases e3 : g1 x y S2 with
      | exc _ _ _ => rw [e3] at h; cases h
      | bad => rw [e3] at h; cases h
      | ok t S3 =>
        simp only [e3, Res.bind] at h
        cases t with
        | bl bb =>
          cases bb with
          | false => cases h; exact ⟨_, rfl⟩
          | true =>
            simp only at h
            cases e4 : mc fr S3 with
            | exc _ _ _ => rw [e4] at h; cases h
            | bad => rw [e4] at h; cases h
            | ok z S4 =>
              simp only [e4, Res.bind] at h
              exact hg _ _ _ _ _ h
        | _ => cases h
theorem m_tchain {op op' : CmpOp} {g1 g2 : D → D → Store → Res} (ho : OpS X (compareOp op) (r2 T Wx g1)) (ho' : OpS X (compareOp op') (r2 T Wx g2)) (hg : ∀ x y S d S', g2 x y S = .ok d S' → ∃ b, d = .bl b) (ha : PE X a (tE T Wx ma)) (hb : PE X b (tE T Wx mb)) (hc : PE X c (tE T Wx mc)) (hm : plainSet c = true) :
    PT X (.Compare a [op, op'] [b, c] pos) (tT T Wx (chM g1 g2 ma mb mc)) := by
  have hm' : lastMarks [op, op'] [b, c] = false := plain_behind (op := op') hm
  refine ⟨fun pins s σ H R I h0 => ?_⟩
  have h := bl_tT (fun _ _ _ _ h => ch_bl hg h) h0
  refine isTrue_chain (thn (ha.run pins s σ H _ I (tE_bind h)) fun v s1 ⟨x, H1, I1, r1, w1, fr, d1, S1, f1, st1, rx, q1⟩ => test_link (thn (hb.run pins s1 σ H1 _ I1 ⟨w1, fr, S1, f1, st1, post_bind q1⟩) fun u s2 ⟨y, H2, I2, r2, w2, d2, S2, e2, ry, st2, _, q2⟩ =>
    thn (ho pins s2 σ H2 x y v u _ I2 r1 r2 ⟨w2, S2, d1, d2, st2, rx.mono (e2.mono (.inl rfl)), ry, post_bind q2⟩) fun dd s3 ⟨z, H3, I3, r3, w3, d3, S3, e3, rz, st3, _, q3⟩ => ?_)) hm'
  cases d3 with
  | bl bb =>
    cases rz
    cases (show dd = Value.bool bb from r3)
    refine wpAny_truthy_bool ?_
    cases bb with
    | false =>
      obtain ⟨b', e1, q⟩ := post_ok q3 (v := .bl false) (.bl _) st3
      cases e1
      exact ite_ff ⟨H3, I3, q⟩
    | true =>
      refine ite_tt (test_last (thn (hc.run pins s3 σ H3 _ I3 ⟨w3, fr, S3, (f1.mono e2 st1).mono e3 st2, st3, post_bind q3⟩) fun w' s4 ⟨z', H4, I4, r4, w4, d4, S4, e4, rz4, st4, _, q4⟩ => ?_))
      refine thn (ho' pins s4 σ H4 y z' u w' _ I4 r2 r4 ⟨w4, S4, d2, d4, st4, (ry.mono (e3.mono (.inl rfl))).mono (e4.mono (.inl rfl)), rz4, q4⟩) fun d' s5 ⟨z2, H5, I5, r5, k2, e5, q5⟩ => ?_
      subst e5
      cases (show d' = Value.bool k2 from r5)
      exact wpAny_truthy_bool ⟨H5, I5, q5⟩
  | _ => exact q3.elim
theorem isB_bl {v b : Bool} {x d : D} {S' : Store} (h : isB v b x S = .ok d S') : ∃ c, d = .bl c := by
  cases x <;> first
    | (cases h; exact ⟨_, rfl⟩)
    | cases h
theorem cmp_bl {op : Cop} {x y : D} {d : D} {S' : Store} {call : Call} (h : cmpM P call op x y S = .ok d S') : ∃ b, d = .bl b := by
  have own : ∀ {r : Res} {d S'}, asBool r = .ok d S' → ∃ b, d = .bl b := by
    intro r d S' h
    cases r with
    | ok d' S1 => cases d' <;> first
      | (cases h; exact ⟨_, rfl⟩)
      | cases h
    | exc _ _ _ => cases h
    | bad => cases h
  have own2 : ∀ {r : Res} {d S'}, flipB r = .ok d S' → ∃ b, d = .bl b := by
    intro r d S' h
    cases r with
    | ok d' S1 => cases d' <;> first
      | (cases h; exact ⟨_, rfl⟩)
      | cases h
    | exc _ _ _ => cases h
    | bad => cases h
  have eqo : eqOwn P call x y S = .ok d S' → ∃ b, d = .bl b := by
    intro h
    unfold eqOwn at h
    split at h
    · split at h
      · split at h
        · exact own h
        · cases h
      · cases h
    · cases h
  have neo : neOwn P call x y S = .ok d S' → ∃ b, d = .bl b := by
    intro h
    unfold neOwn at h
    split at h
    · split at h
      · split at h
        · exact own2 h
        · cases h
      · cases h
    · cases h
  cases op with
  | eq =>
    have h' : eqM P call x y S = .ok d S' := h
    unfold eqM at h'
    split at h'
    · cases h'; exact ⟨_, rfl⟩
    · split at h'
      · cases h'; exact ⟨_, rfl⟩
      · exact eqo h'
  | ne =>
    have h' : neM P call x y S = .ok d S' := h
    unfold neM at h'
    split at h'
    · cases h'; exact ⟨_, rfl⟩
    · split at h'
      · cases h'; exact ⟨_, rfl⟩
      · exact neo h'
  | isin =>
    simp only [cmpM] at h
    split at h
    · split at h <;> first
        | (cases h; exact ⟨_, rfl⟩)
        | cases h
    · unfold conOwn at h
      split at h
      · split at h
        · exact own h
        · cases h
      · cases h
  | is =>
    simp only [cmpM] at h
    split at h
    · exact isB_bl h
    · cases h
  | isnot =>
    simp only [cmpM] at h
    split at h
    · exact isB_bl h
    · cases h
  | _ =>
    simp only [cmpM] at h
    split at h <;> first
      | cases h
      | (split at h <;> first
        | (cases h; exact ⟨_, rfl⟩)
        | cases h)
/-! ### attributes -/
theorem cls_lt {ci : CI} {n : Nat} (h : P.cs[n]? = some ci) : n < P.cs.length := (List.getElem?_eq_some_iff.mp h).1
/-- o.f, o at an instance -/
theorem attr_ins (cn : Cn T P k Wx X) {x : D} {f : Nat} {name : Str} {ob : Bool} {aa dx : Addr} {n : Nat} {vs : List (Str × V)} {fs : List (Nat × D)} (hf : T.nm[f]? = some name) (I : Inv X pins σ H s) (ha : H aa = some (.ins (T.ca n) dx vs)) (rf : RepF T w H vs fs) (hx : Rep T w H (.ref aa) x) (st : StOk T w H S)
    (h : PostE T Wx w σ H (attrI P (run P k) x n fs f S) Q) : wpAny (model X.prog X.w) X.A (getAttr (.ref aa) name ob) (EP X pins σ Q) X.xe s := by
  unfold attrI at h
  cases hc : P.cs[n]? with
  | none => rw [hc] at h; exact h.elim
  | some ci =>
    rw [hc] at h
    have kc := cn.ko.cls n (cls_lt hc)
    dsimp only at h
    cases hp : ci.prop.lookup f with
    | some g =>
      rw [hp] at h
      obtain ⟨hg, nm', p, e1, pr⟩ := cn.ko.prop n ci f g hc hp
      rw [hf] at e1; cases e1
      have hfl : fill P g 0 [x] = some [x] := by
        have hh := post_nb (post_noExc h)
        cases k with
        | zero => exact absurd rfl hh
        | succ j => exact run_np (S := S) (j := j) rfl hh
      have hK := cn.K
      obtain ⟨mA, O, _, _, _, _⟩ := ins_get I.hok ha
      obtain ⟨od, J, _⟩ := O.look
      obtain ⟨rest, hrec⟩ := pr.rec_
      have kI := I.kIn
      rw [hK] at kI
      have I1 := I.tok (s.toks + 1)
      have hcc : (PySem.W.clsIn T.K (T.ca n)).isSome = true := by
        obtain ⟨cd, hcd, _⟩ := PySem.W.any_some kc.cls.hd
        rw [hcd]; rfl
      refine PySem.W.get_bind kI J (PySem.W.plainGet_of (kc.cls.get name)).1 (PySem.W.findObj_data hcc pr.at_ pr.get pr.tak) (PySem.W.plainGet_of (kc.cls.get name)).2 (wpAny_call (PySem.W.prop_get (s := { s with toks := s.toks + 1 }) kI hrec ?_))
      refine codeAny_mono (call_low cn.nox (I1.wish _) (us := [.ref aa]) (vs := [.ref aa]) (.cons rfl .nil) st (.cons hx .nil) hfl (post_noExc h)) fun r s' hq => ?_
      cases r with
      | error er => exact False.elim hq
      | ok fl =>
        cases fl with
        | ret u =>
          obtain ⟨v, H', I3, rv, q3⟩ := hq
          show wpAny _ _ (handedOut u) _ _ _
          rw [PySem.W.handedOut_of (handed_of rv)]
          exact wpAny_pure ⟨v, H', I3.unwish, rv, q3⟩
        | next => exact False.elim hq
        | brk => exact False.elim hq
        | cont => exact False.elim hq
    | none =>
      rw [hp] at h
      dsimp only at h
      cases hl : fs.lookup f with
      | none => rw [hl] at h; exact h.elim
      | some d =>
        rw [hl] at h
        obtain ⟨q, h⟩ := post_if h
        obtain ⟨nm', e1, na⟩ := cn.ko.noat n ci f hc (by simpa using q)
        rw [hf] at e1; cases e1
        obtain ⟨v, hv, rv⟩ := (rf.lookup cn.ko.nd hf).1 d hl
        have c1 := kc.cls
        have hK := cn.K
        rw [← hK] at c1 na
        exact getattr_ok I ha c1 na hv fun u s' I' ru => ⟨v, H, I', ru, post_ok h rv st⟩
theorem un_attr (cn : Cn T P k Wx X) {f : Nat} {name : Str} {ob : Bool} (hf : T.nm[f]? = some name) : UnS X (fun v => getAttr v name ob) (r1 T Wx fun x S => attrM P (run P k) x f S) := by
  intro pins s σ H x v Q I rx ⟨w, S, dx, st, hx, h⟩
  cases dx with
  | obj n fs =>
    obtain ⟨a, dd, vs, rfl, ha, fz, rf⟩ := hx.objI
    cases (show v = Value.ref a from rx)
    exact attr_ins cn hf I ha rf hx st h
  | cell m =>
    have h' : PostE T Wx w σ H (match S[m]? with
      | some (.ins c fs) => attrI P (run P k) (.cell m) c fs f S
      | _ => .bad) Q := h
    cases e : S[m]? with
    | none => rw [e] at h'; exact h'.elim
    | some c =>
      cases c with
      | ins n fs =>
        rw [e] at h'
        obtain ⟨a, dd, vs, rfl, _, ha, rf⟩ := cell_ins st hx e
        cases (show v = Value.ref a from rx)
        exact attr_ins cn hf I ha rf hx st h'
      | _ => rw [e] at h'; exact h'.elim
  | _ => exact (show False from h).elim
theorem m_attr (cn : Cn T P k Wx X) {f : Nat} {name : Str} (hf : T.nm[f]? = some name) (ha : PE X a (tE T Wx ma)) (hb : plainO a = true) : PE X (.Attribute a name pos) (tE T Wx fun fr S => (ma fr S).bind fun x S1 => attrM P (run P k) x f S1) :=
  ⟨fun pins s σ H Q I h => attr_of (attr_base hb) (thn (ha.run pins s σ H _ I (un1 h)) fun u s1 ⟨x, H1, I1, rx, q⟩ => un_attr cn hf pins s1 σ H1 x u Q I1 rx q)⟩
/-- self.f while self is built -/
theorem m_self (cn : Cn T P k Wx X) {f : Nat} {name x : Str} {p : Pos} (hf : T.nm[f]? = some name) (hN : X.N[0]? = some x) (hv : Vis X.env.scope x) (hd : (x == ("__debug__" : Str)) = false) (hcd : (x == ("__classdict__" : Str)) = false) :
    PE X (.Attribute (.Name x p) name pos) (tE T Wx fun fr S => selfM P fr.self f S) := by
  refine PE.imp (pe_fld (pe_var hN hv hd hcd) rfl) fun σ H Q ⟨w, fr, S, fo, st, h0⟩ => ?_
  have h : PostE T Wx w σ H (selfM P fr.self f S) Q := h0
  unfold selfM at h
  have sf := fo.self
  cases hs : fr.self with
  | none => rw [hs] at h; exact h.elim
  | some pr =>
    obtain ⟨n, fs⟩ := pr
    rw [hs] at h sf
    dsimp only at h
    obtain ⟨xa, dx, vs, h1, h2, h3, h4⟩ := sf
    cases hc : P.cs[n]? with
    | none => rw [hc] at h; exact h.elim
    | some ci =>
      rw [hc] at h
      dsimp only at h
      cases hl : fs.lookup f with
      | none => rw [hl] at h; exact h.elim
      | some d =>
        rw [hl] at h
        obtain ⟨q, h⟩ := post_if h
        obtain ⟨nm', e1, na⟩ := cn.ko.noat n ci f hc (by simpa using q)
        rw [hf] at e1; cases e1
        obtain ⟨v, hv, rv⟩ := (h4.lookup cn.ko.nd hf).1 d hl
        have c1 := (cn.ko.cls n (cls_lt hc)).cls
        have hK := cn.K
        rw [← hK] at c1 na
        exact ⟨.ref xa, h2, xa, _, dx, vs, v, rfl, h3, c1, na, hv, post_ok h rv st⟩
/-! ### indices, slices -/
theorem atI_rep {vs : List V} {ds : List D} {i : Int} {d : D} (r : Reps T w H vs ds) (h : L2.atI ds i = some d) : ∃ v, L2.atI vs i = some v ∧ Rep T w H v d := by
  unfold L2.atI at h ⊢
  rw [r.length]
  cases e : ixN ds.length i with
  | none => rw [e] at h; cases h
  | some j => rw [e] at h; exact r.get h
theorem m_idx (cn : Cn T P k Wx X) (ha : PE X a (tE T Wx ma)) (hb : PE X b (tE T Wx mb)) (hp : plainIx b = true) :
    PE X (.Subscript a b pos) (tE T Wx fun fr S => (ma fr S).bind fun x S1 => (mb fr S1).bind fun y S2 => idxM x y S2) := by
  refine PE.imp (pe_ix (IxR.or ix_list ix_tup) ha hb (plain_ix hp)) fun σ H Q h => ?_
  obtain ⟨w, fr, S, f, st, p⟩ := bin2 h
  refine ⟨w, fr, S, f, st, p.imp fun x H1 hx => ?_⟩
  obtain ⟨w1, fr1, S1, f1, st1, p1⟩ := hx
  refine ⟨w1, fr1, S1, f1, st1, p1.imp fun y H2 ⟨w2, S2, dx, dy, st2, rx, ry, q⟩ => ?_⟩
  rw [cn.K]
  cases dx with
  | lst l =>
    cases dy with
    | int i =>
      have q' : PostE T Wx w2 σ H2 (match L2.atI l i with
        | some d => .ok d S2
        | none => .bad) Q := q
      cases e : L2.atI l i with
      | none => rw [e] at q'; exact q'.elim
      | some d =>
        rw [e] at q'
        obtain ⟨aa, vs, rfl, h1, h2⟩ := rx.lstI
        obtain ⟨v, h3, h4⟩ := atI_rep h2 e
        cases ry
        exact .inl ⟨aa, vs, i, v, rfl, rfl, h1, h3, post_ok q' h4 st2⟩
    | _ => exact (show False from q).elim
  | tup l =>
    cases dy with
    | int i =>
      have q' : PostE T Wx w2 σ H2 (match L2.atI l i with
        | some d => .ok d S2
        | none => .bad) Q := q
      cases e : L2.atI l i with
      | none => rw [e] at q'; exact q'.elim
      | some d =>
        rw [e] at q'
        obtain ⟨aa, vs, rfl, h1, h2⟩ := rx.tupI
        obtain ⟨v, h3, h4⟩ := atI_rep h2 e
        cases ry
        exact .inr ⟨aa, vs, i, v, rfl, rfl, h1, h3, post_ok q' h4 st2⟩
    | _ => exact (show False from q).elim
  | cell n =>
    cases dy with
    | int i =>
      have q' : PostE T Wx w2 σ H2 (match S2[n]? with
        | some (.lst l) => (match L2.atI l i with
          | some d => .ok d S2
          | none => .bad)
        | _ => .bad) Q := q
      cases e0 : S2[n]? with
      | none => rw [e0] at q'; exact q'.elim
      | some cc =>
        cases cc with
        | lst l =>
          rw [e0] at q'
          dsimp only at q'
          cases e : L2.atI l i with
          | none => rw [e] at q'; exact q'.elim
          | some d =>
            rw [e] at q'
            obtain ⟨aa, vs, rfl, _, h1, h2⟩ := cell_lst st2 rx e0
            obtain ⟨v, h3, h4⟩ := atI_rep h2 e
            cases ry
            exact .inl ⟨aa, vs, i, v, rfl, rfl, .inl (.inl h1), h3, post_ok q' h4 st2⟩
        | _ => rw [e0] at q'; exact q'.elim
    | _ => exact (show False from q).elim
  | _ => exact (show False from q).elim
def tO (T : Tb) (Wx : WX) (m : Mir) : TO := fun σ H Q => tE T Wx m σ H fun v H' => match v with
  | .non => Q none H'
  | .int i => Q (some i) H'
  | _ => False
theorem o_none : PO X none (tO T Wx fun _ S => .ok .non S) := by
  refine ⟨fun pins s σ H Q I h => ?_⟩
  rw [evalPart_none]
  obtain ⟨w, fr, S, f, st, p⟩ := h
  exact wpAny_pure ⟨none, H, I, .none, post_ok (v := .non) p .non st⟩
theorem o_some (ha : PE X a (tE T Wx ma)) : PO X (some a) (tO T Wx ma) := by
  refine ⟨fun pins s σ H Q I hw => ?_⟩
  rw [evalPart_some]
  refine thn (ha.run pins s σ H _ I hw) fun u s1 ⟨x, H1, I1, r1, q1⟩ => ?_
  cases x with
  | non => cases (show u = Value.none from r1); exact ⟨none, H1, I1, .none, q1⟩
  | int i =>
    obtain ⟨t, e⟩ := (show ∃ t, u = Value.int i t from r1)
    cases e
    exact ⟨some i, H1, I1, .int i t, q1⟩
  | _ => exact q1.elim
def slM (ma ml mh : Mir) : Mir := fun fr S => (ma fr S).bind fun x S1 => (ml fr S1).bind fun l S2 => match partD l with
    | some lo => (mh fr S2).bind fun h S3 => match partD h with
      | some hi => sliceM x lo hi S3
      | none => .bad
    | none => .bad
theorem Reps.cut {vs : List V} {ds : List D} (lo hi : Option Int) (r : Reps T w H vs ds) : Reps T w H (cutV vs lo hi) (cutL ds lo hi) := by
  unfold cutV cutL
  rw [r.length]
  exact (r.drop _).take _
theorem sl_fin (hK : X.K = T.K) {x : V} {d : D} {lo hi : Option Int} (r : Rep T w H x d) (st : StOk T w H S) (h : PostE T Wx w σ H (sliceM d lo hi S) Q) : rSlL X.K x lo hi H Q := by
  cases d with
  | lst l =>
    obtain ⟨aa, vs, rfl, h1, h2⟩ := r.lstI
    rw [← hK] at h1
    refine ⟨aa, vs, rfl, h1, fun p hp => ?_⟩
    exact post_new h st hp (.lst upd_same (st.fz_new hp) ((h2.cut lo hi).mono ((ext_new hp).mono (.inl rfl))))
  | scr l =>
    obtain ⟨aa, vs, rfl, h1, h2⟩ := r.scrI
    rw [← hK] at h1
    refine ⟨aa, vs, rfl, h1, fun p hp => ?_⟩
    exact post_new h st hp (.lst upd_same (st.fz_new hp) ((h2.cut lo hi).mono ((ext_new hp).mono (.inl rfl))))
  | _ => exact (show False from h).elim
theorem m_slice (hK : X.K = T.K) {lo hi : Option Expr} {p2 : Pos} {mlo mhi : Mir} (ha : PE X a (tE T Wx ma)) (hl : PO X lo (tO T Wx mlo)) (hu : PO X hi (tO T Wx mhi)) : PE X (.Subscript a (.Slice lo hi none p2) pos) (tE T Wx (slM ma mlo mhi)) := by
  refine PE.imp (pe_slice sl_list ha hl hu) fun σ H Q h => ?_
  obtain ⟨w, fr, S, f, st, p⟩ := h
  refine ⟨w, fr, S, f, st, (post_bind p).imp fun x H1 ⟨w1, d1, S1, e1, rx, st1, _, p1⟩ => ?_⟩
  refine ⟨w1, fr, S1, f.mono e1 st, st1, (post_bind p1).imp fun l H2 ⟨w2, d2, S2, e2, rl, st2, _, p2⟩ => ?_⟩
  have part : ∀ {w : Wl} {H : Hp} {x : V} {d : D} {o : Option Int}, Rep T w H x d → partD d = some o → (x = .non ∧ o = none) ∨ ∃ i, x = .int i ∧ o = some i := by
    intro w H x d o r h
    cases d with
    | non => cases r; cases h; exact .inl ⟨rfl, rfl⟩
    | int i => cases r; cases h; exact .inr ⟨i, rfl, rfl⟩
    | _ => cases h
  cases hp : partD d2 with
  | none => rw [hp] at p2; exact p2.elim
  | some lo =>
    rw [hp] at p2
    have go : tO T Wx mhi σ H2 fun u H3 => rSlL X.K x lo u H3 Q := by
      refine ⟨w2, fr, S2, (f.mono e1 st).mono e2 st1, st2, (post_bind p2).imp fun u H3 ⟨w3, d3, S3, e3, ru, st3, _, p3⟩ => ?_⟩
      have rx3 := (rx.mono (e2.mono (.inl rfl))).mono (e3.mono (.inl rfl))
      cases hp3 : partD d3 with
      | none => rw [hp3] at p3; exact p3.elim
      | some hi =>
        rw [hp3] at p3
        rcases part ru hp3 with ⟨e, q⟩ | ⟨j, e, q⟩
        · subst e; subst q; exact sl_fin hK rx3 st3 p3
        · subst e; subst q; exact sl_fin hK rx3 st3 p3
    rcases part rl hp with ⟨e, q⟩ | ⟨j, e, q⟩
    · subst e; subst q; exact go
    · subst e; subst q; exact go
end
end Mi
end

section
set_option maxRecDepth 100000
set_option maxHeartbeats 1000000
/-! Mi: calls, displays, built-in functions, the store's writes. -/
namespace Mi
open PySem PySem.Spec L2 PyProof.Rows
section
variable {T : Tb} {P : Pg} {k : Nat} {Wx : WX} {X : Cx} {pins : List (Addr × Obj)} {σ : L2.St} {H : Hp} {s : Shared} {Q : VK} {w : Wl} {S : Store} {a b c : Expr} {ma mb mc : Mir} {ml mr : MirL} {pos : Pos} {es : List Expr}
/-! ### arguments -/
theorem a_nil : PA X [] (tL T Wx fun _ S => .ok [] S) := ⟨fun pos pins s σ H Q I h => by
  obtain ⟨w, fr, S, f, st, p⟩ := h
  exact pa_nil.run pos pins s σ H Q I (p [] w H .refl .nil st)⟩
theorem PostL.imp {r : ResL} {Q Q' : List V → Hp → Prop} (h : PostL T Wx w σ H r Q) (hq : ∀ v H', Q v H' → Q' v H') : PostL T Wx w σ H r Q' := by
  cases r with
  | ok d S => exact fun v w' H' e rv st => hq v H' (h v w' H' e rv st)
  | exc c fs S => exact h
  | bad => exact h
theorem a_cons (ha : PE X a (tE T Wx ma)) (hr : PA X es (tL T Wx mr)) (hs : noStar (a :: es) = true) : PA X (a :: es) (tL T Wx fun fr S => (ma fr S).bindL fun d S1 => (mr fr S1).bindL fun ds S2 => .ok (d :: ds) S2) := by
  refine ⟨fun pos pins s σ H Q I h => (pa_cons ha hr (star_cons hs).1).run pos pins s σ H Q I ?_⟩
  obtain ⟨w, fr, S, f, st, p⟩ := h
  refine ⟨w, fr, S, f, st, (post_bindL p).imp fun x H1 ⟨w1, d, S1, e, r, st1, _, q⟩ => ?_⟩
  refine ⟨w1, fr, S1, f.mono e st, st1, (postL_bindL q).imp fun xs H2 ⟨w2, ds, S2, e2, rs, st2, _, q2⟩ => ?_⟩
  exact q2 _ w2 H2 .refl (.cons (r.mono (e2.mono (.inl rfl))) rs) st2
/-- a list of values -/
theorem unL {g : List D → Store → Res} (h : tE T Wx (fun fr S => (ml fr S).bind g) σ H Q) : tL T Wx ml σ H (fun xs H1 => rL T Wx g σ xs H1 Q) := by
  obtain ⟨w, fr, S, f, st, p⟩ := h
  exact ⟨w, fr, S, f, st, (postL_bind p).imp fun v H1 ⟨w1, d, S1, e, r, st1, _, q⟩ => ⟨w1, S1, d, st1, r, q⟩⟩
/-! ### calls of names -/
theorem m_callK {x : Str} {p : Pos} {fa : Addr} {g : List D → Store → Res} (hg : Gl X x) (hm : X.mg x = some (.ref fa)) (hk : PySem.W.keepIn X.K (.ref fa) = true) (hc : CallS X (.ref fa) (rL T Wx g)) (ha : PA X (a :: es) (tL T Wx ml)) (hn : noStar (a :: es) = true) (hd : (x == ("__debug__" : Str)) = false) :
    PE X (.Call (.Name x p) (a :: es) [] pos) (tE T Wx fun fr S => (ml fr S).bind g) := by
  refine ⟨fun pins s σ H Q I h => ?_⟩
  refine wpAny_Call_Name_kw (ld_glob I hg hm ?_ hd)
  exact PySem.W.callWith_K (h₀ := X.base) I.ok.mod.kin hk (thn (ha.run pos pins s σ H _ I (unL h)) fun us s1 ⟨vs, H1, I1, r, q⟩ => ⟨I1.kIn, hc pins s1 σ H1 vs us Q I1 r q⟩) (star_cons hn).1 (star_any (star_cons (env := X.env) hn).2)
theorem m_callK0 {x : Str} {p : Pos} {fa : Addr} {g : List D → Store → Res} (hg : Gl X x) (hm : X.mg x = some (.ref fa)) (hk : PySem.W.keepIn X.K (.ref fa) = true) (hc : CallS X (.ref fa) (rL T Wx g)) (hd : (x == ("__debug__" : Str)) = false) :
    PE X (.Call (.Name x p) [] [] pos) (tE T Wx fun fr S => g [] S) := by
  refine ⟨fun pins s σ H Q I ⟨w, fr, S, f, st, h⟩ => ?_⟩
  refine wpAny_Call_Name_kw (ld_glob I hg hm ?_ hd)
  exact PySem.W.callWith_K0 I.kIn hk (hc pins s σ H [] [] Q I .nil ⟨w, S, [], st, .nil, h⟩)
theorem m_callB {x : Str} {p : Pos} {id : String} {g : List D → Store → Res} (hg : Gl X x) (hm : X.mg x = none) (hv : bootBuiltins x = some (.builtin id)) (hc : CallS X (.builtin id) (rL T Wx g)) (ha : PA X (a :: es) (tL T Wx ml)) (hn : noStar (a :: es) = true) (hnn : x ≠ "__name__") (hd : (x == ("__debug__" : Str)) = false) :
    PE X (.Call (.Name x p) (a :: es) [] pos) (tE T Wx fun fr S => (ml fr S).bind g) := by
  refine ⟨fun pins s σ H Q I h => ?_⟩
  refine wpAny_Call_Name_kw (ld_blt I hg hm hv ?_ hnn hd)
  exact PyProof.Rows.callWith_builtin1 (thn (ha.run pos pins s σ H _ I (unL h)) fun us s1 ⟨vs, H1, I1, r1, q1⟩ => hc pins s1 σ H1 vs us Q I1 r1 q1) (star_cons hn).1 (star_any (star_cons (env := X.env) hn).2)
theorem m_callG {x : Str} {p : Pos} {id : String} {g : List D → Store → Res} (hg : Gl X x) (hm : X.mg x = some (.builtin id)) (hc : CallS X (.builtin id) (rL T Wx g)) (ha : PA X (a :: es) (tL T Wx ml)) (hn : noStar (a :: es) = true) (hd : (x == ("__debug__" : Str)) = false) :
    PE X (.Call (.Name x p) (a :: es) [] pos) (tE T Wx fun fr S => (ml fr S).bind g) := by
  refine ⟨fun pins s σ H Q I h => ?_⟩
  refine wpAny_Call_Name_kw (ld_glob I hg hm ?_ hd)
  exact PyProof.Rows.callWith_builtin1 (thn (ha.run pos pins s σ H _ I (unL h)) fun us s1 ⟨vs, H1, I1, r1, q1⟩ => hc pins s1 σ H1 vs us Q I1 r1 q1) (star_cons hn).1 (star_any (star_cons (env := X.env) hn).2)
theorem m_callT {x : Str} {p : Pos} {ty : String} {g : List D → Store → Res} (hg : Gl X x) (hm : X.mg x = none) (hv : bootBuiltins x = some (.type ty)) (hc : CallS X (.type ty) (rL T Wx g)) (ha : PA X (a :: es) (tL T Wx ml)) (hn : noStar (a :: es) = true) (hnn : x ≠ "__name__") (hd : (x == ("__debug__" : Str)) = false) :
    PE X (.Call (.Name x p) (a :: es) [] pos) (tE T Wx fun fr S => (ml fr S).bind g) := by
  refine ⟨fun pins s σ H Q I h => ?_⟩
  refine wpAny_Call_Name_kw (ld_blt I hg hm hv ?_ hnn hd)
  exact PyProof.Rows.callWith_type1 (thn (ha.run pos pins s σ H _ I (unL h)) fun us s1 ⟨vs, H1, I1, r1, q1⟩ => hc pins s1 σ H1 vs us Q I1 r1 q1) (star_cons hn).1 (star_any (star_cons (env := X.env) hn).2)
/-- a def -/
theorem c_fn (cn : Cn T P k Wx X) (f : Nat) : CallS X (.ref (T.fa f)) (rL T Wx (callM P (run P k) f)) := by
  intro pins s σ H xs us Q I r ⟨w, S, ds, st, rs, h⟩
  unfold callM at h
  cases e : fill P f 0 ds with
  | none => rw [e] at h; exact h.elim
  | some es => rw [e] at h; exact call_fn cn I r st rs e h
/-- a class -/
theorem c_new (cn : Cn T P k Wx X) (n : Nat) : CallS X (.ref (T.ca n)) (rL T Wx (newM P (run P k) n)) := by
  intro pins s σ H xs us Q I r ⟨w, S, ds, st, rs, h⟩
  unfold newM at h
  cases e : P.cs[n]? with
  | none => rw [e] at h; exact h.elim
  | some ci =>
    rw [e] at h
    dsimp only at h
    cases e2 : ci.init with
    | none => rw [e2] at h; exact h.elim
    | some f =>
      rw [e2] at h
      dsimp only at h
      cases e3 : fill P f 1 ds with
      | none => rw [e3] at h; exact h.elim
      | some es => rw [e3] at h; exact call_new cn I r st rs e e2 e3 h
/-! ### methods -/
theorem meth_at (cn : Cn T P k Wx X) {x : V} {u : Value} {dx : D} {m g : Nat} {name : Str} (hf : T.nm[m]? = some name) (I : Inv X pins σ H s) (rx : RelV x u) (st : StOk T w H S) (hx : Rep T w H x dx) (h : methF P dx m S = some g) :
    ∃ aa, x = .ref aa ∧ PySem.W.keepIn X.K (.ref (T.fa g)) = true ∧ ∀ (pl : Sem Bool) (R : Value × List Value → Shared → Prop), R (.ref (T.fa g), [.ref aa]) s → wpAny (model X.prog X.w) X.A (getMethod u name pl) R X.xe s := by
  have key : ∀ {n : Nat} {aa dx : Addr} {vs : List (Str × V)} {fs : List (Nat × D)}, H aa = some (.ins (T.ca n) dx vs) → RepF T w H vs fs → methI P n fs m = some g → u = .ref aa →
      PySem.W.keepIn X.K (.ref (T.fa g)) = true ∧ ∀ (pl : Sem Bool) (R : Value × List Value → Shared → Prop), R (.ref (T.fa g), [.ref aa]) s → wpAny (model X.prog X.w) X.A (getMethod u name pl) R X.xe s := by
    intro n aa dx vs fs ha rf hm hu
    subst hu
    unfold methI at hm
    cases hc : P.cs[n]? with
    | none => rw [hc] at hm; cases hm
    | some ci =>
      rw [hc] at hm
      dsimp only at hm
      cases hl : ci.meth.lookup m with
      | none => rw [hl] at hm; cases hm
      | some g' =>
        rw [hl] at hm
        dsimp only at hm
        cases hl2 : fs.lookup m with
        | some d => rw [hl2] at hm; cases hm
        | none =>
          rw [hl2] at hm
          cases hm
          obtain ⟨hg, nm', e1, mt⟩ := cn.ko.meth n ci m g hc hl
          rw [hf] at e1; cases e1
          have c1 := (cn.ko.cls n (cls_lt hc)).cls
          have hK := cn.K
          rw [← hK] at c1 mt
          exact ⟨mt.kp, fun pl R q => getmeth_ok I ha c1 mt ((rf.lookup cn.ko.nd hf).2 hl2) q⟩
  cases dx with
  | obj n fs =>
    obtain ⟨aa, dd, vs, rfl, ha, fz, rf⟩ := hx.objI
    exact ⟨aa, rfl, key ha rf h rx⟩
  | cell i =>
    have h' : (match S[i]? with
      | some (.ins c fs) => methI P c fs m
      | _ => none) = some g := h
    cases e : S[i]? with
    | none => rw [e] at h'; cases h'
    | some cc =>
      cases cc with
      | ins n fs =>
        rw [e] at h'
        obtain ⟨aa, dd, vs, rfl, _, ha, rf⟩ := cell_ins st hx e
        exact ⟨aa, rfl, key ha rf h' rx⟩
      | _ => rw [e] at h'; cases h'
  | _ => cases h
def methMir (P : Pg) (k m : Nat) (ma : Mir) (ml : MirL) : Mir := fun fr S => (ma fr S).bind fun x S1 => match methF P x m S1 with
    | some g => (ml fr S1).bind fun ds S2 => callM P (run P k) g (x :: ds) S2
    | none => .bad
theorem m_meth (cn : Cn T P k Wx X) {m : Nat} {name : Str} {apos : Pos} (hf : T.nm[m]? = some name) (ha : PE X a (tE T Wx ma)) (hl : PA X (b :: es) (tL T Wx ml)) (h1 : plainO a = true) (h2 : noStar (b :: es) = true) (h3 : (b :: es).length < 30) (h4 : (apos.endLine == pos.line) = true) :
    PE X (.Call (.Attribute a name apos) (b :: es) [] pos) (tE T Wx (methMir P k m ma ml)) := by
  refine ⟨fun pins s σ H Q I h => ?_⟩
  refine PySem.W.methodCall_KW (thn (ha.run pins s σ H _ I (tE_bind h)) fun u s1 ⟨x, H1, I1, rx, w, fr, d, S, f, st, r, q⟩ => ?_) (meth_form h1 h2 h3 h4)
  cases hm : methF P d m S with
  | none => rw [hm] at q; exact q.elim
  | some g =>
    rw [hm] at q
    obtain ⟨aa, rfl, kp, gm⟩ := meth_at cn hf I1 rx st r hm
    refine gm _ _ ?_
    have h5 := hl.run pos pins s1 σ H1 _ I1 ⟨w, fr, S, f, st, postL_bind q⟩
    have fin : ∀ us s2, AP X pins σ (fun vs H1' => ∃ w1 ds S1, Ext none w H1 w1 H1' ∧ Reps T w1 H1' vs ds ∧ StOk T w1 H1' S1 ∧ ml fr S = .ok ds S1 ∧ PostE T Wx w1 σ H1' (callM P (run P k) g (d :: ds) S1) Q) us s2 →
        X.K.In s2.heap ∧ wpAny (model X.prog X.w) X.A (call (.ref (T.fa g)) ([.ref aa] ++ us)) (EP X pins σ Q) X.xe s2 := by
      intro us s2 ⟨vs, H2, I2, rv, w2, ds, S2, e2, rs, st2, _, q2⟩
      exact ⟨I2.kIn, c_fn cn g pins s2 σ H2 (.ref aa :: vs) (.ref aa :: us) Q I2 (.cons rfl rv) ⟨w2, S2, d :: ds, st2, .cons (r.mono (e2.mono (.inl rfl))) rs, q2⟩⟩
    exact PySem.W.callWith_K (first := [.ref aa]) (h₀ := X.base) I1.ok.mod.kin kp (thn h5 fin) (star_cons h2).1 (star_any (star_cons (env := X.env) h2).2)
theorem m_meth0 (cn : Cn T P k Wx X) {m : Nat} {name : Str} {apos : Pos} (hf : T.nm[m]? = some name) (ha : PE X a (tE T Wx ma)) (h1 : plainO a = true) (h4 : (apos.endLine == pos.line) = true) :
    PE X (.Call (.Attribute a name apos) [] [] pos) (tE T Wx (methMir P k m ma fun _ S => .ok [] S)) := by
  refine ⟨fun pins s σ H Q I h => ?_⟩
  refine PySem.W.methodCall_KW (thn (ha.run pins s σ H _ I (tE_bind h)) fun u s1 ⟨x, H1, I1, rx, w, fr, d, S, f, st, r, q⟩ => ?_) (meth_form h1 rfl (by show 0 < 30; decide) h4)
  cases hm : methF P d m S with
  | none => rw [hm] at q; exact q.elim
  | some g =>
    rw [hm] at q
    obtain ⟨aa, rfl, kp, gm⟩ := meth_at cn hf I1 rx st r hm
    refine gm _ _ ?_
    exact PySem.W.callWith_K0 I1.kIn kp (c_fn cn g pins s1 σ H1 [.ref aa] [.ref aa] Q I1 (.cons rfl .nil) ⟨w, S, [d], st, .cons r .nil, q⟩)
/-! ### values by keyword -/
theorem k_nil : PK X [] (tL T Wx fun _ S => .ok [] S) := ⟨fun pos pins s σ H Q I h => by
  obtain ⟨w, fr, S, f, st, p⟩ := h
  exact pk_nil.run pos pins s σ H Q I (p [] w H .refl .nil st)⟩
theorem k_cons {nm : Option Str} {kpos : Pos} {kws : List Keyword} (ha : PE X a (tE T Wx ma)) (hr : PK X kws (tL T Wx mr)) : PK X (⟨nm, a, kpos⟩ :: kws) (tL T Wx fun fr S => (ma fr S).bindL fun d S1 => (mr fr S1).bindL fun ds S2 => .ok (d :: ds) S2) := by
  refine ⟨fun pos pins s σ H Q I h => (pk_cons ha hr).run pos pins s σ H Q I ?_⟩
  obtain ⟨w, fr, S, f, st, p⟩ := h
  refine ⟨w, fr, S, f, st, (post_bindL p).imp fun x H1 ⟨w1, d, S1, e, r, st1, _, q⟩ => ?_⟩
  refine ⟨w1, fr, S1, f.mono e st, st1, (postL_bindL q).imp fun xs H2 ⟨w2, ds, S2, e2, rs, st2, _, q2⟩ => ?_⟩
  exact q2 _ w2 H2 .refl (.cons (r.mono (e2.mono (.inl rfl))) rs) st2
/-- how the keywords lie beside the parameters -/
structure KwOk (l : List Str) (n : Nat) (kws : List Keyword) : Prop where
  nm : kws.map (·.arg) = ((l.drop n).take kws.length).map some
  le : n + kws.length ≤ l.length
/-- the end of a call by keyword: what is given, then the keywords' values -/
theorem kw_end (cn : Cn T P k Wx X) {g : Nat} {l : List Str} {kws : List Keyword} {us0 us : List Value} {vs0 vs : List V} {ds0 ds : List D} {fr : Fr} (hl : T.pn g = l) (hk : KwOk l (us0 ++ us).length kws) (hkw : PK X kws (tL T Wx mr)) (hn : ∀ fr S zs S', mr fr S = .ok zs S' → zs.length = kws.length)
    (I : Inv X pins σ H s) (r : Vals (vs0 ++ vs) (us0 ++ us)) (f : FrOk T w H σ fr) (st : StOk T w H S) (rs : Reps T w H (vs0 ++ vs) (ds0 ++ ds)) (q : PostE T Wx w σ H ((mr fr S).bind fun zs S2 => callM P (run P k) g (ds0 ++ ds ++ zs) S2) Q) :
    wpAny (model X.prog X.w) X.A (evalAll ((backToKw pos (keywordEach kws X.env)).map (·.2))) (fun ks s₂ => X.K.In s₂.heap ∧ wpAny (model X.prog X.w) X.A (call (.ref (T.fa g)) (us0 ++ us) (((backToKw pos (keywordEach kws X.env)).filterMap (·.1)).zip ks)) (EP X pins σ Q) X.xe s₂) X.xe s := by
  refine thn (hkw.run pos pins s σ H _ I ⟨w, fr, S, f, st, postL_bind q⟩) fun ws s2 ⟨zs, H2, I2, rz, w2, es, S2, e2, rs2, st2, eq2, q2⟩ => ⟨I2.kIn, ?_⟩
  obtain ⟨_, _, q3⟩ := some_list ((kw_names (pos := pos) (env := X.env) (kws := kws)).trans hk.nm)
  have hwl : ws.length = kws.length := by rw [← rz.length, rs2.length, hn _ _ _ _ eq2]
  rw [q3, ← hwl, ← hl]
  unfold callM at q2
  cases e : fill P g 0 (ds0 ++ ds ++ es) with
  | none => rw [e] at q2; exact q2.elim
  | some es' =>
    rw [e] at q2
    exact call_fnk cn I2 (by rw [hl, hwl]; exact hk.le) (r.append rz) st2 ((rs.mono (e2.mono (.inl rfl))).append rs2) e q2
def kcallM (P : Pg) (k g : Nat) (ml mr : MirL) : Mir := fun fr S => (ml fr S).bind fun ds S1 => (mr fr S1).bind fun zs S2 => callM P (run P k) g (ds ++ zs) S2
theorem m_kcall (cn : Cn T P k Wx X) {x : Str} {p : Pos} {g : Nat} {l : List Str} {kws : List Keyword} (hg : Gl X x) (hm : X.mg x = some (.ref (T.fa g))) (hk : PySem.W.keepIn X.K (.ref (T.fa g)) = true) (hl : T.pn g = l) (hw : KwOk l (a :: es).length kws) (ha : PA X (a :: es) (tL T Wx ml)) (hkw : PK X kws (tL T Wx mr))
    (h1 : ∀ fr S zs S', ml fr S = .ok zs S' → zs.length = (a :: es).length) (h2 : ∀ fr S zs S', mr fr S = .ok zs S' → zs.length = kws.length) (hn : noStar (a :: es) = true) (hd : (x == ("__debug__" : Str)) = false) :
    PE X (.Call (.Name x p) (a :: es) kws pos) (tE T Wx (kcallM P k g ml mr)) := by
  refine ⟨fun pins s σ H Q I ⟨w, fr, S, f, st, q⟩ => ?_⟩
  obtain ⟨q1, q2, _⟩ := some_list ((kw_names (pos := pos) (env := X.env) (kws := kws)).trans hw.nm)
  refine wpAny_Call_Name_kw (ld_glob I hg hm ?_ hd)
  have q : PostE T Wx w σ H ((ml fr S).bind fun ds S1 => (mr fr S1).bind fun zs S2 => callM P (run P k) g (ds ++ zs) S2) Q := q
  refine PySem.W.callWith_KW (first := []) (h₀ := X.base) I.ok.mod.kin hk q1 (thn (ha.run pos pins s σ H _ I ⟨w, fr, S, f, st, postL_bind q⟩) fun us s1 ⟨vs, H1, I1, r, w1, ds, S1, e1, rs, st1, eq, q4⟩ => ?_) (by rw [star_any hn, q2]; rfl) (star_cons hn).1
  have hul : us.length = (a :: es).length := by rw [← r.length, rs.length, h1 _ _ _ _ eq]
  exact kw_end cn (us0 := []) (vs0 := []) (ds0 := []) hl (by show KwOk l us.length kws; rw [hul]; exact hw) hkw h2 I1 r (f.mono e1 st) st1 rs q4
theorem m_kcall0 (cn : Cn T P k Wx X) {x : Str} {p : Pos} {g : Nat} {l : List Str} {kws : List Keyword} (hg : Gl X x) (hm : X.mg x = some (.ref (T.fa g))) (hk : PySem.W.keepIn X.K (.ref (T.fa g)) = true) (hl : T.pn g = l) (hw : KwOk l 0 kws) (hkw : PK X kws (tL T Wx mr))
    (h2 : ∀ fr S zs S', mr fr S = .ok zs S' → zs.length = kws.length) (hd : (x == ("__debug__" : Str)) = false) :
    PE X (.Call (.Name x p) [] kws pos) (tE T Wx (kcallM P k g (fun _ S => .ok [] S) mr)) := by
  refine ⟨fun pins s σ H Q I ⟨w, fr, S, f, st, q⟩ => ?_⟩
  obtain ⟨q1, q2, _⟩ := some_list ((kw_names (pos := pos) (env := X.env) (kws := kws)).trans hw.nm)
  refine wpAny_Call_Name_kw (ld_glob I hg hm ?_ hd)
  refine PySem.W.callWith_KW0 (first := []) (h₀ := X.base) I.ok.mod.kin hk q1 ?_ (by show (false || _) = false; rw [q2]; rfl)
  exact kw_end cn (us0 := []) (us := []) (vs0 := []) (vs := []) (ds0 := []) (ds := []) hl hw hkw h2 I .nil f st .nil q
def kmethM (P : Pg) (k m : Nat) (ma : Mir) (ml mr : MirL) : Mir := fun fr S => (ma fr S).bind fun x S1 => match methF P x m S1 with
    | some g => (ml fr S1).bind fun ds S2 => (mr fr S2).bind fun zs S3 => callM P (run P k) g (x :: (ds ++ zs)) S3
    | none => .bad
theorem m_kmeth (cn : Cn T P k Wx X) {m : Nat} {name : Str} {apos : Pos} {l : List Str} {kws : List Keyword} (hf : T.nm[m]? = some name) (ha : PE X a (tE T Wx ma)) (hl : PA X (b :: es) (tL T Wx ml)) (hkw : PK X kws (tL T Wx mr))
    (hw : ∀ (x : D) (S : Store) (g : Nat), methF P x m S = some g → KwOk (T.pn g) ((b :: es).length + 1) kws) (hk : kws.map (·.arg) = l.map some)
    (h6 : ∀ fr S zs S', ml fr S = .ok zs S' → zs.length = (b :: es).length) (h7 : ∀ fr S zs S', mr fr S = .ok zs S' → zs.length = kws.length) (h1 : plainO a = true) (h2 : noStar (b :: es) = true) (h3 : (b :: es).length + kws.length < 15) (h4 : (apos.endLine == pos.line) = true) :
    PE X (.Call (.Attribute a name apos) (b :: es) kws pos) (tE T Wx (kmethM P k m ma ml mr)) := by
  refine ⟨fun pins s σ H Q I h => ?_⟩
  refine PySem.W.methodCall_KW (thn (ha.run pins s σ H _ I (tE_bind h)) fun u s1 ⟨x, H1, I1, rx, w, fr, d, S, f, st, r, q⟩ => ?_) (meth_formK h1 h2 h3 h4 hk)
  cases hm : methF P d m S with
  | none => rw [hm] at q; exact q.elim
  | some g =>
    rw [hm] at q
    have q : PostE T Wx w σ H1 ((ml fr S).bind fun ds S2 => (mr fr S2).bind fun zs S3 => callM P (run P k) g (d :: (ds ++ zs)) S3) Q := q
    obtain ⟨aa, rfl, kp, gm⟩ := meth_at cn hf I1 rx st r hm
    refine gm _ _ ?_
    have hw' := hw d S g hm
    obtain ⟨q1, q2, _⟩ := some_list ((kw_names (pos := pos) (env := X.env) (kws := kws)).trans hk)
    refine PySem.W.callWith_KW (first := [.ref aa]) (h₀ := X.base) I1.ok.mod.kin kp q1 (thn (hl.run pos pins s1 σ H1 _ I1 ⟨w, fr, S, f, st, postL_bind q⟩) fun us s2 ⟨vs, H2, I2, rv, w2, ds, S2, e2, rs, st2, eq, q4⟩ => ?_) (by rw [star_any h2, q2]; rfl) (star_cons h2).1
    have hul : us.length = (b :: es).length := by rw [← rv.length, rs.length, h6 _ _ _ _ eq]
    exact kw_end cn (us0 := [.ref aa]) (vs0 := [.ref aa]) (ds0 := [d]) rfl (by show KwOk (T.pn g) (us.length + 1) kws; rw [hul]; exact hw') hkw h7 I2 (.cons rfl rv) (f.mono e2 st) st2 (.cons (r.mono (e2.mono (.inl rfl))) rs) q4
theorem m_kmeth0 (cn : Cn T P k Wx X) {m : Nat} {name : Str} {apos : Pos} {l : List Str} {kws : List Keyword} (hf : T.nm[m]? = some name) (ha : PE X a (tE T Wx ma)) (hkw : PK X kws (tL T Wx mr))
    (hw : ∀ (x : D) (S : Store) (g : Nat), methF P x m S = some g → KwOk (T.pn g) 1 kws) (hk : kws.map (·.arg) = l.map some) (h7 : ∀ fr S zs S', mr fr S = .ok zs S' → zs.length = kws.length) (h1 : plainO a = true) (h3 : kws.length < 15) (h4 : (apos.endLine == pos.line) = true) :
    PE X (.Call (.Attribute a name apos) [] kws pos) (tE T Wx (kmethM P k m ma (fun _ S => .ok [] S) mr)) := by
  refine ⟨fun pins s σ H Q I h => ?_⟩
  refine PySem.W.methodCall_KW (thn (ha.run pins s σ H _ I (tE_bind h)) fun u s1 ⟨x, H1, I1, rx, w, fr, d, S, f, st, r, q⟩ => ?_) (meth_formK (es := []) h1 rfl (by simpa using h3) h4 hk)
  cases hm : methF P d m S with
  | none => rw [hm] at q; exact q.elim
  | some g =>
    rw [hm] at q
    have q : PostE T Wx w σ H1 ((mr fr S).bind fun zs S3 => callM P (run P k) g (d :: ([] ++ zs)) S3) Q := q
    obtain ⟨aa, rfl, kp, gm⟩ := meth_at cn hf I1 rx st r hm
    refine gm _ _ ?_
    obtain ⟨q1, q2, _⟩ := some_list ((kw_names (pos := pos) (env := X.env) (kws := kws)).trans hk)
    refine PySem.W.callWith_KW0 (first := [.ref aa]) (h₀ := X.base) I1.ok.mod.kin kp q1 ?_ (by show (false || _) = false; rw [q2]; rfl)
    exact kw_end cn (us0 := [.ref aa]) (us := []) (vs0 := [.ref aa]) (vs := []) (ds0 := [d]) (ds := []) rfl (hw d S g hm) hkw h7 I1 (.cons rfl .nil) f st (.cons r .nil) q
/-! ### displays -/
theorem m_tup {x1} (hl : PA X es (tL T Wx ml)) : PE X (.Tuple es x1 pos) (tE T Wx fun fr S => (ml fr S).bind fun ds S1 => if ds.length < lim then .ok (.tup ds) S1 else .bad) := by
  refine PE.imp (pe_tup hl) fun σ H Q h => ?_
  obtain ⟨w, fr, S, f, st, p⟩ := h
  refine ⟨w, fr, S, f, st, (postL_bind p).imp fun xs H1 ⟨w1, ds, S1, e, r, st1, _, q⟩ => ?_⟩
  obtain ⟨hz, q⟩ := post_if q
  have := lim_line
  refine ⟨by rw [r.length]; omega, fun p hp => ?_⟩
  exact post_new q st1 hp (.tup upd_same (st1.fz_new hp) (r.mono ((ext_new hp).mono (.inl rfl))))
/-- a new cell -/
theorem post_cell {a : Addr} {o : HO} {c : Cell} (h : PostE T Wx w σ H (.ok (.cell S.length) (S ++ [c])) Q) (st : StOk T w H S) (hp : H a = none) (hc : CellOk T ⟨w.cs ++ [some a], w.ux, w.own⟩ (upd H a o) (some a) c) : Q (.ref a) (upd H a o) := by
  have hl := st.len
  have e : Ext none w H ⟨w.cs ++ [some a], w.ux, w.own⟩ (upd H a o) := by
    have e0 := ext_new (w := w) (o := o) hp
    refine ⟨by show w.cs.length ≤ (w.cs ++ [some a]).length; simp, fun b u hb hn ho _ => e0.keep b u hb hn ho (.inr rfl), e0.there, fun b hb hn n hh => ?_, fun n b hh => ?_, fun n hh => ?_, rfl, rfl⟩
    · have hh' : (w.cs ++ [some a])[n]? = some (some b) := hh
      rw [List.getElem?_append] at hh'
      split at hh'
      · exact hn n hh'
      · rcases Nat.eq_zero_or_pos (n - w.cs.length) with z | z
        · rw [z] at hh'; simp at hh'; subst hh'; exact hb.ne hp
        · rw [List.getElem?_eq_none (by simp; omega)] at hh'; cases hh'
    · have hn : n < w.cs.length := (List.getElem?_eq_some_iff.mp hh).1
      exact .inl (by show (w.cs ++ [some a])[n]? = _; rw [List.getElem?_append_left hn]; exact hh)
    · have hn : n < w.cs.length := (List.getElem?_eq_some_iff.mp hh).1
      show (w.cs ++ [some a])[n]? = _; rw [List.getElem?_append_left hn]; exact hh
  refine h (.ref a) ⟨w.cs ++ [some a], w.ux, w.own⟩ _ e (.cell ?_) ?_
  · show (w.cs ++ [some a])[S.length]? = _
    rw [← hl]; simp
  · have st0 := st.new (o := o) hp
    have old : ∀ n b, (w.cs ++ [some a])[n]? = some (some b) → w.cs[n]? = some (some b) ∨ (n = w.cs.length ∧ b = a) := by
      intro n b hh
      rw [List.getElem?_append] at hh
      split at hh
      · exact .inl hh
      · rcases Nat.eq_zero_or_pos (n - w.cs.length) with z | z
        · rw [z] at hh; simp at hh; exact .inr ⟨by omega, hh.symm⟩
        · rw [List.getElem?_eq_none (by simp; omega)] at hh; cases hh
    refine ⟨by show (w.cs ++ [some a]).length = _; simp [hl], fun n cc hcc a? ha => ?_, fun n m b h1 h2 => ?_, fun n b h1 => ?_, fun b hb => e.there b (st.uxs b hb), fun b hb => e.there b (st.owns b hb), st0.tabs⟩
    · have ha' : (w.cs ++ [some a])[n]? = some a? := ha
      by_cases hn : n < S.length
      · rw [List.getElem?_append_left hn] at hcc
        rw [List.getElem?_append_left (by omega)] at ha'
        have q := st.at_ n cc hcc a? ha'
        refine q.mono (e.mono (.inl rfl)) fun b eb => upd_ne fun z => ?_
        subst eb
        exact st.cellH ha' (by rw [z]; exact hp)
      · have hn2 : n = S.length := by
          have := (List.getElem?_eq_some_iff.mp hcc).1
          simp at this; omega
        subst hn2
        rw [← hl] at ha'
        simp at ha' hcc
        subst ha'; subst hcc
        exact hc
    · rcases old n b h1 with q1 | ⟨q1, q2⟩ <;> rcases old m b h2 with q3 | ⟨q3, q4⟩
      · exact st.inj n m b q1 q3
      · subst q4; exact absurd hp (st.cellH q1)
      · subst q2; exact absurd hp (st.cellH q3)
      · omega
    · rcases old n b h1 with q1 | ⟨q1, q2⟩
      · exact st.dis n b q1
      · subst q2
        exact ⟨fun z => (st.uxs _ z).ne hp, fun z => (st.owns _ z).ne hp⟩
theorem m_lst {cell : Bool} (hl : PA X es (tL T Wx ml)) : PE X (.List es pos) (tE T Wx fun fr S => (ml fr S).bind fun ds S1 => if ds.length < lim then (if cell then .ok (.cell S1.length) (S1 ++ [.lst ds]) else .ok (.lst ds) S1) else .bad) := by
  refine PE.imp (pe_lst hl) fun σ H Q h => ?_
  obtain ⟨w, fr, S, f, st, p⟩ := h
  refine ⟨w, fr, S, f, st, (postL_bind p).imp fun xs H1 ⟨w1, ds, S1, e, r, st1, _, q⟩ => ?_⟩
  obtain ⟨hz, q⟩ := post_if q
  have := lim_line
  refine ⟨by rw [r.length]; omega, fun pa hp => ?_⟩
  cases cell with
  | false => exact post_new q st1 hp (.lst upd_same (st1.fz_new hp) (r.mono ((ext_new hp).mono (.inl rfl))))
  | true =>
    refine post_cell q st1 hp ⟨pa, xs, rfl, upd_same, r.mono ?_⟩
    have e0 := (ext_new (w := w1) (o := HO.lst xs) hp).mono (.inl rfl)
    refine ⟨fun b u nt hb hf => ⟨(e0.fz b u nt hb hf).1, fun n hn => ?_, hf.2.1, hf.2.2⟩, fun n b hn => .inl ?_, fun n hn => ?_⟩
    · have hn' : (w1.cs ++ [some pa])[n]? = some (some b) := hn
      rw [List.getElem?_append] at hn'
      split at hn'
      · exact hf.1 n hn'
      · rcases Nat.eq_zero_or_pos (n - w1.cs.length) with z | z
        · rw [z] at hn'; simp at hn'; subst hn'; rw [hp] at hb; cases hb
        · rw [List.getElem?_eq_none (by simp; omega)] at hn'; cases hn'
    · have hn2 : n < w1.cs.length := (List.getElem?_eq_some_iff.mp hn).1
      show (w1.cs ++ [some pa])[n]? = _; rw [List.getElem?_append_left hn2]; exact hn
    · have hn2 : n < w1.cs.length := (List.getElem?_eq_some_iff.mp hn).1
      show (w1.cs ++ [some pa])[n]? = _; rw [List.getElem?_append_left hn2]; exact hn
/-! ### the store's writes -/
theorem ext_set {n : Nat} {a : Addr} {o : HO} (ho : ∀ ps, o ≠ .tbl ps) (hc : w.cs[n]? = some (some a)) : Ext none w H w (upd H a o) := by
  refine ⟨Nat.le_refl _, fun b u hb hn _ _ => ?_, fun b hb => nt_upd ho hb, fun _ _ h => h, fun _ _ h => .inl h, fun _ h => h, rfl, rfl⟩
  rw [upd_ne fun z => hn n (by rw [z]; exact hc)]; exact hb
theorem st_set {n : Nat} {a : Addr} {o : HO} {c : Cell} (ho : ∀ ps, o ≠ .tbl ps) (st : StOk T w H S) (hc : w.cs[n]? = some (some a)) (hk : CellOk T w (upd H a o) (some a) c) : StOk T w (upd H a o) (S.set n c) := by
  have e := ext_set (H := H) (o := o) ho hc
  refine ⟨by rw [List.length_set]; exact st.len, fun m cc hm a? ha => ?_, st.inj, st.dis, fun b hb => e.there b (st.uxs b hb), fun b hb => e.there b (st.owns b hb), st.tabs_cell hc⟩
  by_cases q : n = m
  · subst q
    have hl : n < S.length := by have := (List.getElem?_eq_some_iff.mp hm).1; simpa using this
    rw [List.getElem?_set_self hl] at hm
    cases hm
    rw [hc] at ha; cases ha
    exact hk
  · rw [List.getElem?_set_ne q] at hm
    refine (st.at_ m cc hm a? ha).mono (e.mono (.inl rfl)) fun b eb => upd_ne fun z => ?_
    subst eb; subst z
    exact q (st.inj n m _ hc ha)
theorem isLst_d {d : D} (h : isLst d S = true) : ∃ n l, d = .cell n ∧ S[n]? = some (.lst l) := by
  unfold isLst at h
  cases d with
  | cell n =>
    dsimp only at h
    cases e : S[n]? with
    | none => rw [e] at h; cases h
    | some c =>
      cases c with
      | lst l => exact ⟨n, l, rfl, e⟩
      | _ => rw [e] at h; cases h
  | _ => cases h
/-- o.append(e) -/
theorem m_app (hK : X.K = T.K) {apos : Pos} (ha : PE X a (tE T Wx ma)) (hb : PE X b (tE T Wx mb)) (h1 : plainO a = true) (h2 : noStar [b] = true) (h4 : (apos.endLine == pos.line) = true) :
    PE X (.Call (.Attribute a "append" apos) [b] [] pos) (tE T Wx fun fr S => (ma fr S).bind fun x S1 => if isLst x S1 then (mb fr S1).bind fun y S2 => appM x y S2 else .bad) := by
  refine PE.imp (pe_bm PySem.F.plainAttrs_list PySem.F.slot_list_append PySem.F.type_list_append mt_append ha (pa_cons hb pa_nil (star_cons h2).1) (attr_base h1) (by rw [star_all h2]; rfl) h4 (star_cons h2).1 rfl) fun σ H Q h => ?_
  obtain ⟨w, fr, S, f, st, p⟩ := h
  refine ⟨w, fr, S, f, st, (post_bind p).imp fun x H1 ⟨w1, d, S1, e, r, st1, _, q⟩ => ?_⟩
  obtain ⟨hq, q⟩ := post_if q
  obtain ⟨n, l, rfl, hl⟩ := isLst_d hq
  obtain ⟨aa, vs, rfl, hcs, hH, hr⟩ := cell_lst st1 r hl
  refine ⟨.inl ⟨rfl, vs, .inl (.inl hH)⟩, w1, fr, S1, f.mono e st, st1, (post_bind q).imp fun y H2 ⟨w2, d2, S2, e2, r2, st2, _, q2⟩ => ?_⟩
  have q2' : PostE T Wx w2 σ H2 (match S2[n]? with
    | some (.lst l) => if l.length < lim then .ok .non (S2.set n (.lst (l ++ [d2]))) else .bad
    | _ => .bad) Q := q2
  cases e3 : S2[n]? with
  | none => rw [e3] at q2'; exact q2'.elim
  | some cc =>
    cases cc with
    | lst l2 =>
      rw [e3] at q2'
      obtain ⟨hz, q3⟩ := post_if q2'
      obtain ⟨ab, vs2, eab, hcs2, hH2, hr2⟩ := cell_lst st2 (r.mono (e2.mono (.inl rfl))) e3
      cases eab
      have := lim_line
      refine ⟨aa, vs2, y, rfl, rfl, hH2, by rw [hr2.length]; omega, ?_⟩
      have ee := ext_set (H := H2) (o := HO.lst (vs2 ++ [y])) lst_nt hcs2
      exact q3 .non w2 _ ee .non (st_set lst_nt st2 hcs2 ⟨aa, _, rfl, upd_same, (hr2.append (.single r2)).mono (ee.mono (.inl rfl))⟩)
    | _ => rw [e3] at q2'; exact q2'.elim
/-- a cell becomes a list that nobody changes -/
theorem m_frz (ha : PE X a (tE T Wx ma)) : PE X a (tE T Wx fun fr S => (ma fr S).bind fun x S1 => frzM x S1) := by
  refine PE.imp ha fun σ H Q h => ?_
  obtain ⟨w, fr, S, f, st, p⟩ := h
  refine ⟨w, fr, S, f, st, (post_bind p).imp fun x H1 ⟨w1, d, S1, e, r, st1, _, q⟩ => ?_⟩
  cases d with
  | cell n =>
    have q' : PostE T Wx w1 σ H1 (match S1[n]? with
      | some (.lst l) => .ok (.lst l) (S1.set n .dead)
      | _ => .bad) Q := q
    cases e3 : S1[n]? with
    | none => rw [e3] at q'; exact q'.elim
    | some cc =>
      cases cc with
      | lst l =>
        rw [e3] at q'
        obtain ⟨aa, vs, rfl, hcs, hH, hr⟩ := cell_lst st1 r e3
        have hn : n < w1.cs.length := (List.getElem?_eq_some_iff.mp hcs).1
        have at1 : ∀ m b, (w1.cs.set n none)[m]? = some (some b) → m ≠ n ∧ w1.cs[m]? = some (some b) := by
          intro m b hm
          by_cases z : n = m
          · subst z; rw [List.getElem?_set_self hn] at hm; cases hm
          · rw [List.getElem?_set_ne z] at hm; exact ⟨fun q => z q.symm, hm⟩
        have ee : Ext none w1 H1 ⟨w1.cs.set n none, w1.ux, w1.own⟩ H1 := by
          refine ⟨by show w1.cs.length ≤ (w1.cs.set n none).length; simp, fun _ _ h _ _ _ => h, fun _ h => h, fun b hb hh m hm => hh m (at1 m b hm).2, fun m b hm => ?_, fun m hm => ?_, rfl, rfl⟩
          · by_cases z : n = m
            · subst z; exact .inr (List.getElem?_set_self hn)
            · exact .inl (by show (w1.cs.set n none)[m]? = _; rw [List.getElem?_set_ne z]; exact hm)
          · by_cases z : n = m
            · subst z; exact List.getElem?_set_self hn
            · show (w1.cs.set n none)[m]? = _; rw [List.getElem?_set_ne z]; exact hm
        obtain ⟨dx, dow⟩ := st1.dis n aa hcs
        refine q' (.ref aa) _ H1 ee (.lst hH ⟨fun m hm => ?_, dx, dow⟩ (hr.mono (ee.mono (.inl rfl)))) ?_
        · exact (at1 m aa hm).1 (st1.inj m n aa (at1 m aa hm).2 hcs)
        · refine ⟨by show (w1.cs.set n none).length = _; rw [List.length_set, List.length_set]; exact st1.len, fun m cc hm a? ha => ?_, fun m m' b h1 h2 => st1.inj m m' b (at1 m b h1).2 (at1 m' b h2).2, fun m b h1 => st1.dis m b (at1 m b h1).2, st1.uxs, st1.owns, st1.tabs⟩
          have ha' : (w1.cs.set n none)[m]? = some a? := ha
          by_cases z : n = m
          · subst z
            rw [List.getElem?_set_self hn] at ha'
            cases ha'
            rw [List.getElem?_set_self (by rw [← st1.len]; exact hn)] at hm
            cases hm
            exact rfl
          · rw [List.getElem?_set_ne z] at ha' hm
            exact (st1.at_ m cc hm a? ha').mono (ee.mono (.inl rfl)) fun _ _ => rfl
      | _ => rw [e3] at q'; exact q'.elim
  | _ => exact (show False from q).elim
end
end Mi
end

section
set_option maxRecDepth 100000
set_option maxHeartbeats 1000000
/-! Mi: built-in functions, isinstance. -/
namespace Mi
open PySem PySem.Spec L2 PyProof.Rows
section
variable {T : Tb} {P : Pg} {k : Nat} {Wx : WX} {X : Cx} {pins : List (Addr × Obj)} {σ : L2.St} {H : Hp} {s : Shared} {Q : VK} {w : Wl} {S : Store} {a b c : Expr} {ma mb mc : Mir} {ml mr : MirL} {pos : Pos} {es : List Expr} {cl : Call}
theorem reps1 {xs : List V} {d : D} (r : Reps T w H xs [d]) : ∃ x, xs = [x] ∧ Rep T w H x d := by
  cases r with
  | cons r1 r2 => cases r2; exact ⟨_, rfl, r1⟩
theorem reps2 {xs : List V} {d e : D} (r : Reps T w H xs [d, e]) : ∃ x y, xs = [x, y] ∧ Rep T w H x d ∧ Rep T w H y e := by
  cases r with
  | cons r1 r2 =>
    cases r2 with
    | cons r3 r4 => cases r4; exact ⟨_, _, rfl, r1, r3⟩
/-- one argument -/
theorem c_one {f : Value} {r : List V → Hp → VK → Prop} {g : List D → Store → Res} (hc : CallR X f r)
    (h1 : ∀ (σ : L2.St) (H : Hp) (w : Wl) (S : Store) (x : V) (d : D) (Q : VK), StOk T w H S → Rep T w H x d → PostE T Wx w σ H (g [d] S) Q → r [x] H Q)
    (h2 : ∀ ds S, ds.length ≠ 1 → g ds S = .bad) : CallS X f (rL T Wx g) := by
  intro pins s σ H xs us Q I rv ⟨w, S, ds, st, rs, h⟩
  by_cases hl : ds.length = 1
  · match ds, hl with
    | [d], _ =>
      obtain ⟨x, rfl, rx⟩ := reps1 rs
      exact hc pins s σ H [x] us Q I rv (h1 σ H w S x d Q st rx h)
  · rw [h2 ds S hl] at h; exact h.elim
def absI (ds : List D) (S : Store) : Res := match ds with
  | [.int i] => .ok (.int (if i < 0 then -i else i)) S
  | _ => .bad
theorem c_absI : CallS X (.builtin "abs") (rL T Wx absI) := by
  refine c_one call_abs (fun σ H w S x d Q st r h => ?_) fun ds S h => ?_
  · cases d with
    | int i => exact ⟨i, by rw [r.intI], post_ok h (.int _) st⟩
    | _ => exact (show False from h).elim
  · match ds, h with
    | [], _ => rfl
    | d :: _ :: _, _ => cases d <;> rfl
    | [_], h => exact absurd rfl h
theorem c_int : CallS X (.type "int") (rL T Wx (biM P cl .int)) := by
  refine c_one call_int1 (fun σ H w S x d Q st r h => ?_) fun ds S h => ?_
  · cases d with
    | int i => exact .inl ⟨i, by rw [r.intI], post_ok h (.int _) st⟩
    | bl i => exact .inr ⟨i, by rw [r.blI], post_ok h (.int _) st⟩
    | _ => exact (show False from h).elim
  · match ds, h with
    | [], _ => rfl
    | d :: _ :: _, _ => cases d <;> rfl
    | [_], h => exact absurd rfl h
theorem c_str : CallS X (.type "str") (rL T Wx (biM P cl .str)) := by
  refine c_one call_str_int (fun σ H w S x d Q st r h => ?_) fun ds S h => ?_
  · cases d with
    | int i =>
      have h' : PostE T Wx w σ H (if decide (i.natAbs.log2 < 1920) = true then .ok (.str (Str.ofString (toString i))) S else .bad) Q := h
      split at h'
      · rename_i hz
        exact ⟨i, by rw [r.intI], of_decide_eq_true hz, post_ok h' (.str _) st⟩
      · exact h'.elim
    | _ => exact (show False from h).elim
  · match ds, h with
    | [], _ => rfl
    | d :: _ :: _, _ => cases d <;> rfl
    | [_], h => exact absurd rfl h
theorem c_bool : CallS X (.type "bool") (rL T Wx (biM P cl .bool)) := by
  refine c_one call_bool1 (fun σ H w S x d Q st r h => ?_) fun ds S h => ?_
  · cases d with
    | int i => exact .inl ⟨i, by rw [r.intI], post_ok h (.bl _) st⟩
    | bl i => exact .inr ⟨i, by rw [r.blI], post_ok h (.bl _) st⟩
    | _ => exact (show False from h).elim
  · match ds, h with
    | [], _ => rfl
    | d :: _ :: _, _ => cases d <;> rfl
    | [_], h => exact absurd rfl h
theorem c_lenO (cn : Cn T P k Wx X) {c : Nat} {fs : List (Nat × D)} {x : V} {us : List Value} (I : Inv X pins σ H s) (rv : Vals [x] us) (st : StOk T w H S) (rs : Rep T w H x (.obj c fs)) (h : PostE T Wx w σ H (biM P (run P k) .len [.obj c fs] S) Q) :
    wpAny (model X.prog X.w) X.A (call (.builtin "len") us) (EP X pins σ Q) X.xe s := by
  have h' : PostE T Wx w σ H (match dunOf P c .len with
      | some f => lenB (noExc (run P k (.low f [.obj c fs]) S))
      | none => .bad) Q := h
  cases hf : dunOf P c .len with
  | none => rw [hf] at h'; exact h'.elim
  | some f =>
    rw [hf] at h'
    obtain ⟨ci, hc, hcl, hfl, dk⟩ := dun_at cn hf
    obtain ⟨a, dx, vs, rfl, ha, fz, rf⟩ := id rs.objI
    obtain ⟨u, rfl, ru⟩ := vals1 rv
    cases (show u = Value.ref a from ru)
    obtain ⟨od, J, _⟩ := inst_at I ha
    obtain ⟨m, hF⟩ := I.fr
    have kI := I.ok.mod.kin
    rw [cn.K] at kI
    dsimp only at h'
    have post : ∃ i S1, run P k (.low f [.obj c fs]) S = .ok (.int i) S1 ∧ 0 ≤ i ∧ i < 1000000 ∧ PostE T Wx w σ H (.ok (.int i) S1) Q := by
      cases e : run P k (.low f [.obj c fs]) S with
      | ok d S1 =>
        rw [e] at h'
        cases d with
        | int i =>
          obtain ⟨q, h2⟩ := post_if (show PostE T Wx w σ H (if decide (0 ≤ i) && decide (i < 1000000) then .ok (.int i) S1 else .bad) Q from h')
          exact ⟨i, S1, rfl, of_decide_eq_true (bt q).1, of_decide_eq_true (bt q).2, h2⟩
        | _ => exact (show False from h').elim
      | exc _ _ _ => rw [e] at h'; exact (show False from h').elim
      | bad => rw [e] at h'; exact (show False from h').elim
    obtain ⟨i, S1, er, h0, h1, h2⟩ := post
    have hl : fill P f 0 [.obj c fs] = some [.obj c fs] := by
      cases k with
      | zero => cases er
      | succ j => exact run_np (S := S) (j := j) er (fun z => nomatch z)
    have post2 : PostE T (fun _ _ _ _ => False) w σ H (run P k (.low f [.obj c fs]) S) (fun z H' => z = .int i ∧ Q (.int i) H') := by
      rw [er]
      intro z w' H' ex rz st'
      cases rz
      exact ⟨rfl, h2 _ w' H' ex (.int _) st'⟩
    have cc := call_low cn.nox (I.wish _) (us := [.ref a]) (vs := [.ref a]) (.cons rfl .nil) st (.cons rs .nil) hl post2
    refine PySem.W.len_K hF kI J dk.at_ dk.fn (wpAny_mono (wpAny_call (codeAny_mono cc fun r s' hq => ?_)) (fun _ _ z => z) fun _ _ z => z)
    cases r with
    | error er => exact False.elim hq
    | ok fl =>
      cases fl with
      | ret z =>
        obtain ⟨zv, H', I', rz, e1, e2⟩ := hq
        subst e1
        obtain ⟨t, e3⟩ := (show ∃ t, z = Value.int i t from rz)
        subst e3
        exact ⟨⟨h0, by omega⟩, ⟨.int i, H', I'.unwish.tok _, ⟨_, rfl⟩, e2⟩⟩
      | next => exact False.elim hq
      | brk => exact False.elim hq
      | cont => exact False.elim hq
theorem abs_own {prog : Program} {wd : World} {K : PySem.W.Frag} {A : Around} {E : Value → Shared → Prop} {Q : Value → Shared → Prop} {a C f : Addr} {ox : Obj} {od : Option Obj} (X : K.In s.heap) (J : PySem.W.InstAt s.heap a ox C od)
    (hs : PySem.W.findIn K (.ref C) "__abs__" = some (some (.ref f))) (hf : PySem.W.typeIn K (.ref f) = some (.type "function")) (h : wpAny (model prog wd) A.in1 (call (.ref f) [.ref a]) Q E s) : wpAny (model prog wd) A (call (.builtin "abs") [.ref a]) Q E s := by
  refine PySem.Calls.call_function_entry kind_abs plain_abs entry_abs (args_abs _) ?_
  unfold PySem.Builtin.«abs»
  refine wpAny_bind (m := oneArg "abs" _) (wpAny_pure ?_)
  refine wpAny_bind (m := callSpecial? (.ref a) (PySem.Str.ofString "__abs__")) (PySem.W.special_fn X J hs hf (wpAny_mono h (fun r s' hr => ?_) fun _ _ y => y))
  exact wpAny_pure ⟨_, rfl, hr⟩
theorem c_absO (cn : Cn T P k Wx X) {c : Nat} {fs : List (Nat × D)} {x : V} {us : List Value} (I : Inv X pins σ H s) (rv : Vals [x] us) (st : StOk T w H S) (rs : Rep T w H x (.obj c fs)) (h : PostE T Wx w σ H (biM P (run P k) .abs [.obj c fs] S) Q) :
    wpAny (model X.prog X.w) X.A (call (.builtin "abs") us) (EP X pins σ Q) X.xe s := by
  have h' : PostE T Wx w σ H (match dunOf P c .abs with
      | some f => noExc (run P k (.low f [.obj c fs]) S)
      | none => .bad) Q := h
  cases hf : dunOf P c .abs with
  | none => rw [hf] at h'; exact h'.elim
  | some f =>
    rw [hf] at h'
    obtain ⟨ci, hc, hcl, hfl, dk⟩ := dun_at cn hf
    obtain ⟨a, dx, vs, rfl, ha, fz, rf⟩ := id rs.objI
    obtain ⟨u, rfl, ru⟩ := vals1 rv
    cases (show u = Value.ref a from ru)
    obtain ⟨od, J, _⟩ := inst_at I ha
    have kI := I.kIn
    rw [cn.K] at kI
    dsimp only at h'
    cases er : run P k (.low f [.obj c fs]) S with
    | exc _ _ _ => rw [er] at h'; exact (show False from h').elim
    | bad => rw [er] at h'; exact (show False from h').elim
    | ok d S1 =>
      rw [er] at h'
      have h2 : PostE T Wx w σ H (.ok d S1) Q := h'
      have hl : fill P f 0 [.obj c fs] = some [.obj c fs] := by
        cases k with
        | zero => cases er
        | succ j => exact run_np (S := S) (j := j) er (fun z => nomatch z)
      have post2 : PostE T (fun _ _ _ _ => False) w σ H (run P k (.low f [.obj c fs]) S) Q := by
        rw [er]; exact h2
      have cc := call_low cn.nox (I.wish _) (us := [.ref a]) (vs := [.ref a]) (.cons rfl .nil) st (.cons rs .nil) hl post2
      refine abs_own kI J dk.at_ (beq_iff_eq.mp dk.fn) (wpAny_mono (wpAny_call (codeAny_mono cc fun r s' hq => ?_)) (fun _ _ z => z) fun _ _ z => z)
      cases r with
      | error er => exact False.elim hq
      | ok fl =>
        cases fl with
        | ret z =>
          obtain ⟨zv, H', I', rz, e1⟩ := hq
          exact ⟨zv, H', I'.unwish, rz, e1⟩
        | next => exact False.elim hq
        | brk => exact False.elim hq
        | cont => exact False.elim hq
theorem c_abs (cn : Cn T P k Wx X) : CallS X (.builtin "abs") (rL T Wx (biM P (run P k) .abs)) := by
  intro pins s σ H xs us Q I rv ⟨w, S, ds, st, rs, h⟩
  by_cases ho : ∃ c fs, ds = [.obj c fs]
  · obtain ⟨c, fs, rfl⟩ := ho
    obtain ⟨x, rfl, rx⟩ := reps1 rs
    exact c_absO cn I rv st rx h
  · refine c_absI (T := T) (Wx := Wx) pins s σ H xs us Q I rv ⟨w, S, ds, st, rs, ?_⟩
    have e : biM P (run P k) .abs ds S = absI ds S := by
      match ds, ho with
      | [], _ => rfl
      | d :: _ :: _, _ => cases d <;> rfl
      | [d], ho => cases d <;> first | rfl | exact absurd ⟨_, _, rfl⟩ ho
    rw [e] at h; exact h
def lenG (P : Pg) (k : Nat) (ds : List D) (S : Store) : Res := match ds with
    | [.obj _ _] => .bad
    | ds => biM P (run P k) .len ds S
theorem lenG_eq {ds : List D} (ho : ¬ ∃ c fs, ds = [.obj c fs]) : lenG P k ds S = biM P (run P k) .len ds S := by
  unfold lenG
  split
  · exact absurd ⟨_, _, rfl⟩ ho
  · rfl
theorem c_len (cn : Cn T P k Wx X) : CallS X (.builtin "len") (rL T Wx (biM P (run P k) .len)) := by
  intro pins s σ H xs us Q I rv ⟨w, S, ds, st, rs, h⟩
  by_cases ho : ∃ c fs, ds = [.obj c fs]
  · obtain ⟨c, fs, rfl⟩ := ho
    obtain ⟨x, rfl, rx⟩ := reps1 rs
    exact c_lenO cn I rv st rx h
  have hK := cn.K
  have base : CallS X (.builtin "len") (rL T Wx (lenG P k)) := by
   refine c_one call_len (fun σ H w S x d Q st r h => ?_) fun ds S h => ?_
   · rw [hK]
     cases d with
     | str z =>
       obtain ⟨hz, h⟩ := post_if (show PostE T Wx w σ H (if z.length ≤ lim then .ok (.int z.length) S else .bad) Q from h)
       rw [r.strI]
       exact ⟨.str z, z.length, rfl, ⟨Nat.le_trans hz lim_line, rfl⟩, post_ok h (.int _) st⟩
     | lst l =>
       obtain ⟨aa, vs, rfl, h1, h2⟩ := r.lstI
       exact ⟨_, l.length, rfl, .inl ⟨vs, h1, h2.length.symm⟩, post_ok h (.int _) st⟩
     | tup l =>
       obtain ⟨aa, vs, rfl, h1, h2⟩ := r.tupI
       exact ⟨_, l.length, rfl, .inr ⟨vs, h1, h2.length.symm⟩, post_ok h (.int _) st⟩
     | cell n =>
       have h' : PostE T Wx w σ H (match S[n]? with
         | some (.lst l) => .ok (.int l.length) S
         | _ => .bad) Q := h
       cases e : S[n]? with
       | none => rw [e] at h'; exact h'.elim
       | some cc =>
         cases cc with
         | lst l =>
           rw [e] at h'
           obtain ⟨aa, vs, rfl, _, h1, h2⟩ := cell_lst st r e
           exact ⟨_, l.length, rfl, .inl ⟨vs, .inl (.inl h1), h2.length.symm⟩, post_ok h' (.int _) st⟩
         | _ => rw [e] at h'; exact h'.elim
     | _ => exact (show False from h).elim
   · match ds, h with
     | [], _ => rfl
     | d :: _ :: _, _ => cases d <;> rfl
     | [_], h => exact absurd rfl h
  refine base pins s σ H xs us Q I rv ⟨w, S, ds, st, rs, ?_⟩
  rw [lenG_eq ho]; exact h
theorem c_tuple (hK : X.K = T.K) : CallS X (.type "tuple") (rL T Wx (biM P cl .tuple)) := by
  refine c_one call_tuple_of (fun σ H w S x d Q st r h => ?_) fun ds S h => ?_
  · rw [hK]
    cases d with
    | lst l =>
      obtain ⟨aa, vs, rfl, h1, h2⟩ := r.lstI
      exact ⟨aa, vs, rfl, .inl ⟨h1, fun p hp => post_new h st hp (.tup upd_same (st.fz_new hp) (h2.mono ((ext_new hp).mono (.inl rfl))))⟩⟩
    | tup l =>
      have r0 := r
      obtain ⟨aa, vs, rfl, h1, h2⟩ := r.tupI
      exact ⟨aa, vs, rfl, .inr ⟨h1, post_ok h r0 st⟩⟩
    | _ => exact (show False from h).elim
  · match ds, h with
    | [], _ => rfl
    | d :: _ :: _, _ => cases d <;> rfl
    | [_], h => exact absurd rfl h
theorem c_list (hK : X.K = T.K) : CallS X (.type "list") (rL T Wx (biM P cl .list)) := by
  refine c_one call_list_of (fun σ H w S x d Q st r h => ?_) fun ds S h => ?_
  · rw [hK]
    cases d with
    | lst l =>
      obtain ⟨aa, vs, rfl, h1, h2⟩ := r.lstI
      exact ⟨aa, vs, rfl, .inl h1, fun p hp => post_new h st hp (.lst upd_same (st.fz_new hp) (h2.mono ((ext_new hp).mono (.inl rfl))))⟩
    | tup l =>
      obtain ⟨aa, vs, rfl, h1, h2⟩ := r.tupI
      exact ⟨aa, vs, rfl, .inr h1, fun p hp => post_new h st hp (.lst upd_same (st.fz_new hp) (h2.mono ((ext_new hp).mono (.inl rfl))))⟩
    | _ => exact (show False from h).elim
  · match ds, h with
    | [], _ => rfl
    | d :: _ :: _, _ => cases d <;> rfl
    | [_], h => exact absurd rfl h
theorem bls_of : ∀ {vs : List V} {l : List D} {bs : List Bool}, Reps T w H vs l → l.mapM (fun d => match d with
        | .bl b => some b
        | _ => none) = some bs → vs = bs.map V.bl
  | _, _, _, .nil, h => by simp at h; subst h; rfl
  | _, d :: l, bs, .cons r rs, h => by
    cases d with
    | bl b =>
      simp only [List.mapM_cons] at h
      cases e : l.mapM (fun d => match d with
        | D.bl b => some b
        | _ => none) with
      | none => rw [e] at h; cases h
      | some bs' =>
        rw [e] at h
        cases h
        rw [r.blI, bls_of rs e]; rfl
    | _ => simp only [List.mapM_cons] at h; cases h
theorem c_all (hcalm : X.calm = true) (hK : X.K = T.K) : CallS X (.builtin "all") (rL T Wx (biM P cl .all)) := by
  refine c_one (cr_all hcalm) (fun σ H w S x d Q st r h => ?_) fun ds S h => ?_
  · rw [hK]
    cases d with
    | lst l =>
      have h' : PostE T Wx w σ H (match l.mapM (fun d => match d with
        | .bl b => some b
        | _ => none) with
        | some bs => .ok (.bl (bs.all id)) S
        | none => .bad) Q := h
      cases e : l.mapM (fun d => match d with
        | D.bl b => some b
        | _ => none) with
      | none => rw [e] at h'; exact h'.elim
      | some bs =>
        rw [e] at h'
        obtain ⟨aa, vs, rfl, h1, h2⟩ := r.lstI
        rw [bls_of h2 e] at h1
        exact ⟨aa, bs, rfl, h1, post_ok h' (.bl _) st⟩
    | _ => exact (show False from h).elim
  · match ds, h with
    | [], _ => rfl
    | d :: _ :: _, _ => cases d <;> rfl
    | [_], h => exact absurd rfl h
theorem c_gcd : CallS X (.builtin "math.gcd") (rL T Wx (biM P cl .gcd)) := by
  intro pins s σ H xs us Q I rv ⟨w, S, ds, st, rs, h⟩
  have h' : PostE T Wx w σ H (match (generalizing := false) ds with
    | [.int i, .int j] => .ok (.int (Int.gcd i j)) S
    | _ => .bad) Q := h
  split at h'
  · rename_i i j
    obtain ⟨x, y, rfl, rx, ry⟩ := reps2 rs
    exact cr_gcd pins s σ H _ us Q I rv ⟨i, j, by rw [rx.intI, ry.intI], post_ok h' (.int _) st⟩
  · exact h'.elim
/-! ### isinstance -/
theorem kitB_all : ∀ t ∈ vtypes, ∀ n ∈ vtypes, kitB t n = some (isTT t n) := by decide +kernel
def ikV (T : Tb) : IK → V
  | .own c => .ref (T.ca c)
  | .ty n => .ty n
def ikU (T : Tb) : IK → Value
  | .own c => .ref (T.ca c)
  | .ty n => .type n
theorem ik_rel (i : IK) : RelV (ikV T i) (ikU T i) := by cases i <;> rfl
theorem ik_cls (i : IK) : ClsV (ikV T i) (ikU T i) := by cases i <;> constructor
theorem tyN_ty {d : D} {t : String} (h : tyN d = some t) : tyD T d = some (.type t) ∧ t ∈ vtypes := by
  cases d <;> cases h <;> exact ⟨rfl, by decide⟩
theorem isK_oo {n c : Nat} {fs : List (Nat × D)} {b : Bool} (h : isK P (.obj n fs) (.own c) = some b) : c < P.cs.length ∧ ∃ ci, P.cs[n]? = some ci ∧ b = ci.anc.contains c := by
  have h' : (if c < P.cs.length then P.cs[n]?.map (fun ci => ci.anc.contains c) else none) = some b := h
  split at h'
  · cases e : P.cs[n]? with
    | none => rw [e] at h'; cases h'
    | some ci => rw [e] at h'; cases h'; exact ⟨by assumption, ci, rfl, rfl⟩
  · cases h'
theorem isK_ot {n : Nat} {m : String} {fs : List (Nat × D)} {b : Bool} (h : isK P (.obj n fs) (.ty m) = some b) : m ∈ vtypes ∧ (∃ ci, P.cs[n]? = some ci) ∧ b = false := by
  have h' : (if vtypes.contains m then P.cs[n]?.map (fun _ => false) else none) = some b := h
  split at h'
  · rename_i hm
    cases e : P.cs[n]? with
    | none => rw [e] at h'; cases h'
    | some ci => rw [e] at h'; cases h'; exact ⟨by simpa using hm, ⟨ci, rfl⟩, rfl⟩
  · cases h'
theorem isK_bo {d : D} {c : Nat} {t : String} {b : Bool} (ht : tyN d = some t) (h : isK P d (.own c) = some b) : c < P.cs.length ∧ b = false := by
  have h' : (if c < P.cs.length then some false else none) = some b := by
    cases d <;> first
      | exact h
      | cases ht
  split at h'
  · cases h'; exact ⟨by assumption, rfl⟩
  · cases h'
theorem isK_bt {d : D} {m : String} {t : String} {b : Bool} (ht : tyN d = some t) (h : isK P d (.ty m) = some b) : m ∈ vtypes ∧ b = isTT t m := by
  have h' : (if vtypes.contains m then some (isTT t m) else none) = some b := by
    cases d <;> first
      | (cases ht; exact h)
      | cases ht
  split at h'
  · rename_i hm
    cases h'; exact ⟨by simpa using hm, rfl⟩
  · cases h'
theorem isK_dom {d : D} {i : IK} {b : Bool} (h : isK P d i = some b) : (∃ n fs, d = .obj n fs) ∨ ∃ t, tyN d = some t := by
  have bad : ∀ {c : Prop} [Decidable c], (if c then (none : Option Bool) else none) ≠ some b := by intro c _; split <;> exact fun z => nomatch z
  cases d with
  | obj n fs => exact .inl ⟨n, fs, rfl⟩
  | cell n => cases i <;> exact absurd h bad
  | fn n => cases i <;> exact absurd h bad
  | cls n => cases i <;> exact absurd h bad
  | ty n => cases i <;> exact absurd h bad
  | scr n => cases i <;> exact absurd h bad
  | _ => exact .inr ⟨_, rfl⟩
theorem isK_ty (ko : KOk T P) {x : V} {d : D} {i : IK} {b : Bool} (r : Rep T w H x d) (h : isK P d i = some b) : ∃ t, tyD T d = some t ∧ TyX T.K H x t ∧ ∀ j b', isK P d j = some b' → PySem.W.kitOne T.K t (ikU T j) = some b' := by
  rcases isK_dom h with ⟨n, fs, rfl⟩ | ⟨t, ht⟩
  · have hn : ∃ ci, P.cs[n]? = some ci := by
      cases i with
      | own c => obtain ⟨_, ci, e, _⟩ := isK_oo h; exact ⟨ci, e⟩
      | ty m => exact (isK_ot h).2.1
    obtain ⟨ci, e⟩ := hn
    refine ⟨_, rfl, tyx_of ko r rfl fun _ _ q => by cases q; exact cls_lt e, fun j b' hj => ?_⟩
    cases j with
    | own c =>
      obtain ⟨hc, ci', e', hb⟩ := isK_oo hj
      rw [e] at e'; cases e'
      rw [hb]; exact ko.isa n ci c e hc
    | ty m =>
      obtain ⟨hm, _, hb⟩ := isK_ot hj
      rw [hb]; exact ko.ist n m (cls_lt e) hm
  · obtain ⟨h1, h2⟩ := tyN_ty (T := T) ht
    refine ⟨_, h1, tyx_of ko r h1 (fun _ _ q => by subst q; cases ht), fun j b' hj => ?_⟩
    cases j with
    | own c =>
      obtain ⟨hc, hb⟩ := isK_bo ht hj
      rw [hb]; exact ko.isv t c h2 hc
    | ty m =>
      obtain ⟨hm, hb⟩ := isK_bt ht hj
      rw [hb]; exact kit_ty (kitB_all t h2 m hm)
theorem isKs_any {t : Value} {d : D} (hk : ∀ j b', isK P d j = some b' → PySem.W.kitOne T.K t (ikU T j) = some b') : ∀ {ks : List IK} {b : Bool}, isKs P d ks = some b → PySem.W.kitAny T.K t (ks.map (ikU T)) = some b
  | [], b, h => h
  | i :: ks, b, h => by
    unfold isKs at h
    cases e : isK P d i with
    | none => rw [e] at h; cases h
    | some b1 =>
      rw [e] at h
      show (match PySem.W.kitOne T.K t (ikU T i) with
        | some true => some true
        | some false => PySem.W.kitAny T.K t (ks.map (ikU T))
        | none => none) = some b
      rw [hk i b1 e]
      cases b1 with
      | true => exact h
      | false => exact isKs_any hk h
/-- the classes as written -/
def isiM (P : Pg) (ma : Mir) (ks : List IK) : Mir := fun fr S => (ma fr S).bind fun x S1 => match isKs P x ks with
    | some b => .ok (.bl b) S1
    | none => .bad
theorem m_isi1 (cn : Cn T P k Wx X) {x : Str} {p : Pos} {i : IK} {ec : Expr} (hg : Gl X x) (hm : X.mg x = none) (hv : bootBuiltins x = some (.builtin "isinstance")) (ha : PE X a (tE T Wx ma)) (hc : PE X ec (tC (ikV T i))) (hn : noStar [a, ec] = true) (hnn : x ≠ "__name__") (hd : (x == ("__debug__" : Str)) = false) :
    PE X (.Call (.Name x p) [a, ec] [] pos) (tE T Wx (isiM P ma [i])) := by
  have hn2 := (star_cons (env := X.env) hn).2
  refine PE.imp (pe_callB call_isi hg hm hv (pa_cons ha (pa_cons hc pa_nil (star_cons hn2).1) (star_cons hn).1) hnn hd (star_cons hn).1 (star_any hn2)) fun σ H Q h => ?_
  obtain ⟨w, fr, S, f, st, p⟩ := h
  refine ⟨w, fr, S, f, st, (post_bind p).imp fun v H1 ⟨w1, d, S1, e, r, st1, _, q⟩ => ?_⟩
  rw [cn.K]
  cases hi : isK P d i with
  | none => simp only [isKs, hi] at q; exact q.elim
  | some b =>
    obtain ⟨t, _, tx, hk⟩ := isK_ty cn.ko r hi
    refine ⟨v, ikV T i, t, ikU T i, b, rfl, ik_cls i, tx, hk i b hi, ?_⟩
    cases b with
    | true => simp only [isKs, hi] at q; exact post_ok q (.bl _) st1
    | false => simp only [isKs, hi] at q; exact post_ok q (.bl _) st1
/-- the tuple of classes -/
structure CsOk (T : Tb) (X : Cx) (ecs : List Expr) (ks : List IK) : Prop where
  run : PA X ecs (fun _ H Q => Q (ks.map (ikV T)) H)
theorem cs_nil : CsOk T X [] [] := ⟨⟨fun pos pins s σ H Q I h => pa_nil.run pos pins s σ H Q I h⟩⟩
theorem cs_cons {ec : Expr} {ecs : List Expr} {i : IK} {ks : List IK} (hc : PE X ec (tC (ikV T i))) (hr : CsOk T X ecs ks) (hn : noStar (ec :: ecs) = true) : CsOk T X (ec :: ecs) (i :: ks) :=
  ⟨⟨fun pos pins s σ H Q I h => (pa_cons hc hr.run (star_cons hn).1).run pos pins s σ H Q I h⟩⟩
theorem ik_clss : ∀ ks : List IK, Paired ClsV (ks.map (ikV T)) (ks.map (ikU T))
  | [] => .nil
  | i :: ks => .cons (ik_cls i) (ik_clss ks)
theorem m_isiT (cn : Cn T P k Wx X) {x : Str} {p : Pos} {i : IK} {ks : List IK} {ecs : List Expr} {x1} {p2 : Pos} (hg : Gl X x) (hm : X.mg x = none) (hv : bootBuiltins x = some (.builtin "isinstance")) (ha : PE X a (tE T Wx ma)) (hc : CsOk T X ecs (i :: ks)) (hz : (i :: ks).length < 100)
    (hn : noStar [a, .Tuple ecs x1 p2] = true) (hnn : x ≠ "__name__") (hd : (x == ("__debug__" : Str)) = false) :
    PE X (.Call (.Name x p) [a, .Tuple ecs x1 p2] [] pos) (tE T Wx (isiM P ma (i :: ks))) := by
  have hn2 := (star_cons (env := X.env) hn).2
  refine PE.imp (pe_callB call_isiT hg hm hv (pa_cons ha (pa_cons (pe_tup hc.run) pa_nil rfl) (star_cons hn).1) hnn hd (star_cons hn).1 (star_any hn2)) fun σ H Q h => ?_
  obtain ⟨w, fr, S, f, st, p⟩ := h
  refine ⟨w, fr, S, f, st, (post_bind p).imp fun v H1 ⟨w1, d, S1, e, r, st1, _, q⟩ => ?_⟩
  have hz2 : sizeLine = 16777216 := sizeLine_eq
  refine ⟨by rw [List.length_map]; omega, fun tp hp => ?_⟩
  rw [cn.K]
  have e1 := ext_new (w := w1) (o := HO.tup ((i :: ks).map (ikV T))) hp
  have r1 := r.mono (e1.mono (.inl rfl))
  have st2 := st1.new (o := HO.tup ((i :: ks).map (ikV T))) hp
  cases hi : isK P d i with
  | none => simp only [isKs, hi] at q; exact q.elim
  | some b =>
    obtain ⟨t, _, tx, hk⟩ := isK_ty cn.ko r1 hi
    cases hs : isKs P d (i :: ks) with
    | none => rw [hs] at q; exact q.elim
    | some bb =>
      rw [hs] at q
      exact ⟨v, tp, _, t, _, bb, rfl, upd_same, ik_clss _, tx, isKs_any hk hs, q (.bl bb) w1 _ e1 (.bl _) st2⟩
end
end Mi
end

section
set_option maxRecDepth 100000
set_option maxHeartbeats 2000000
/-! Mi: zip of a list and a tuple, either way. -/
namespace Mi
open PySem L2 PySem.Spec PyProof.Rows
section
/-- an iterator over a list, a tuple (k: a tuple) -/
def KI (k : Bool) (h : Heap) (i l : Addr) (n : Nat) : Prop := match k with
  | true => h.IsTupleIter i l n
  | false => h.IsListIter i l n
def KL (k : Bool) (h : Heap) (l : Addr) (xs : Array Value) : Prop := match k with
  | true => h.IsTuple l xs
  | false => h.IsList l xs
def KS (k : Bool) (K : PySem.W.Frag) (H : Hp) (a : Addr) (xs : List V) : Prop := match k with
  | true => SqT K H a xs
  | false => SqL K H a xs
theorem KI.at {k : Bool} {h h' : Heap} {i l : Addr} {n : Nat} (x : KI k h i l n) (e : ∀ o, h.get? i = some o → h'.get? i = some o) : KI k h' i l n := by
  cases k with
  | true => exact Heap.IsTupleIter.at x e
  | false => exact Heap.IsListIter.at x e
theorem KL.at {k : Bool} {h h' : Heap} {l : Addr} {xs : Array Value} (x : KL k h l xs) (e : ∀ o, h.get? l = some o → h'.get? l = some o) : KL k h' l xs := by
  cases k with
  | true => exact Heap.IsTuple.at x e
  | false => exact Heap.IsList.at x e
theorem KI.obj {k : Bool} {h : Heap} {i l : Addr} {n : Nat} (x : KI k h i l n) : ∃ o, h.get? i = some o ∧ ∀ v, o.data ≠ .cell v := by
  cases k <;> (obtain ⟨o, e, _, d⟩ := x; exact ⟨o, e, fun v q => by rw [d] at q; cases q⟩)
variable {prog : Program} {w : World} {A : Around} {E : Value → Shared → Prop} {s : Shared}
theorem kn_item {k : Bool} {it l : Addr} {n : Nat} {xs : Array Value} {x : Value} {Q : Value → Shared → Prop} (a : KI k s.heap it l n) (b : KL k s.heap l xs) (c : xs[n]? = some x)
    (q : ∀ h', KI k h' it l (n + 1) → Heap.SameBut it s.heap h' → Q x { s with heap := h' }) : wpAny (model prog w) A (Builtin.SmallTypes.nextOf (.ref it)) Q E s := by
  cases k with
  | true => exact RZ.nextOf_tuple_item a b c q
  | false => exact wpAny_nextOf_list_item a b c q
theorem kn_end {k : Bool} {it l : Addr} {n : Nat} {xs : Array Value} {Q : Value → Shared → Prop} (hh : A.handled = none) (a : KI k s.heap it l n) (b : KL k s.heap l xs) (c : xs[n]? = none)
    (q : ∀ h' e, Heap.ExtBut it s.heap h' → (∃ o, h'.get? e = some o ∧ o.cls = .type "StopIteration") → E (.ref e) { s with heap := h' }) : wpAny (model prog w) A (Builtin.SmallTypes.nextOf (.ref it)) Q E s := by
  cases k with
  | true => exact RZ.nextOf_tuple_end hh a b c q
  | false => exact wpAny_nextOf_list_end hh a b c q
/-- what stood and is none of these stands on -/
def Kept4 (z p i j : Addr) (h h' : Heap) : Prop := ∀ c o, c ≠ z → c ≠ p → c ≠ i → c ≠ j → h.get? c = some o → h'.get? c = some o
variable {k1 k2 : Bool} {z p q i j a b : Addr} {n m : Nat} {xs ys : Array Value} {x y u v : Value}
theorem zk_item {Q : Value → Shared → Prop} (D : ZipApart z p q i j a b) (hz : IsZip s.heap z p q .none) (hp : IsPair s.heap p (.ref i) (.ref j)) (hq : IsPair s.heap q u v)
    (h1 : KI k1 s.heap i a n) (h2 : KI k2 s.heap j b m) (l1 : KL k1 s.heap a xs) (l2 : KL k2 s.heap b ys) (hx : xs[n]? = some x) (hy : ys[m]? = some y)
    (fin : ∀ h', IsZip h' z p q (rawInt s.heap.objs.size) → IsPair h' q x y → KI k1 h' i a (n + 1) → KI k2 h' j b (m + 1) → IsPair h' s.heap.objs.size x y → h'.objs.size = s.heap.objs.size + 1 → Kept4 z q i j s.heap h' → Q (.ref s.heap.objs.size) { s with heap := h' }) :
    wpAny (model prog w) A (Builtin.«zip.__next__» ⟨[.ref z], []⟩) (fun f s' => ∃ r, f = .done (.ret r) ∧ Q r s') E s := by
  show wpAny (model prog w) A (field (.ref z) 2 >>= _) _ E s
  refine wpAny_bind (wpAny_field hz rfl (x := .bool false) rfl (show wpAny (model prog w) A (field (.ref z) 3 >>= _) _ E s from wpAny_bind (wpAny_field hz rfl (x := .ref p) rfl (wpAny_bind (wpAny_seqItems hp rfl ?_)))))
  refine (show wpAny (model prog w) A (Builtin.SmallTypes.ownedTupleIsFree (.ref z) >>= _) _ E s from wpAny_bind ?_)
  delta Builtin.SmallTypes.ownedTupleIsFree
  refine (show wpAny (model prog w) A (field (.ref z) 0 >>= _) _ E s from wpAny_bind (wpAny_field hz rfl (x := .none) rfl (wpAny_pure ?_)))
  simp only [if_true]
  refine wpAny_bind (wpAny_rule (wpAny_bind (wpAny_field hz rfl (x := .ref q) rfl (wpAny_bind (wpAny_setField_rec hz (by simp) fun g1 z1 s1 => ?_)))))
  replace z1 : IsZip g1 z p q .ellipsis := z1
  refine wpAny_bind ?_
  simp only [List.forIn_cons, List.forIn_nil, List.zipIdx_cons, List.zipIdx_nil]
  refine wpAny_bind (wpAny_bind (wpAny_onRaise (show wpAny _ _ (Builtin.SmallTypes.nextOf (.ref i) >>= _) _ _ _ from wpAny_bind (kn_item (h1.at fun o e => s1.extBut _ o D.i1z e) (l1.at fun o e => s1.extBut _ o D.l1z e) hx fun g2 i2 s2 => wpAny_pure ?_))))
  have q2 : IsPair g2 q u v := s2.extBut _ _ D.TOi1 (s1.extBut _ _ D.TOz hq)
  refine wpAny_bind (wpAny_seqItems q2 rfl (wpAny_bind (wpAny_updateSeq_pair q2 fun g3 q3 s3 => ?_)))
  replace q3 : IsPair g3 q x v := q3
  refine wpAny_bind (wpAny_letGo (wpAny_pure (wpAny_bind (wpAny_bind (wpAny_onRaise (show wpAny _ _ (Builtin.SmallTypes.nextOf (.ref j) >>= _) _ _ _ from wpAny_bind (kn_item
    (((h2.at fun o e => s1.extBut _ o D.i2z e).at fun o e => s2.extBut _ o D.i12.symm e).at fun o e => s3.extBut _ o D.TOi2.symm e)
    (((l2.at fun o e => s1.extBut _ o D.l2z e).at fun o e => s2.extBut _ o D.l2i1 e).at fun o e => s3.extBut _ o D.l2TO e) hy fun g4 j4 s4 => wpAny_pure ?_)))))))
  have q4 : IsPair g4 q x v := s4.extBut _ _ D.TOi2 q3
  refine wpAny_bind (wpAny_seqItems q4 rfl (wpAny_bind (wpAny_updateSeq_pair q4 fun g5 q5 s5 => ?_)))
  replace q5 : IsPair g5 q x y := q5
  refine wpAny_bind (wpAny_letGo (wpAny_pure (wpAny_pure (wpAny_bind (wpAny_seqItems q5 rfl (wpAny_bind (wpAny_newTuple ?_)))))))
  have sz : g5.objs.size = s.heap.objs.size := by rw [s5.1, s4.1, s3.1, s2.1, s1.1]
  have z5 : IsZip g5 z p q .ellipsis := s5.extBut _ _ D.TOz.symm (s4.extBut _ _ D.i2z.symm (s3.extBut _ _ D.TOz.symm (s2.extBut _ _ D.i1z.symm z1)))
  have kp : Kept4 z q i j s.heap g5 := fun c o c1 c2 c3 c4 e => s5.extBut _ _ c2 (s4.extBut _ _ c4 (s3.extBut _ _ c2 (s2.extBut _ _ c3 (s1.extBut _ _ c1 e))))
  have i5 : KI k1 g5 i a (n + 1) := ((i2.at fun o e => s3.extBut _ o D.TOi1.symm e).at fun o e => s4.extBut _ o D.i12 e).at fun o e => s5.extBut _ o D.TOi1.symm e
  have j5 : KI k2 g5 j b (m + 1) := j4.at fun o e => s5.extBut _ o D.TOi2.symm e
  have zl : z < g5.objs.size := Heap.lt_size z5
  refine (show wpAny _ _ (Builtin.SmallTypes.ownedTupleHandOut (.ref z) (.ref g5.objs.size) >>= _) _ _ _ from wpAny_bind ?_)
  unfold Builtin.SmallTypes.ownedTupleHandOut
  have z6 : IsZip (g5.push { cls := .type "tuple", data := .seq #[x, y] }) z p q .ellipsis := Heap.get?_push_of_some _ z5
  refine wpAny_bind (wpAny_setField_rec z6 (by simp) fun g7 z7 s7 => ?_)
  replace z7 : IsZip g7 z p q (rawInt g5.objs.size) := z7
  refine wpAny_setField_rec z7 (by simp) fun g8 z8 s8 => ?_
  replace z8 : IsZip g8 z p q (rawInt g5.objs.size) := z8
  have up : ∀ c o, c ≠ z → g5.get? c = some o → g8.get? c = some o := fun c o c1 e => s8.extBut _ _ c1 (s7.extBut _ _ c1 (Heap.get?_push_of_some _ e))
  have t8 : IsPair g8 g5.objs.size x y := s8.extBut _ _ (Nat.ne_of_gt zl) (s7.extBut _ _ (Nat.ne_of_gt zl) (Heap.get?_push_size _ rfl))
  have sz8 : g8.objs.size = g5.objs.size + 1 := by rw [s8.1, s7.1, Heap.size_push]
  rw [sz] at z8 t8 sz8
  refine wpAny_pure ⟨_, rfl, (show Q (.ref g5.objs.size) _ from ?_)⟩
  rw [sz]
  exact fin g8 z8 (up _ _ D.TOz q5) (i5.at fun o e => up _ o D.i1z e) (j5.at fun o e => up _ o D.i2z e) t8 sz8 fun c o c1 c2 c3 c4 e => up c o c1 (kp c o c1 c2 c3 c4 e)
theorem zk_end {Q : Fin → Shared → Prop} (hh : A.handled = none) (D : ZipApart z p q i j a b) (hz : IsZip s.heap z p q .none) (hp : IsPair s.heap p (.ref i) (.ref j)) (hq : IsPair s.heap q u v)
    (h1 : KI k1 s.heap i a n) (h2 : KI k2 s.heap j b m) (l1 : KL k1 s.heap a xs) (l2 : KL k2 s.heap b ys) (he : xs[n]? = none ∨ ys[m]? = none)
    (fin : ∀ h' e, Kept4 z q i j s.heap h' → (∃ o, h'.get? e = some o ∧ o.cls = .type "StopIteration") → E (.ref e) { s with heap := h' }) :
    wpAny (model prog w) A (Builtin.«zip.__next__» ⟨[.ref z], []⟩) Q E s := by
  show wpAny (model prog w) A (field (.ref z) 2 >>= _) _ E s
  refine wpAny_bind (wpAny_field hz rfl (x := .bool false) rfl (show wpAny (model prog w) A (field (.ref z) 3 >>= _) _ E s from wpAny_bind (wpAny_field hz rfl (x := .ref p) rfl (wpAny_bind (wpAny_seqItems hp rfl ?_)))))
  refine (show wpAny (model prog w) A (Builtin.SmallTypes.ownedTupleIsFree (.ref z) >>= _) _ E s from wpAny_bind ?_)
  delta Builtin.SmallTypes.ownedTupleIsFree
  refine (show wpAny (model prog w) A (field (.ref z) 0 >>= _) _ E s from wpAny_bind (wpAny_field hz rfl (x := .none) rfl (wpAny_pure ?_)))
  simp only [if_true]
  refine wpAny_bind (wpAny_rule (wpAny_bind (wpAny_field hz rfl (x := .ref q) rfl (wpAny_bind (wpAny_setField_rec hz (by simp) fun g1 z1 s1 => ?_)))))
  replace z1 : IsZip g1 z p q .ellipsis := z1
  refine wpAny_bind ?_
  simp only [List.forIn_cons, List.forIn_nil, List.zipIdx_cons, List.zipIdx_nil]
  refine wpAny_bind (wpAny_bind (wpAny_onRaise (show wpAny _ _ (Builtin.SmallTypes.nextOf (.ref i) >>= _) _ _ _ from ?_)))
  cases hx : xs[n]? with
  | none =>
    refine wpAny_bind (kn_end hh (h1.at fun o e => s1.extBut _ o D.i1z e) (l1.at fun o e => s1.extBut _ o D.l1z e) hx fun g2 e s2 ⟨oe, eo, ec⟩ => ?_)
    have z2 : IsZip g2 z p q .ellipsis := s2 _ _ D.i1z.symm z1
    have nz : e ≠ z := fun r => by rw [r, z2] at eo; cases eo; simp at ec
    exact wpAny_setField_rec z2 (by simp) fun g3 _ s3 => fin g3 e (fun c o c1 _ c3 _ r => s3.extBut _ _ c1 (s2 _ _ c3 (s1.extBut _ _ c1 r))) ⟨oe, s3.extBut _ _ nz eo, ec⟩
  | some x =>
    have hy : ys[m]? = none := he.resolve_left fun r => by rw [hx] at r; cases r
    refine wpAny_bind (kn_item (h1.at fun o e => s1.extBut _ o D.i1z e) (l1.at fun o e => s1.extBut _ o D.l1z e) hx fun g2 i2 s2 => wpAny_pure ?_)
    have q2 : IsPair g2 q u v := s2.extBut _ _ D.TOi1 (s1.extBut _ _ D.TOz hq)
    refine wpAny_bind (wpAny_seqItems q2 rfl (wpAny_bind (wpAny_updateSeq_pair q2 fun g3 q3 s3 => ?_)))
    refine wpAny_bind (wpAny_letGo (wpAny_pure (wpAny_bind (wpAny_bind (wpAny_onRaise (show wpAny _ _ (Builtin.SmallTypes.nextOf (.ref j) >>= _) _ _ _ from wpAny_bind (kn_end hh
      (((h2.at fun o e => s1.extBut _ o D.i2z e).at fun o e => s2.extBut _ o D.i12.symm e).at fun o e => s3.extBut _ o D.TOi2.symm e)
      (((l2.at fun o e => s1.extBut _ o D.l2z e).at fun o e => s2.extBut _ o D.l2i1 e).at fun o e => s3.extBut _ o D.l2TO e) hy fun g4 e s4 ⟨oe, eo, ec⟩ => ?_)))))))
    have z4 : IsZip g4 z p q .ellipsis := s4 _ _ D.i2z.symm (s3.extBut _ _ D.TOz.symm (s2.extBut _ _ D.i1z.symm z1))
    have nz : e ≠ z := fun r => by rw [r, z4] at eo; cases eo; simp at ec
    exact wpAny_setField_rec z4 (by simp) fun g5 _ s5 => fin g5 e (fun c o c1 c2 c3 c4 r => s5.extBut _ _ c1 (s4 _ _ c4 (s3.extBut _ _ c2 (s2.extBut _ _ c3 (s1.extBut _ _ c1 r))))) ⟨oe, s5.extBut _ _ nz eo, ec⟩
theorem zk_next {Q : Option Value → Shared → Prop} (D : ZipApart z p q i j a b) (hz : IsZip s.heap z p q .none) (hp : IsPair s.heap p (.ref i) (.ref j)) (hq : IsPair s.heap q u v)
    (h1 : KI k1 s.heap i a n) (h2 : KI k2 s.heap j b m) (l1 : KL k1 s.heap a xs) (l2 : KL k2 s.heap b ys) (hx : xs[n]? = some x) (hy : ys[m]? = some y)
    (fin : ∀ h', IsZip h' z p q (rawInt s.heap.objs.size) → IsPair h' q x y → KI k1 h' i a (n + 1) → KI k2 h' j b (m + 1) → IsPair h' s.heap.objs.size x y → h'.objs.size = s.heap.objs.size + 1 → Kept4 z q i j s.heap h' → Q (some (.ref s.heap.objs.size)) { s with heap := h' }) :
    wpAny (model prog w) A (pyNext (.ref z)) Q E s := by
  have ty : s.TypeIs (.ref z) "zip" := ⟨_, hz, rfl⟩
  unfold pyNext
  exact wpAny_bind (wpAny_attempt (wpAny_callSpecial?_slot (name := Str.ofString "__next__") ty F.slot_zip_next (wpAny_call_entry F.slot_zip_next ty F.entry_zip_next
    (zk_item D hz hp hq h1 h2 l1 l2 hx hy fun h' a1 a2 a3 a4 a5 a6 a7 => wpAny_pure (fin h' a1 a2 a3 a4 a5 a6 a7)) (F.args_zip_next_1 _))))
theorem zk_stop {Q : Option Value → Shared → Prop} (hh : A.handled = none) (D : ZipApart z p q i j a b) (hz : IsZip s.heap z p q .none) (hp : IsPair s.heap p (.ref i) (.ref j)) (hq : IsPair s.heap q u v)
    (h1 : KI k1 s.heap i a n) (h2 : KI k2 s.heap j b m) (l1 : KL k1 s.heap a xs) (l2 : KL k2 s.heap b ys) (he : xs[n]? = none ∨ ys[m]? = none)
    (fin : ∀ h', Kept4 z q i j s.heap h' → Q none { s with heap := h' }) : wpAny (model prog w) A (pyNext (.ref z)) Q E s := by
  have ty : s.TypeIs (.ref z) "zip" := ⟨_, hz, rfl⟩
  unfold pyNext
  exact wpAny_bind (wpAny_attempt (wpAny_callSpecial?_slot (name := Str.ofString "__next__") ty F.slot_zip_next (wpAny_call_entry F.slot_zip_next ty F.entry_zip_next
    (zk_end hh D hz hp hq h1 h2 l1 l2 he fun h' e kp ⟨o, eo, ec⟩ => wpAny_bind (wpAny_isInstance (T := "StopIteration") (b := true) ⟨o, eo, ec⟩ isSubtype_stop (wpAny_pure (fin _ kp)))) (F.args_zip_next_1 _))))
end
/-- the sequences at a and b as they stand at each turn, the items in new pairs -/
def ItK (k1 k2 : Bool) (K : PySem.W.Frag) (a b : Addr) : It where
  go := fun i H => ∃ (xs ys : List V) (x y : V), KS k1 K H a xs ∧ KS k2 K H b ys ∧ xs[i]? = some x ∧ ys[i]? = some y
  yld := fun i H v H' => ∃ P x y, v = .ref P ∧ H P = none ∧ H' = upd H P (.tup [x, y]) ∧ (∀ xs, KS k1 K H a xs → xs[i]? = some x) ∧ ∀ ys, KS k2 K H b ys → ys[i]? = some y
  stop := fun i H => ∃ xs ys : List V, KS k1 K H a xs ∧ KS k2 K H b ys ∧ (xs.length ≤ i ∨ ys.length ≤ i)
theorem KS.at {k : Bool} {X : Cx} {pins : List (Addr × Obj)} {σ : L2.St} {H : Hp} {s : Shared} {a : Addr} {xs : List V} (I : Inv X pins σ H s) (h : KS k X.K H a xs) : ∃ its : List Value, Vals xs its ∧ KL k s.heap a its.toArray := by
  cases k with
  | true => obtain ⟨its, r, p, _⟩ := I.tuple h; exact ⟨its, r, p⟩
  | false => obtain ⟨its, r, p, _⟩ := I.list h; exact ⟨its, r, p.isList⟩
theorem KS.inj {k : Bool} {X : Cx} {pins : List (Addr × Obj)} {σ : L2.St} {H : Hp} {s : Shared} {a : Addr} {xs ys : List V} (I : Inv X pins σ H s) (h : KS k X.K H a xs) (h' : KS k X.K H a ys) : xs = ys := by
  cases k with
  | true => exact I.tuple_inj h h'
  | false => exact I.list_inj h h'
theorem turn_k {k1 k2 : Bool} {P : Program} {w : World} {K : PySem.W.Frag} {elts : List Expr} {kk : Nat} {tpos : Pos} {a b z p q i j : Addr} (D : ZipApart z p q i j a b) :
    Turn P w K (.Tuple elts kk tpos) (ItK k1 k2 K a b) [z, p, q, i, j] z (fun n h => IsZip h z p q .none ∧ IsPair h p (.ref i) (.ref j) ∧ (∃ x y, IsPair h q x y) ∧ KI k1 h i a n ∧ KI k2 h j b n) where
  mem := List.mem_cons_self
  obj := fun n h ⟨hz, hp, ⟨x, y, hq⟩, h1, h2⟩ c hc => by
    simp only [List.mem_cons, List.not_mem_nil, or_false] at hc
    rcases hc with r | r | r | r | r <;> subst r
    · exact ⟨_, hz, (fun v r => nomatch r)⟩
    · exact ⟨_, hp, (fun v r => nomatch r)⟩
    · exact ⟨_, hq, (fun v r => nomatch r)⟩
    · exact h1.obj
    · exact h2.obj
  keep := fun n h h' ⟨hz, hp, ⟨x, y, hq⟩, h1, h2⟩ k => ⟨k z (by simp) _ hz, k p (by simp) _ hp, ⟨x, y, k q (by simp) _ hq⟩, h1.at (k i (by simp)), h2.at (k j (by simp))⟩
  item := by
    intro X hP hw hK hc n pins s σ H E I hf ⟨hz, hp, ⟨x0, y0, hq⟩, h1, h2⟩ ⟨xs, ys, x, y, sx, sy, hx, hy⟩
    subst hP hw hK
    obtain ⟨its, rv, l1⟩ := sx.at I
    obtain ⟨its2, rv2, l2⟩ := sy.at I
    obtain ⟨u, hu, ru⟩ := rv.get hx
    obtain ⟨u2, hu2, ru2⟩ := rv2.get hy
    have zl : z < s.heap.objs.size := Heap.lt_size hz
    refine zk_next D hz hp hq h1 h2 l1 l2 (x := u) (y := u2) (by simpa using hu) (by simpa using hu2) fun h' z' q' i' j' t' _ kp => ⟨_, rfl, wpAny_letOwnedTupleGo_zip (s := { s with heap := h' }) z' fun h'' z'' sb => ?_⟩
    have t2 : h''.get? s.heap.objs.size = some { cls := .type "tuple", data := .seq #[u, u2] } := (sb.2 _ (Nat.ne_of_gt zl)).trans t'
    have ok : ObjOk X.prog X.w (upd H s.heap.objs.size (.tup [x, y])) h'' s.heap.objs.size (.tup [x, y]) := ⟨by show 2 ≤ sizeLine; decide, [u, u2], .cons ru (.cons ru2 .nil), ⟨_, t2, rfl, _, rfl⟩⟩
    have I1 : Inv X pins σ (upd H s.heap.objs.size (.tup [x, y])) { s with heap := h'' } := I.turnedNew (t' := s.toks) (ch := [z, p, q, i, j]) (fun c o hb e => by
      simp only [List.mem_cons, List.not_mem_nil, or_false, not_or] at hb
      exact (sb.2 c hb.1).trans (kp c o hb.1 hb.2.2.1 hb.2.2.2.1 hb.2.2.2.2 e)) hf (Nat.le_refl _) ok
    refine ⟨.ref s.heap.objs.size, _, I1, rfl, ⟨_, x, y, rfl, I.hok.fresh (Nat.le_refl _), rfl, fun l hl => by rw [hl.inj I sx]; exact hx, fun l hl => by rw [hl.inj I sy]; exact hy⟩, ⟨z'', (sb.2 _ D.TIz).trans (kp _ _ D.TIz D.TITO D.TIi1 D.TIi2 hp), ⟨u, u2, (sb.2 _ D.TOz).trans q'⟩, i'.at fun o r => (sb.2 _ D.i1z).trans r, j'.at fun o r => (sb.2 _ D.i2z).trans r⟩, fun c hcm => ?_⟩
    have lt : c < s.heap.objs.size := by
      simp only [List.mem_cons, List.not_mem_nil, or_false] at hcm
      rcases hcm with r | r | r | r | r <;> subst r
      · exact zl
      · exact Heap.lt_size hp
      · exact Heap.lt_size hq
      · obtain ⟨_, e1, _⟩ := h1.obj; exact Heap.lt_size e1
      · obtain ⟨_, e1, _⟩ := h2.obj; exact Heap.lt_size e1
    rw [upd_ne (Nat.ne_of_lt lt)]
    exact (hf c hcm).1
  done := by
    intro X hP hw hK hc n pins s σ H E I hf ⟨hz, hp, ⟨x0, y0, hq⟩, h1, h2⟩ ⟨xs, ys, sx, sy, he⟩
    subst hP hw hK
    obtain ⟨its, rv, l1⟩ := sx.at I
    obtain ⟨its2, rv2, l2⟩ := sy.at I
    have e1 := rv.length
    have e2 := rv2.length
    refine zk_stop (I.ok.hd hc) D hz hp hq h1 h2 l1 l2 (he.imp (fun r => by simp; omega) fun r => by simp; omega) fun h' kp => ⟨rfl, I.turnedL (t' := s.toks) (ch := [z, p, q, i, j]) (fun c o hb e => ?_) hf⟩
    simp only [List.mem_cons, List.not_mem_nil, or_false, not_or] at hb
    exact kp c o hb.1 hb.2.2.1 hb.2.2.2.1 hb.2.2.2.2 e
  self := fun A n s Q E st h => wpAny_pyIter_zip st.1 h
section
/-- a new iterator -/
def kO (k : Bool) (l : Addr) : Obj := match k with
  | true => { cls := .type "tuple_iterator", data := .fields #[.ref l, .int 0 0] }
  | false => { cls := .type "list_iterator", data := .fields #[.ref l, .int 0 0] }
theorem kO_data {k : Bool} {l : Addr} : (kO k l).isFreed = false := by cases k <;> rfl
theorem k_iter {k : Bool} {prog : Program} {w : World} {A : Around} {E : Value → Shared → Prop} {s : Shared} {l : Addr} {xs : Array Value} {Q : Value → Shared → Prop} (h : KL k s.heap l xs) (q : Q (.ref s.heap.objs.size) { s with heap := s.heap.push (kO k l) }) :
    wpAny (model prog w) A (pyIter (.ref l)) Q E s := by
  cases k with
  | true => exact wpAny_pyIter_tuple h q
  | false => exact wpAny_pyIter_list h q
theorem kO_new {k : Bool} {h : Heap} {i l : Addr} (e : h.get? i = some (kO k l)) : KI k h i l 0 := by
  cases k with
  | true => exact ⟨_, e, rfl, rfl⟩
  | false => exact ⟨_, e, rfl, rfl⟩
abbrev kh1 (k1 : Bool) (h : Heap) (a : Addr) : Heap := h.push (kO k1 a)
abbrev kh2 (k1 k2 : Bool) (h : Heap) (a b : Addr) : Heap := (kh1 k1 h a).push (kO k2 b)
abbrev kh3 (k1 k2 : Bool) (h : Heap) (a b : Addr) : Heap := (kh2 k1 k2 h a b).push { cls := .type "tuple", data := .seq #[.ref h.objs.size, .ref (kh1 k1 h a).objs.size] }
abbrev kh4 (k1 k2 : Bool) (h : Heap) (a b : Addr) : Heap := (kh3 k1 k2 h a b).push { cls := .type "tuple", data := .seq #[.none, .none] }
abbrev kh5 (k1 k2 : Bool) (h : Heap) (a b : Addr) : Heap := (kh4 k1 k2 h a b).push { cls := .type "zip", data := .fields #[.none, .bool false, .bool false, .ref (kh2 k1 k2 h a b).objs.size, .ref (kh3 k1 k2 h a b).objs.size] }
theorem k_new (k1 k2 : Bool) (a b : Addr) (xs ys : Array Value) : Meets (Builtin.«zip.__new__» ⟨[.type "zip", .ref a, .ref b], []⟩) (fun _ R s => KL k1 s.heap a xs ∧ KL k2 s.heap b ys ∧ R (.ok (.ret (.ref (kh4 k1 k2 s.heap a b).objs.size))) { s with heap := kh5 k1 k2 s.heap a b }) :=
  .of_wp fun prog w A R s ⟨l1, l2, h⟩ => by
    obtain ⟨hp, g, d, tk, os⟩ := s
    have sub := sub_zip
    have e1 : KL k1 (Shared.heap ⟨hp, g, d, tk, os⟩) a xs := l1
    have e2 : KL k2 (Shared.heap ⟨hp.push (kO k1 a), g, d, tk, os⟩) b ys := l2.at fun o e => Heap.get?_push_of_some _ e
    wp_walk using k_iter e1, k_iter e2
    exact ⟨_, rfl, h⟩
/-- the call of zip over what is of either kind -/
theorem zk_call {k1 k2 : Bool} {prog : Program} {w : World} {A : Around} {E : Value → Shared → Prop} {s : Shared} {a b : Addr} {xs ys : Array Value} {Q : Value → Shared → Prop} (l1 : KL k1 s.heap a xs) (l2 : KL k2 s.heap b ys)
    (h : ∀ h', IsZip h' (s.heap.objs.size + 4) (s.heap.objs.size + 2) (s.heap.objs.size + 3) .none → IsPair h' (s.heap.objs.size + 2) (.ref s.heap.objs.size) (.ref (s.heap.objs.size + 1)) → IsPair h' (s.heap.objs.size + 3) .none .none →
      KI k1 h' s.heap.objs.size a 0 → KI k2 h' (s.heap.objs.size + 1) b 0 → (∀ c o, s.heap.get? c = some o → h'.get? c = some o) → Q (.ref (s.heap.objs.size + 4)) { s with heap := h' }) :
    wpAny (model prog w) A (call (.type "zip") [.ref a, .ref b]) Q E s := by
  refine callType_new F.called_zip (by decide) (F.typeCall_zip_2 _ _) (F.newCall_zip_2 _ _) (fun obj => F.args_object_init_3 obj _ _) F.entry_zip_new (k_new k1 k2 a b xs ys) ⟨l1, l2, ?_⟩
  have e1 : (kh1 k1 s.heap a).objs.size = s.heap.objs.size + 1 := Heap.size_push ..
  have e2 : (kh2 k1 k2 s.heap a b).objs.size = s.heap.objs.size + 2 := (Heap.size_push ..).trans (by rw [e1])
  have e3 : (kh3 k1 k2 s.heap a b).objs.size = s.heap.objs.size + 3 := (Heap.size_push ..).trans (by rw [e2])
  have e4 : (kh4 k1 k2 s.heap a b).objs.size = s.heap.objs.size + 4 := (Heap.size_push ..).trans (by rw [e3])
  have up : ∀ c o, (kh4 k1 k2 s.heap a b).get? c = some o → (kh5 k1 k2 s.heap a b).get? c = some o := fun c o e => Heap.get?_push_of_some _ e
  have up3 : ∀ c o, (kh3 k1 k2 s.heap a b).get? c = some o → (kh5 k1 k2 s.heap a b).get? c = some o := fun c o e => up c o (Heap.get?_push_of_some _ e)
  have up2 : ∀ c o, (kh2 k1 k2 s.heap a b).get? c = some o → (kh5 k1 k2 s.heap a b).get? c = some o := fun c o e => up3 c o (Heap.get?_push_of_some _ e)
  have up1 : ∀ c o, (kh1 k1 s.heap a).get? c = some o → (kh5 k1 k2 s.heap a b).get? c = some o := fun c o e => up2 c o (Heap.get?_push_of_some _ e)
  have m5 : (kh5 k1 k2 s.heap a b).get? (kh4 k1 k2 s.heap a b).objs.size = some _ := Heap.get?_push_size _ rfl
  have m4 : (kh5 k1 k2 s.heap a b).get? (kh3 k1 k2 s.heap a b).objs.size = some _ := up _ _ (Heap.get?_push_size _ rfl)
  have m3 : (kh5 k1 k2 s.heap a b).get? (kh2 k1 k2 s.heap a b).objs.size = some _ := up3 _ _ (Heap.get?_push_size _ rfl)
  have m2 : (kh5 k1 k2 s.heap a b).get? (kh1 k1 s.heap a).objs.size = some _ := up2 _ _ (Heap.get?_push_size _ kO_data)
  have m1 : (kh5 k1 k2 s.heap a b).get? s.heap.objs.size = some _ := up1 _ _ (Heap.get?_push_size _ kO_data)
  show _ ∧ _
  rw [e2, e3, e4] at m5
  rw [e1, e2] at m3
  rw [e3] at m4
  rw [e1] at m2
  rw [e4]
  exact ⟨⟨_, m5, rfl⟩, h _ m5 m3 m4 (kO_new m1) (kO_new m2) fun c o e => up1 c o (Heap.get?_push_of_some _ e)⟩
def iZipK (K : PySem.W.Frag) (ta : TA) : TI := fun σ H R => ta σ H fun vs H1 => ∃ (k1 k2 : Bool) (a b : Addr) (xs ys : List V), vs = [.ref a, .ref b] ∧ KS k1 K H1 a xs ∧ KS k2 K H1 b ys ∧ R (ItK k1 k2 K a b) H1
theorem pi_zipK {X : Cx} {e e2 : Expr} {ta : TA} {p pos tpos : Pos} {elts : List Expr} {kk : Nat} (hg : Gl X "zip") (hm : X.mg "zip" = none) (ha : PA X [e, e2] ta)
    (hs : starEach [e, e2] X.env = (false, eval e X.env) :: starEach [e2] X.env) (hpl : (backTo pos (starEach [e2] X.env)).any (·.1) = false) :
    PI X (.Tuple elts kk tpos) (.Call (.Name "zip" p) [e, e2] [] pos) (iZipK X.K ta) := by
  refine ⟨fun pins s σ H R I h => Call_ (ld_blt I hg hm PyProof.Rows.boot_zip (PyProof.Rows.callWith_type1 (thn (ha.run pos pins s σ H _ I h) fun us s1 ⟨vs, H1, I1, r1, k1, k2, a, b, xs, ys, ex, sx, sy, q⟩ => ?_) hs hpl))⟩
  subst ex
  obtain ⟨u1, u2, rfl, q1, q2⟩ : ∃ u1 u2, us = [u1, u2] ∧ RelV (.ref a) u1 ∧ RelV (.ref b) u2 := by
    cases r1 with
    | cons r rr => cases rr with
      | cons r' rr => cases rr; exact ⟨_, _, rfl, r, r'⟩
  cases q1
  cases q2
  obtain ⟨its, _, l1⟩ := sx.at I1
  obtain ⟨its2, _, l2⟩ := sy.at I1
  have lt {k : Bool} {l : Addr} {zs : Array Value} (x : KL k s1.heap l zs) : l < s1.heap.objs.size := by
    cases k with
    | true => obtain ⟨_, e, _⟩ := x; exact Heap.lt_size e
    | false => obtain ⟨_, e, _⟩ := x; exact Heap.lt_size e
  refine zk_call l1 l2 fun h' hz hp hq h1 h2 kp => wpAny_pyIter_zip hz ?_
  have I2 : Inv X pins σ H1 { s1 with heap := h' } := I1.kept (t' := s1.toks) kp
  refine ⟨s1.heap.objs.size + 4, [s1.heap.objs.size + 4, s1.heap.objs.size + 2, s1.heap.objs.size + 3, s1.heap.objs.size, s1.heap.objs.size + 1], _, _, H1, rfl, I2, turn_k (PySem.W.ktu_apart s1.heap.objs.size a b (lt l1) (lt l2)), ⟨hz, hp, ⟨_, _, hq⟩, h1, h2⟩, fun c hc => ?_, q⟩
  have le : s1.heap.objs.size ≤ c := by
    simp only [List.mem_cons, List.not_mem_nil, or_false] at hc
    rcases hc with r | r | r | r | r <;> (subst r; first | exact Nat.le_add_right _ _ | exact Nat.le_refl _)
  exact I1.fpOk le (I1.hok.fresh le)
end
end Mi
end

section
set_option maxRecDepth 100000
set_option maxHeartbeats 1000000
/-! Mi: targets, what is walked, comprehensions. -/
namespace Mi
open PySem PySem.Spec L2 PyProof.Rows
section
variable {T : Tb} {P : Pg} {k : Nat} {Wx : WX} {X : Cx} {pins : List (Addr × Obj)} {σ : L2.St} {H : Hp} {s : Shared} {Q : VK} {w : Wl} {S : Store} {a b c : Expr} {ma mb mc : Mir} {ml mr : MirL} {pos : Pos} {es : List Expr} {cl : Call}
/-! ### targets -/
/-- but at ss as it was -/
def Agr (ss : List Nat) (σ σ' : L2.St) : Prop := σ'.length = σ.length ∧ ∀ j, j ∉ ss → σ'[j]? = σ[j]?
theorem Agr.refl {ss : List Nat} {σ : L2.St} : Agr ss σ σ := ⟨rfl, fun _ _ => rfl⟩
theorem Agr.trans {ss : List Nat} {σ σ1 σ2 : L2.St} (a : Agr ss σ σ1) (b : Agr ss σ1 σ2) : Agr ss σ σ2 := ⟨b.1.trans a.1, fun j h => (b.2 j h).trans (a.2 j h)⟩
theorem Agr.mono {ss tt : List Nat} {σ σ' : L2.St} (a : Agr ss σ σ') (h : ∀ j, j ∈ ss → j ∈ tt) : Agr tt σ σ' := ⟨a.1, fun j q => a.2 j fun z => q (h j z)⟩
def patSlots : Pat → List Nat
  | .slot i => [i]
  | .nil => []
  | .cons p r => patSlots p ++ patSlots r
def gP (T : Tb) (p : Pat) : TG := fun v σ H Q => ∃ w fr d σd, FrOk T w H σ fr ∧ Rep T w H v d ∧ putP fr.self.isSome p d fr.σ = some σd ∧ ∀ σ', Agr (patSlots p) σ σ' → FrOk T w H σ' ⟨σd, fr.self⟩ → Q σ' H
def gPs (T : Tb) (p : Pat) : TGs := fun vs σ H Q => ∃ w fr ds σd, FrOk T w H σ fr ∧ Reps T w H vs ds ∧ putPs fr.self.isSome p ds fr.σ = some σd ∧ ∀ σ', Agr (patSlots p) σ σ' → FrOk T w H σ' ⟨σd, fr.self⟩ → Q σ' H
theorem FrOk.set {fr : Fr} {i : Nat} {v : V} {d : D} (f : FrOk T w H σ fr) (r : Rep T w H v d) (hi : i < fr.σ.length) (h0 : (i != 0 || !fr.self.isSome) = true) : FrOk T w H (σ.set i (some v)) ⟨fr.σ.set i (some d), fr.self⟩ := by
  refine ⟨by simp [f.len], fun j e h => ?_, ?_⟩
  · by_cases q : i = j
    · subst q
      rw [List.getElem?_set_self hi] at h
      cases h
      exact ⟨v, by rw [List.getElem?_set_self (by rw [← f.len]; exact hi)], r⟩
    · have h' : fr.σ[j]? = some (some e) := by rw [← List.getElem?_set_ne q]; exact h
      obtain ⟨u, h1, h2⟩ := f.slot j e h'
      exact ⟨u, by rw [List.getElem?_set_ne q]; exact h1, h2⟩
  · have sf := f.self
    show SelfOk T w H (σ.set i (some v)) fr.self
    cases hs : fr.self with
    | none => rw [hs] at sf; exact sf
    | some p =>
      obtain ⟨n, fs⟩ := p
      rw [hs] at sf
      obtain ⟨x, dx, vs, h1, h2, h3, h4⟩ := sf
      rw [hs] at h0
      have q : i ≠ 0 := by simpa using h0
      exact ⟨x, dx, vs, h1, by rw [List.getElem?_set_ne q]; exact h2, h3, h4⟩
theorem g_slot {i : Nat} {x : Str} (hN : X.N.Nodup) (hi : X.N[i]? = some x) (hx : Loc X.env.scope x) (hf : X.fn x = true ∨ X.env.scope.names.lookup x = some .local) : PG X (.Name x pos) (gP T (.slot i)) := by
  refine ⟨fun pins s σ H v u Q I r h => (pg_name hN hi hx hf).run pins s σ H v u Q I r ?_⟩
  obtain ⟨w, fr, d, σd, f, rv, hp, hq⟩ := h
  unfold putP at hp
  split at hp
  · rename_i q
    cases hp
    obtain ⟨q1, q2⟩ := bt q
    exact hq _ ⟨by simp, fun j hj => List.getElem?_set_ne fun z => hj (by rw [z]; exact List.mem_singleton.mpr rfl)⟩ (f.set rv (of_decide_eq_true q1) q2)
  · cases hp
/-- a plain target has one store -/
def plainG : Expr → Bool
  | .Starred _ _ => false
  | _ => true
theorem g_nil : PGs X [] (gPs T .nil) := by
  refine ⟨fun pins s σ H vs us Q I r h => pgs_nil.run pins s σ H vs us Q I r ?_⟩
  obtain ⟨w, fr, ds, σd, f, rv, hp, hq⟩ := h
  cases rv with
  | nil => cases hp; exact ⟨rfl, hq σ .refl f⟩
  | cons _ _ => cases hp
theorem each_cons {e : Expr} {es : List Expr} {env : Env} (h : plainG e = true) : assignEach (e :: es) env = (false, assign e env) :: assignEach es env := by
  cases e <;> first
    | exact absurd (show false = true from h) Bool.false_ne_true
    | rfl
theorem g_cons {e : Expr} {es : List Expr} {p q : Pat} (h1 : PG X e (gP T p)) (h2 : PGs X es (gPs T q)) (hp : plainG e = true) : PGs X (e :: es) (gPs T (.cons p q)) := by
  refine ⟨fun pins s σ H vs us Q I r h => (pgs_cons h1 h2 (by rw [each_cons hp]; rfl)).run pins s σ H vs us Q I r ?_⟩
  obtain ⟨w, fr, ds, σd, f, rv, hp, hq⟩ := h
  cases rv with
  | nil => cases hp
  | cons r1 rs =>
    rename_i v d vs ds
    unfold putPs at hp
    dsimp only at hp
    cases e1 : putP fr.self.isSome p d fr.σ with
    | none => rw [e1] at hp; cases hp
    | some σ1 =>
      rw [e1] at hp
      exact ⟨v, vs, rfl, w, fr, d, σ1, f, r1, e1, fun σ' g' f' => ⟨w, ⟨σ1, fr.self⟩, ds, σd, f', rs, hp, fun σ2 g2 f2 => hq σ2 ((g'.mono fun j h => List.mem_append_left _ h).trans (g2.mono fun j h => List.mem_append_right _ h)) f2⟩⟩
def plainGs : List Expr → Bool
  | [] => true
  | e :: es => plainG e && plainGs es
theorem each_len {env : Env} : ∀ {es : List Expr}, plainGs es = true → (assignEach es env).length = es.length ∧ (assignEach es env).findIdx? (·.1) = none
  | [], _ => ⟨rfl, rfl⟩
  | e :: es, h => by
    obtain ⟨h1, h2⟩ := bt h
    obtain ⟨a1, a2⟩ := each_len (env := env) h2
    rw [each_cons h1]
    exact ⟨by simp [a1], by rw [List.findIdx?_cons]; simp [a2]⟩
/-- as many as items -/
def patLen : Pat → Nat
  | .cons _ r => patLen r + 1
  | _ => 0
theorem puts_len {bb : Bool} : ∀ {p : Pat} {ds : List D} {σ0 σd : List (Option D)}, putPs bb p ds σ0 = some σd → ds.length = patLen p
  | .nil, [], _, _, h => rfl
  | .nil, _ :: _, _, _, h => by cases h
  | .cons p r, [], _, _, h => by cases h
  | .cons p r, d :: ds, σ0, σd, h => by
    unfold putPs at h
    dsimp only at h
    cases e1 : putP bb p d σ0 with
    | none => rw [e1] at h; cases h
    | some σ1 =>
      rw [e1] at h
      show ds.length + 1 = patLen r + 1
      rw [puts_len h]
  | .slot _, _, _, _, h => by cases h
theorem g_tup (hc : X.calm = true) (hK : X.K = T.K) {es : List Expr} {kk : Nat} {p : Pat} (h : PGs X es (gPs T p)) (hp : plainGs es = true) (hl : es.length = patLen p) (hpp : (match p with | .slot _ => false | _ => true) = true) : PG X (.Tuple es kk pos) (gP T p) := by
  refine ⟨fun pins s σ H v u Q I r hh => ?_⟩
  obtain ⟨w, fr, d, σd, f, rv, hpt, hq⟩ := hh
  have key : ∃ ds, elems d = some ds ∧ putPs fr.self.isSome p ds fr.σ = some σd := by
    cases p with
    | slot i => exact absurd hpp Bool.false_ne_true
    | nil =>
      unfold putP at hpt
      split at hpt
      · exact ⟨[], by assumption, hpt⟩
      · cases hpt
    | cons p r =>
      unfold putP at hpt
      split at hpt
      · rename_i e0 l0 h0
        exact ⟨e0 :: l0, h0, hpt⟩
      · cases hpt
  obtain ⟨ds, he, hps⟩ := key
  cases d with
  | tup l =>
    cases he
    obtain ⟨aa, vs, rfl, h1, h2⟩ := rv.tupI
    exact (pg_tup (n := es.length) hc h (each_len hp).1 (each_len hp).2).run pins s σ H _ u Q I r ⟨aa, vs, rfl, by rw [hK]; exact h1, by rw [h2.length, puts_len hps, hl], w, fr, ds, σd, f, h2, hps, hq⟩
  | lst l =>
    cases he
    obtain ⟨aa, vs, rfl, h1, h2⟩ := rv.lstI
    exact (pg_lst (n := es.length) hc h (each_len hp).1 (each_len hp).2).run pins s σ H _ u Q I r ⟨aa, vs, rfl, by rw [hK]; exact h1, by rw [h2.length, puts_len hps, hl], w, fr, ds, σd, f, h2, hps, hq⟩
  | _ => cases he
/-! ### what is walked -/
theorem Ext.up {w w' : Wl} {H H' : Hp} (e : Ext none w H w' H') : Ext w.own w H w' H' := e.weak
/-- J gives ds, whatever changes besides -/
def Seq (T : Tb) (w : Wl) (H : Hp) (J : It) (ds : List D) : Prop := ∃ (G : Hp → Prop) (Y : Nat → Hp → V → Hp → Prop), Walk J ds.length G Y ∧ (∀ w' H', Mono w H w' H' → G H') ∧
  ∀ i x d w' H' H'' S, Mono w H w' H' → StOk T w' H' S → Y i H' x H'' → ds[i]? = some d → Ext none w' H' w' H'' ∧ StOk T w' H'' S ∧ Rep T w' H'' x d
def PostS (T : Tb) (Wx : WX) (w : Wl) (σ : L2.St) (H : Hp) (r : ResL) (R : It → Hp → Prop) : Prop := match r with
  | .ok ds S' => ∀ J w' H', Ext none w H w' H' → StOk T w' H' S' → Seq T w' H' J ds → R J H'
  | .exc c fs S' => ∀ cls dd w' H', Ext none w H w' H' → ExcOk T w' H' cls dd c fs → StOk T w' H' S' → Wx cls dd σ H'
  | .bad => False
theorem PostS.later {r : ResL} {R : It → Hp → Prop} {w1 : Wl} {H1 : Hp} (e : Ext none w H w1 H1) (h : PostS T Wx w σ H r R) : PostS T Wx w1 σ H1 r R := by
  cases r with
  | ok d S => exact fun v w' H' e' st sq => h v w' H' (e.trans e') st sq
  | exc c fs S => exact fun cls dd w' H' e' rv st => h cls dd w' H' (e.trans e') rv st
  | bad => exact h
def tI (T : Tb) (Wx : WX) (m : MirL) : TI := fun σ H R => ∃ w fr S, FrOk T w H σ fr ∧ StOk T w H S ∧ PostS T Wx w σ H (m fr S) R
theorem sq_stay {a : Addr} {vs : List V} {w' : Wl} {H' : Hp} (h : (H a = some (.lst vs) ∧ Fz w a) ∨ KLst T.K a vs) (e : Mono w H w' H') : SqL T.K H' a vs := by
  rcases h with ⟨h1, h2⟩ | h
  · exact .inl (.inl (e.fz _ _ (fun _ z => by cases z) h1 h2).1)
  · obtain ⟨ob, its, n, h1, h2, h3, h4, h5, h6, _⟩ := h
    exact .inr ⟨ob, its, n, h1, h2, h3, h4, h5, h6⟩
theorem st_stay {a : Addr} {vs : List V} {w' : Wl} {H' : Hp} (h : (H a = some (.tup vs) ∧ Fz w a) ∨ KTup T.K a vs) (e : Mono w H w' H') : SqT T.K H' a vs := by
  rcases h with ⟨h1, h2⟩ | h
  · exact .inl (.inl (e.fz _ _ (fun _ z => by cases z) h1 h2).1)
  · exact .inr h
theorem Rep.lstF {x : V} {ds : List D} (r : Rep T w H x (.lst ds)) : ∃ a vs, x = .ref a ∧ ((H a = some (.lst vs) ∧ Fz w a) ∨ KLst T.K a vs) ∧ Reps T w H vs ds := by
  cases r with
  | lst h f rs => exact ⟨_, _, rfl, .inl ⟨h, f⟩, rs⟩
  | lstK h rs => exact ⟨_, _, rfl, .inr h, rs⟩
theorem Rep.tupF {x : V} {ds : List D} (r : Rep T w H x (.tup ds)) : ∃ a vs, x = .ref a ∧ ((H a = some (.tup vs) ∧ Fz w a) ∨ KTup T.K a vs) ∧ Reps T w H vs ds := by
  cases r with
  | tup h f rs => exact ⟨_, _, rfl, .inl ⟨h, f⟩, rs⟩
  | tupK h rs => exact ⟨_, _, rfl, .inr h, rs⟩
theorem seq_list {a : Addr} {vs : List V} {ds : List D} (h : (H a = some (.lst vs) ∧ Fz w a) ∨ KLst T.K a vs) (r : Reps T w H vs ds) : Seq T w H (Itl T.K a) ds := by
  refine ⟨fun H => SqL T.K H a vs, YAt vs, by rw [← r.length]; exact walk_list, fun w' H' e => sq_stay h e, fun i x d w' H' H'' S e st y hd => ?_⟩
  obtain ⟨y1, y2⟩ := y
  subst y1
  obtain ⟨d', h1, h2⟩ := r.getV y2
  rw [hd] at h1; cases h1
  exact ⟨.refl, st, h2.mono e⟩
theorem seq_tup {a : Addr} {vs : List V} {ds : List D} (h : (H a = some (.tup vs) ∧ Fz w a) ∨ KTup T.K a vs) (r : Reps T w H vs ds) : Seq T w H (Itt T.K a) ds := by
  refine ⟨fun H => SqT T.K H a vs, YAt vs, by rw [← r.length]; exact walk_tup, fun w' H' e => st_stay h e, fun i x d w' H' H'' S e st y hd => ?_⟩
  obtain ⟨y1, y2⟩ := y
  subst y1
  obtain ⟨d', h1, h2⟩ := r.getV y2
  rw [hd] at h1; cases h1
  exact ⟨.refl, st, h2.mono e⟩
theorem seq_rng {lo : Int} {n : Nat} : Seq T w H (Itr lo n) (rngL lo n) := by
  have hl : (rngL lo n).length = n := by unfold rngL; simp
  refine ⟨fun _ => True, YFn fun i => .int (lo + i), by rw [hl]; exact walk_range, fun _ _ _ => trivial, fun i x d w' H' H'' S e st y hd => ?_⟩
  obtain ⟨y1, y2⟩ := y
  subst y1; subst y2
  have hi : i < n := by have := (List.getElem?_eq_some_iff.mp hd).1; omega
  have hd' : d = .int (lo + (i : Nat)) := by
    unfold rngL at hd
    rw [List.getElem?_map, List.getElem?_range hi] at hd
    exact (Option.some.inj hd).symm
  subst hd'
  exact ⟨.refl, st, .int _⟩
theorem enumL_get : ∀ (l : List D) (n i : Nat), (enumL n l)[i]? = l[i]?.map fun d => .tup [.int ((n + i : Nat) : Int), d]
  | [], n, i => by simp [enumL]
  | d :: l, n, 0 => by simp [enumL]
  | d :: l, n, i + 1 => by
    simp only [enumL, List.getElem?_cons_succ]
    rw [enumL_get l (n + 1) i]
    congr 2
    funext d
    rw [show n + 1 + i = n + (i + 1) by omega]
theorem enumL_len : ∀ (l : List D) (n : Nat), (enumL n l).length = l.length
  | [], _ => rfl
  | _ :: l, n => by simp [enumL, enumL_len l (n + 1)]
theorem zipL_get : ∀ (l r : List D) (i : Nat), (zipL l r)[i]? = l[i]?.bind fun a => r[i]?.map fun b => .tup [a, b]
  | [], r, i => by simp [zipL]
  | a :: l, [], i => by
    simp only [zipL, List.getElem?_nil, Option.map_none]
    cases (a :: l)[i]? <;> rfl
  | a :: l, b :: r, 0 => by simp [zipL]
  | a :: l, b :: r, i + 1 => by
    simp only [zipL, List.getElem?_cons_succ]
    exact zipL_get l r i
theorem zipL_len : ∀ (l r : List D), (zipL l r).length = min l.length r.length
  | [], r => by simp [zipL]
  | a :: l, [] => by simp [zipL]
  | a :: l, b :: r => by simp [zipL, zipL_len l r, Nat.succ_min_succ]
theorem new_pair {T0 : Addr} {x y : V} {d e : D} (st : StOk T w H S) (hp : H T0 = none) (rx : Rep T w H x d) (ry : Rep T w H y e) : Ext none w H w (upd H T0 (.tup [x, y])) ∧ StOk T w (upd H T0 (.tup [x, y])) S ∧ Rep T w (upd H T0 (.tup [x, y])) (.ref T0) (.tup [d, e]) := by
  have ex := ext_new (w := w) (o := HO.tup [x, y]) hp
  exact ⟨ex, st.new hp, .tup upd_same (st.fz_new hp) (.cons (rx.mono (ex.mono (.inl rfl))) (.cons (ry.mono (ex.mono (.inl rfl))) .nil))⟩
theorem seq_enum {a : Addr} {vs : List V} {ds : List D} (h : (H a = some (.lst vs) ∧ Fz w a) ∨ KLst T.K a vs) (r : Reps T w H vs ds) : Seq T w H (Ite T.K a) (enumL 0 ds) := by
  refine ⟨fun H => SqL T.K H a vs, _, by rw [enumL_len, ← r.length]; exact walk_enum, fun w' H' e => sq_stay h e, fun i x d w' H' H'' S e st y hd => ?_⟩
  obtain ⟨T0, u, v, rfl, hn, rfl, h1, h2⟩ := y
  cases h1
  obtain ⟨d', h3, h4⟩ := r.getV h2
  rw [enumL_get, h3] at hd
  cases hd
  rw [Nat.zero_add]
  exact new_pair st hn (.int _) (h4.mono e)
theorem seq_zip {a b : Addr} {vs us : List V} {ds es : List D} (h : (H a = some (.lst vs) ∧ Fz w a) ∨ KLst T.K a vs) (h' : (H b = some (.lst us) ∧ Fz w b) ∨ KLst T.K b us) (r : Reps T w H vs ds) (r' : Reps T w H us es) : Seq T w H (Itz T.K a b) (zipL ds es) := by
  refine ⟨fun H => SqL T.K H a vs ∧ SqL T.K H b us, _, walk_zip (by rw [zipL_len, r.length, r'.length]), fun w' H' e => ⟨sq_stay h e, sq_stay h' e⟩, fun i x d w' H' H'' S e st y hd => ?_⟩
  obtain ⟨T0, u, v, rfl, hn, rfl, h1, h2⟩ := y
  obtain ⟨d', h3, h4⟩ := r.getV h1
  obtain ⟨e', h5, h6⟩ := r'.getV h2
  rw [zipL_get, h3, h5] at hd
  cases hd
  exact new_pair st hn (h4.mono e) (h6.mono e)
theorem walk_zipT {K : PySem.W.Frag} {a b : Addr} {xs ys : List V} {n : Nat} (hn : n = min xs.length ys.length) : Walk (RZ.ItzT K a b) n (fun H => SqT K H a xs ∧ SqT K H b ys) (YPair (fun i => xs[i]?) (fun i => ys[i]?)) := by
  subst hn
  refine ⟨fun i _ hi q => ?_, fun _ q => ⟨xs, ys, q.1, q.2, by omega⟩, fun i H v H' _ q y => ?_⟩
  · have h1 : i < xs.length := by omega
    have h2 : i < ys.length := by omega
    exact ⟨xs, ys, xs[i], ys[i], q.1, q.2, by simp [h1], by simp [h2]⟩
  · obtain ⟨T, x, z, h1, h2, h3, h4, h5⟩ := y
    exact ⟨T, x, z, h1, h2, h3, h4 xs q.1, h5 ys q.2⟩
theorem seq_zipT {a b : Addr} {vs us : List V} {ds es : List D} (h : (H a = some (.tup vs) ∧ Fz w a) ∨ KTup T.K a vs) (h' : (H b = some (.tup us) ∧ Fz w b) ∨ KTup T.K b us) (r : Reps T w H vs ds) (r' : Reps T w H us es) : Seq T w H (RZ.ItzT T.K a b) (zipL ds es) := by
  refine ⟨fun H => SqT T.K H a vs ∧ SqT T.K H b us, _, walk_zipT (by rw [zipL_len, r.length, r'.length]), fun w' H' e => ⟨st_stay h e, st_stay h' e⟩, fun i x d w' H' H'' S e st y hd => ?_⟩
  obtain ⟨T0, u, v, rfl, hn, rfl, h1, h2⟩ := y
  obtain ⟨d', h3, h4⟩ := r.getV h1
  obtain ⟨e', h5, h6⟩ := r'.getV h2
  rw [zipL_get, h3, h5] at hd
  cases hd
  exact new_pair st hn (h4.mono e) (h6.mono e)
/-- what stands as an iterable -/
def elM (P : Pg) (call : Call) (m : Mir) : MirL := fun fr S => (m fr S).bindL fun x S1 => match elems x with
    | some l => .ok l S1
    | none => itM P call x S1
theorem post_bindS {r : Res} {k : D → Store → ResL} {R : It → Hp → Prop} (h : PostS T Wx w σ H (r.bindL k) R) : PostE T Wx w σ H r (fun v H1 => ∃ w1 d S1, Ext none w H w1 H1 ∧ Rep T w1 H1 v d ∧ StOk T w1 H1 S1 ∧ r = .ok d S1 ∧ PostS T Wx w1 σ H1 (k d S1) R) := by
  cases r with
  | ok d S => exact fun v w' H' e rv st => ⟨w', d, S, e, rv, st, rfl, PostS.later e h⟩
  | exc c fs S => exact h
  | bad => exact h
theorem i_ex (cn : Cn T P k Wx X) {tg : Expr} (ha : PE X a (tE T Wx ma)) : PI X tg a (tI T Wx (elM P (run P k) ma)) := by
  have hK := cn.K
  refine ⟨fun pins s σ H R I h => ?_⟩
  obtain ⟨w, fr, S, f, st, p⟩ := h
  refine thn (ha.run pins s σ H _ I ⟨w, fr, S, f, st, post_bindS p⟩) fun v s1 ⟨x, H1, I1, r1, w1, d, S1, e, rx, st1, _, q⟩ => ?_
  cases d with
  | lst l =>
    obtain ⟨aa, vs, rfl, hq, hr⟩ := rx.lstF
    cases (show v = Value.ref aa from r1)
    have hs : SqL X.K H1 aa vs := by rw [hK]; exact sq_stay hq mono_refl
    obtain ⟨its, rv, p1, hz⟩ := I1.list hs
    refine wpAny_pyIter_list p1.isList ?_
    refine ⟨s1.heap.objs.size, [s1.heap.objs.size], _, _, H1, rfl, I1.kept (t' := s1.toks) fun b o e => Heap.get?_push_of_some _ e, turn_list aa _, ⟨_, Heap.get?_push_size _ rfl, rfl, rfl⟩, fun b hb => ?_, ?_⟩
    · have e : b = s1.heap.objs.size := by simpa using hb
      subst e
      exact I1.fpOk (Nat.le_refl _) (I1.hok.fresh (Nat.le_refl _))
    · rw [hK]; exact q _ w1 H1 .refl st1 (seq_list hq hr)
  | tup l =>
    obtain ⟨aa, vs, rfl, hq, hr⟩ := rx.tupF
    cases (show v = Value.ref aa from r1)
    have hs : SqT X.K H1 aa vs := by rw [hK]; exact st_stay hq mono_refl
    obtain ⟨its, rv, p1, hz⟩ := I1.tuple hs
    refine wpAny_pyIter_tuple (show s1.heap.IsTuple aa its.toArray from p1) ?_
    refine ⟨s1.heap.objs.size, [s1.heap.objs.size], _, _, H1, rfl, I1.kept (t' := s1.toks) fun b o e => Heap.get?_push_of_some _ e, turn_tuple aa _, ⟨_, Heap.get?_push_size _ rfl, rfl, rfl⟩, fun b hb => ?_, ?_⟩
    · have e : b = s1.heap.objs.size := by simpa using hb
      subst e
      exact I1.fpOk (Nat.le_refl _) (I1.hok.fresh (Nat.le_refl _))
    · rw [hK]; exact q _ w1 H1 .refl st1 (seq_tup hq hr)
  | obj c fs =>
    have q' : PostS T Wx w1 σ H1 (itM P (run P k) (.obj c fs) S1) R := q
    unfold itM at q'
    cases k with
    | zero => exact (show False from q').elim
    | succ j =>
      replace q' : PostS T Wx w1 σ H1 (match dunOf P c .iter with
        | some g => (match itF P g with
          | some f => (match attrI P (fun _ _ => .bad) (.obj c fs) c fs f S1 with
            | .ok (.tup l) S' => .ok l S'
            | _ => .bad)
          | none => .bad)
        | none => .bad) R := q'
      cases hd : dunOf P c .iter with
      | none => rw [hd] at q'; exact (show False from q').elim
      | some g =>
        rw [hd] at q'
        dsimp only at q'
        cases hf : itF P g with
        | none => rw [hf] at q'; exact (show False from q').elim
        | some f =>
          rw [hf] at q'
          dsimp only at q'
          cases hat : attrI P (fun _ _ => .bad) (.obj c fs) c fs f S1 with
          | exc _ _ _ => rw [hat] at q'; exact (show False from q').elim
          | bad => rw [hat] at q'; exact (show False from q').elim
          | ok d S2 =>
            rw [hat] at q'
            cases d with
            | tup l =>
              replace q' : PostS T Wx w1 σ H1 (.ok l S2) R := q'
              have rx0 := rx
              obtain ⟨aa, dx, vs, rfl, hH, fz, rf⟩ := rx.objI
              cases (show v = Value.ref aa from r1)
              obtain ⟨ci, hci, hlk⟩ : ∃ ci, P.cs[c]? = some ci ∧ ci.dun.lookup .iter = some g := by
                unfold dunOf at hd
                cases e9 : P.cs[c]? with
                | none => rw [e9] at hd; cases hd
                | some ci => rw [e9] at hd; exact ⟨ci, rfl, hd⟩
              obtain ⟨hgl, dk⟩ := cn.ko.dun c ci .iter g hci hlk
              rw [← hK] at dk
              obtain ⟨mA, J, _⟩ := ins_get I1.hok hH
              obtain ⟨od, J, _⟩ := J.look
              obtain ⟨m0, hF⟩ := I1.fr
              have e0 := I1.env0
              rw [hK] at e0
              have FF := cn.lv.it g f (Nat.succ_pos j) hf X.A X.stack s1 H1 (.ref aa) (.ref aa) w1.inner S1 S2 c fs l cn.room e0 rfl rfl st1.inner (rx0.mono mono_inner) hat
              refine PySem.W.owit_iter hF I1.ok.mod.kin J dk.at_ dk.fn (wpAny_call (codeAny_mono FF fun r s' hq => ?_))
              cases r with
              | error er =>
                obtain ⟨_, _, _, _, _, _, _, _, _, _, _, _, hE⟩ := hq
                exact hE.elim
              | ok fl =>
                cases fl with
                | next => exact False.elim hq
                | brk => exact False.elim hq
                | cont => exact False.elim hq
                | ret u =>
                  obtain ⟨v9, H9, I2, rv, it, ta, us, w2, H2, e1, hn, e2, st2, e3, hn2, hq2, hr⟩ := I1.after hq
                  subst e1
                  subst e3
                  cases (show u = Value.ref it from rv)
                  have eo : s'.heap.get? it = some (tiObj ta) := (I2.hok it _ upd_same).1
                  have hT : s'.TypeIs (.ref it) "tuple_iterator" := ⟨_, eo, rfl⟩
                  unfold PySem.W.OwitIt
                  refine wpAny_specialOf (name := Str.ofString "__next__") hT PySem.F.slot_tuple_iterator_next.lookup ?_
                  have I3 := ItX.inv_drop I2 (φ := fun h => h.get? it = some (tiObj ta)) upd_same
                  have f3 := ItX.inv_fp I2 (u := ItOt ta it) upd_same (Nat.le_trans I1.sz hn)
                  rw [ItX.dropH_upd hn2] at I3 f3
                  refine ⟨it, [it], _, _, H2, rfl, I3, turn_tuple ta it, ⟨_, eo, rfl, rfl⟩, fun b hb => ?_, ?_⟩
                  · have e : b = it := by simpa using hb
                    rw [e]; exact f3
                  · rw [hK]
                    refine q' _ (w2.outer w1) H2 e2.outer (st2.outer e2 st1.owns) (seq_tup ?_ (hr.mono (mono_outer e2.ux e2.own mono_refl)))
                    exact hq2.imp (fun ⟨z1, z2⟩ => ⟨z1, (fz_outer e2.ux e2.own).mp z2⟩) id
            | _ => exact (show False from q').elim
  | _ =>
    replace q := (show PostS T Wx w1 σ H1 (itM P (run P k) _ S1) R from q)
    unfold itM at q
    cases k <;> exact (show False from q).elim
theorem PI.imp {tg it : Expr} {t t' : TI} (h : PI X tg it t) (i : ∀ σ H R, t' σ H R → t σ H R) : PI X tg it t' := ⟨fun pins s σ H R I hw => h.run pins s σ H R I (i σ H R hw)⟩
def rng1M (m : Mir) : MirL := fun fr S => (m fr S).bindL fun x S1 => match x with
    | .int j => if decide (-1000000000 ≤ j) && decide (j ≤ 1000000000) then .ok (rngL 0 j.toNat) S1 else .bad
    | _ => .bad
theorem postS_if {c : Prop} [Decidable c] {r : ResL} {R : It → Hp → Prop} (h : PostS T Wx w σ H (if c then r else .bad) R) : c ∧ PostS T Wx w σ H r R := by
  by_cases q : c
  · rw [if_pos q] at h; exact ⟨q, h⟩
  · rw [if_neg q] at h; exact h.elim
theorem star_eq : ∀ {es : List Expr} {env : Env}, noStar es = true → starEach es env = es.map fun e => (false, eval e env)
  | [], _, _ => rfl
  | e :: es, env, h => by
    obtain ⟨h1, h2⟩ := star_cons (env := env) h
    rw [h1, star_eq h2]; rfl
theorem i_rng1 {tg : Expr} {p : Pos} (hg : Gl X "range") (hm : X.mg "range" = none) (ha : PE X a (tE T Wx ma)) (hn : noStar [a] = true) : PI X tg (.Call (.Name "range" p) [a] [] pos) (tI T Wx (rng1M ma)) := by
  refine PI.imp (pi_range1 hg hm (pa_cons ha pa_nil (star_cons hn).1) (star_eq hn)) fun σ H R h => ?_
  obtain ⟨w, fr, S, f, st, p⟩ := h
  refine ⟨w, fr, S, f, st, (post_bindS p).imp fun x H1 ⟨w1, d, S1, e, rx, st1, _, q⟩ => ?_⟩
  cases d with
  | int j =>
    cases rx
    obtain ⟨hj, q⟩ := postS_if (show PostS T Wx w1 σ H1 (if decide (-1000000000 ≤ j) && decide (j ≤ 1000000000) then .ok (rngL 0 j.toNat) S1 else .bad) R from q)
    obtain ⟨h1, h2⟩ := bt hj
    have h1 := of_decide_eq_true h1
    have h2 := of_decide_eq_true h2
    exact ⟨j, rfl, by omega, by omega, q _ w1 H1 .refl st1 seq_rng⟩
  | _ => exact (show False from q).elim
def rng2M (ma mb : Mir) : MirL := fun fr S => (ma fr S).bindL fun x S1 => (mb fr S1).bindL fun y S2 => match x, y with
    | .int i, .int j => if decide (-1000000000 ≤ i) && decide (i ≤ 1000000000) && decide (-1000000000 ≤ j) && decide (j ≤ 1000000000) then .ok (rngL i (j - i).toNat) S2 else .bad
    | _, _ => .bad
theorem i_rng2 {tg : Expr} {p : Pos} (hg : Gl X "range") (hm : X.mg "range" = none) (ha : PE X a (tE T Wx ma)) (hb : PE X b (tE T Wx mb)) (hn : noStar [a, b] = true) : PI X tg (.Call (.Name "range" p) [a, b] [] pos) (tI T Wx (rng2M ma mb)) := by
  have hn2 := (star_cons (env := X.env) hn).2
  refine PI.imp (pi_range2 hg hm (pa_cons ha (pa_cons hb pa_nil (star_cons hn2).1) (star_cons hn).1) (star_eq hn) (star_eq hn2)) fun σ H R h => ?_
  obtain ⟨w, fr, S, f, st, p⟩ := h
  refine ⟨w, fr, S, f, st, (post_bindS p).imp fun x H1 ⟨w1, d, S1, e, rx, st1, _, q⟩ => ?_⟩
  refine ⟨w1, fr, S1, f.mono e st, st1, (post_bindS q).imp fun y H2 ⟨w2, d2, S2, e2, ry, st2, _, q2⟩ => ?_⟩
  cases d with
  | int i =>
    cases d2 with
    | int j =>
      cases rx; cases ry
      obtain ⟨hj, q⟩ := postS_if (show PostS T Wx w2 σ H2 (if decide (-1000000000 ≤ i) && decide (i ≤ 1000000000) && decide (-1000000000 ≤ j) && decide (j ≤ 1000000000) then .ok (rngL i (j - i).toNat) S2 else .bad) R from q2)
      obtain ⟨h3, h4⟩ := bt hj
      obtain ⟨h5, h6⟩ := bt h3
      obtain ⟨h7, h8⟩ := bt h5
      have h4 := of_decide_eq_true h4
      have h6 := of_decide_eq_true h6
      have h7 := of_decide_eq_true h7
      have h8 := of_decide_eq_true h8
      exact ⟨i, j, rfl, ⟨by omega, by omega, by omega, by omega⟩, q _ w2 H2 .refl st2 seq_rng⟩
    | _ => exact (show False from q2).elim
  | _ => exact (show False from q2).elim
def enM (m : Mir) : MirL := fun fr S => (m fr S).bindL fun x S1 => match x with
    | .lst l => .ok (enumL 0 l) S1
    | _ => .bad
theorem i_enum (hK : X.K = T.K) {elts : List Expr} {kk : Nat} {tpos p : Pos} (hg : Gl X "enumerate") (hm : X.mg "enumerate" = none) (ha : PE X a (tE T Wx ma)) (hn : noStar [a] = true) : PI X (.Tuple elts kk tpos) (.Call (.Name "enumerate" p) [a] [] pos) (tI T Wx (enM ma)) := by
  refine PI.imp (pi_enum hg hm (pa_cons ha pa_nil (star_cons hn).1) (star_eq hn)) fun σ H R h => ?_
  obtain ⟨w, fr, S, f, st, p⟩ := h
  refine ⟨w, fr, S, f, st, (post_bindS p).imp fun x H1 ⟨w1, d, S1, e, rx, st1, _, q⟩ => ?_⟩
  cases d with
  | lst l =>
    obtain ⟨aa, vs, rfl, hq, hr⟩ := rx.lstF
    rw [hK]
    exact ⟨aa, vs, rfl, sq_stay hq mono_refl, q _ w1 H1 .refl st1 (seq_enum hq hr)⟩
  | _ => exact (show False from q).elim
def zipM (ma mb : Mir) : MirL := fun fr S => (ma fr S).bindL fun x S1 => (mb fr S1).bindL fun y S2 => match elems x, elems y with
    | some l, some r => .ok (zipL l r) S2
    | _, _ => .bad
theorem walk_k {k1 k2 : Bool} {K : PySem.W.Frag} {a b : Addr} {xs ys : List V} {n : Nat} (hn : n = min xs.length ys.length) : Walk (ItK k1 k2 K a b) n (fun H => KS k1 K H a xs ∧ KS k2 K H b ys) (YPair (fun i => xs[i]?) (fun i => ys[i]?)) := by
  subst hn
  refine ⟨fun i _ hi q => ?_, fun _ q => ⟨xs, ys, q.1, q.2, by omega⟩, fun i H v H' _ q ⟨T, x, z, h1, h2, h3, h4, h5⟩ => ⟨T, x, z, h1, h2, h3, h4 xs q.1, h5 ys q.2⟩⟩
  have h1 : i < xs.length := by omega
  have h2 : i < ys.length := by omega
  exact ⟨xs, ys, xs[i], ys[i], q.1, q.2, by simp [h1], by simp [h2]⟩
theorem seq_zipK {k1 k2 : Bool} {a b : Addr} {vs us : List V} {ds es : List D} (h : ∀ w' H', Mono w H w' H' → KS k1 T.K H' a vs) (h' : ∀ w' H', Mono w H w' H' → KS k2 T.K H' b us) (r : Reps T w H vs ds) (r' : Reps T w H us es) : Seq T w H (ItK k1 k2 T.K a b) (zipL ds es) := by
  refine ⟨fun H => KS k1 T.K H a vs ∧ KS k2 T.K H b us, _, walk_k (by rw [zipL_len, r.length, r'.length]), fun w' H' e => ⟨h w' H' e, h' w' H' e⟩, fun i x d w' H' H'' S e st ⟨T0, u, v, hx, hn, hh, h1, h2⟩ hd => ?_⟩
  subst hx
  subst hh
  obtain ⟨d', h3, h4⟩ := r.getV h1
  obtain ⟨e', h5, h6⟩ := r'.getV h2
  rw [zipL_get, h3, h5] at hd
  cases hd
  exact new_pair st hn (h4.mono e) (h6.mono e)
theorem Rep.kF {x : V} {d : D} {ds : List D} (r : Rep T w H x d) (h : elems d = some ds) : ∃ k a vs, x = .ref a ∧ (∀ w' H', Mono w H w' H' → KS k T.K H' a vs) ∧ Reps T w H vs ds := by
  cases d with
  | lst l =>
    cases h
    obtain ⟨a, vs, e, hq, hr⟩ := r.lstF
    exact ⟨false, a, vs, e, fun w' H' m => sq_stay hq m, hr⟩
  | tup l =>
    cases h
    obtain ⟨a, vs, e, hq, hr⟩ := r.tupF
    exact ⟨true, a, vs, e, fun w' H' m => st_stay hq m, hr⟩
  | _ => cases h
theorem i_zip (hK : X.K = T.K) {elts : List Expr} {kk : Nat} {tpos p : Pos} (hg : Gl X "zip") (hm : X.mg "zip" = none) (ha : PE X a (tE T Wx ma)) (hb : PE X b (tE T Wx mb)) (hn : noStar [a, b] = true) : PI X (.Tuple elts kk tpos) (.Call (.Name "zip" p) [a, b] [] pos) (tI T Wx (zipM ma mb)) := by
  have hn2 := (star_cons (env := X.env) hn).2
  refine PI.imp (pi_zipK hg hm (pa_cons ha (pa_cons hb pa_nil (star_cons hn2).1) (star_cons hn).1) (star_cons hn).1 (star_any hn2)) fun σ H R h => ?_
  obtain ⟨w, fr, S, f, st, p⟩ := h
  refine ⟨w, fr, S, f, st, (post_bindS p).imp fun x H1 ⟨w1, d, S1, e, rx, st1, _, q⟩ => ?_⟩
  refine ⟨w1, fr, S1, f.mono e st, st1, (post_bindS q).imp fun y H2 ⟨w2, d2, S2, e2, ry, st2, _, q2⟩ => ?_⟩
  have rx := rx.mono (e2.mono (.inl rfl))
  rw [hK]
  cases e3 : elems d with
  | none => rw [e3] at q2; exact (show False from q2).elim
  | some l =>
    cases e4 : elems d2 with
    | none => rw [e3, e4] at q2; exact (show False from q2).elim
    | some l2 =>
      rw [e3, e4] at q2
      obtain ⟨k1, aa, vs, rfl, hq, hr⟩ := rx.kF e3
      obtain ⟨k2, bb, us, rfl, hq2, hr2⟩ := ry.kF e4
      exact ⟨k1, k2, aa, bb, vs, us, rfl, hq _ _ mono_refl, hq2 _ _ mono_refl, q2 _ w2 H2 .refl st2 (seq_zipK hq hq2 hr hr2)⟩
end
end Mi
end

section
set_option maxRecDepth 100000
set_option maxHeartbeats 1000000
/-! Mi: comprehensions. -/
namespace Mi
open PySem PySem.Spec L2 PyProof.Rows
section
variable {T : Tb} {P : Pg} {k : Nat} {Wx : WX} {X : Cx} {pins : List (Addr × Obj)} {σ : L2.St} {H : Hp} {s : Shared} {Q : VK} {w : Wl} {S : Store} {a b c : Expr} {ma mb mc : Mir} {ml mr : MirL} {pos : Pos} {es : List Expr} {cl : Call}
theorem Mono.trans {w w1 w2 : Wl} {H H1 H2 : Hp} (a : Mono w H w1 H1) (b : Mono w1 H1 w2 H2) : Mono w H w2 H2 :=
  ⟨fun c u nt h f => let ⟨h1, f1⟩ := a.fz c u nt h f; b.fz c u nt h1 f1, fun n c h => (a.cell n c h).elim (fun z => b.cell n c z) fun z => .inr (b.dead n z), fun n h => b.dead n (a.dead n h)⟩
theorem FrOk.to {fr : Fr} {w' : Wl} {H' : Hp} (f : FrOk T w H σ fr) (m : Mono w H w' H') (ho : w'.own = w.own) (hk : ∀ x u, (∀ ps, u ≠ HO.tbl ps) → w.own = some x → H x = some u → H' x = some u) : FrOk T w' H' σ fr := by
  refine ⟨f.len, fun i d h => ?_, ?_⟩
  · obtain ⟨v, h1, h2⟩ := f.slot i d h
    exact ⟨v, h1, h2.mono m⟩
  · have sf := f.self
    cases hs : fr.self with
    | none => rw [hs] at sf; exact ho.trans sf
    | some p =>
      obtain ⟨n, fs⟩ := p
      rw [hs] at sf
      obtain ⟨x, dx, vs, h1, h2, h3, h4⟩ := sf
      exact ⟨x, dx, vs, ho.trans h1, h2, hk x _ (fun _ z => by cases z) h1 h3, h4.mono m⟩
theorem wipeD_length (σd : List (Option D)) : ∀ vs : List Nat, (wipeD σd vs).length = σd.length
  | [] => rfl
  | v :: vs => by unfold wipeD; rw [List.length_set, wipeD_length σd vs]
theorem wipe_ne {σ : L2.St} {j : Nat} : ∀ {vs : List Nat}, j ∉ vs → (wipe σ vs)[j]? = σ[j]?
  | [], _ => rfl
  | v :: vs, h => by
    unfold wipe
    rw [List.getElem?_set_ne fun z => h (by rw [z]; exact List.mem_cons_self)]
    exact wipe_ne fun z => h (List.mem_cons_of_mem _ z)
theorem wipeD_ne {σd : List (Option D)} {j : Nat} : ∀ {vs : List Nat}, j ∉ vs → (wipeD σd vs)[j]? = σd[j]?
  | [], _ => rfl
  | v :: vs, h => by
    unfold wipeD
    rw [List.getElem?_set_ne fun z => h (by rw [z]; exact List.mem_cons_self)]
    exact wipeD_ne fun z => h (List.mem_cons_of_mem _ z)
theorem wipe_in {σ : L2.St} {j : Nat} : ∀ {vs : List Nat}, j ∈ vs → j < σ.length → (wipe σ vs)[j]? = some none
  | v :: vs, h, hl => by
    unfold wipe
    by_cases z : v = j
    · rw [z, List.getElem?_set_self (by rw [wipe_length]; exact hl)]
    · rw [List.getElem?_set_ne z]
      rcases List.mem_cons.mp h with q | q
      · exact absurd q.symm z
      · exact wipe_in q hl
theorem wipeD_in {σd : List (Option D)} {j : Nat} : ∀ {vs : List Nat}, j ∈ vs → j < σd.length → (wipeD σd vs)[j]? = some none
  | v :: vs, h, hl => by
    unfold wipeD
    by_cases z : v = j
    · rw [z, List.getElem?_set_self (by rw [wipeD_length]; exact hl)]
    · rw [List.getElem?_set_ne z]
      rcases List.mem_cons.mp h with q | q
      · exact absurd q.symm z
      · exact wipeD_in q hl
theorem FrOk.wipe {fr : Fr} {vs : List Nat} (f : FrOk T w H σ fr) (h0 : (fr.self.isSome && vs.contains 0) = false) : FrOk T w H (wipe σ vs) ⟨wipeD fr.σ vs, fr.self⟩ := by
  refine ⟨by rw [wipe_length]; show (wipeD fr.σ vs).length = _; rw [wipeD_length]; exact f.len, fun i d h => ?_, ?_⟩
  · have h' : (wipeD fr.σ vs)[i]? = some (some d) := h
    by_cases q : i ∈ vs
    · have hl : i < fr.σ.length := by have := (List.getElem?_eq_some_iff.mp h').1; rw [wipeD_length] at this; exact this
      rw [wipeD_in q hl] at h'; cases h'
    · rw [wipeD_ne q] at h'
      obtain ⟨v, h1, h2⟩ := f.slot i d h'
      exact ⟨v, by rw [wipe_ne q]; exact h1, h2⟩
  · have sf := f.self
    show SelfOk T w H (L2.wipe σ vs) fr.self
    cases hs : fr.self with
    | none => rw [hs] at sf; exact sf
    | some p =>
      obtain ⟨n, fs⟩ := p
      rw [hs] at sf h0
      obtain ⟨x, dx, us, h1, h2, h3, h4⟩ := sf
      have q : 0 ∉ vs := by simpa using h0
      exact ⟨x, dx, us, h1, by rw [wipe_ne q]; exact h2, h3, h4⟩
theorem wipe_agr {σ σ' : L2.St} {vs ss : List Nat} (a : Agr ss (wipe σ vs) σ') (h : ∀ j, j ∈ ss → j ∈ vs) : wipe σ' vs = wipe σ vs := by
  apply List.ext_getElem?
  intro j
  have hl : σ'.length = σ.length := by rw [a.1, wipe_length]
  by_cases q : j ∈ vs
  · by_cases hj : j < σ.length
    · rw [wipe_in q (by rw [hl]; exact hj), wipe_in q hj]
    · rw [List.getElem?_eq_none (by rw [wipe_length]; omega), List.getElem?_eq_none (by rw [wipe_length]; omega)]
  · rw [wipe_ne q, a.2 j fun z => q (h j z)]
/-- .. while others build at D -/
def Wl.pushU (D0 : Addr) (w : Wl) : Wl := ⟨w.cs, D0 :: w.ux, w.own⟩
def Wl.popU (w0 w : Wl) : Wl := ⟨w.cs, w0.ux, w0.own⟩
theorem push_ok {D0 : Addr} {o : HO} (ho : ∀ ps, o ≠ .tbl ps) (st : StOk T w H S) (hD : H D0 = none) : Mono w H (w.pushU D0) (upd H D0 o) ∧ StOk T (w.pushU D0) (upd H D0 o) S := by
  have e0 := ext_new (w := w) (o := o) hD
  have m : Mono w H (w.pushU D0) (upd H D0 o) := by
    refine ⟨fun b u nt hb hf => ⟨(e0.mono (.inl rfl)).fz b u nt hb hf |>.1, hf.1, fun hm => ?_, hf.2.2⟩, fun _ _ h => .inl h, fun _ h => h⟩
    rcases List.mem_cons.mp hm with z | z
    · rw [z, hD] at hb; cases hb
    · exact hf.2.1 z
  refine ⟨m, st.len, fun n c hc a? ha => (st.at_ n c hc a? ha).mono m fun b eb => upd_ne fun z => ?_, st.inj, fun n b hb => ⟨fun hm => ?_, (st.dis n b hb).2⟩, fun b hb => ?_, fun b hb => e0.there b (st.owns b hb), (st.new hD).tabs⟩
  · subst eb; exact st.cellH ha (by rw [z]; exact hD)
  · rcases List.mem_cons.mp hm with z | z
    · exact st.cellH hb (by rw [z]; exact hD)
    · exact (st.dis n b hb).1 z
  · rcases List.mem_cons.mp hb with z | z
    · rw [z]; exact nt_same ho
    · exact e0.there b (st.uxs b z)
/-- what a comprehension gives of an item -/
def turnM (p : Pat) (own : List Nat) (mt me : Mir) (fr : Fr) : D → Store → ResO := fun d S2 => match putP fr.self.isSome p d (wipeD fr.σ own) with
      | some σ' => (match mt ⟨σ', fr.self⟩ S2 with
        | .ok (.bl true) S3 => (match me ⟨σ', fr.self⟩ S3 with
          | .ok e S4 => .ok (some e) S4
          | _ => .bad)
        | .ok (.bl false) S3 => .ok none S3
        | _ => .bad)
      | none => .bad
def compMir (p : Pat) (own : List Nat) (mi : MirL) (mt me : Mir) : Mir := fun fr S => if fr.self.isSome && own.contains 0 then .bad else (mi fr S).bind fun l S1 =>
    (compM (turnM p own mt me fr) l [] S1).bind fun ds S2 => .ok (.lst ds) S2
def tTs (T : Tb) (Wx : WX) (m : Mir) : TT := fun σ H Q => tE T Wx m σ H (fun v H' => ∃ b, v = .bl b ∧ Q b H')
theorem ts_nil : PTs X [] (tTs T Wx fun _ S => .ok (.bl true) S) := ⟨fun pins s σ H Q I h => pts_nil.run pins s σ H Q I (by
  obtain ⟨w, fr, S, f, st, p⟩ := h
  obtain ⟨b, e, q⟩ := post_ok (v := .bl true) p (.bl _) st
  cases e
  exact q)⟩
theorem ts_one {m : Mir} (h : PT X c (tT T Wx m)) : PTs X [c] (tTs T Wx (tru m)) := pts_one h
theorem postS_of {r : ResL} {kk : List D → Store → Res} (h : PostE T Wx w σ H (r.bind kk) Q) : PostS T Wx w σ H r (fun J H1 => ∃ w1 l S1, Ext none w H w1 H1 ∧ StOk T w1 H1 S1 ∧ Seq T w1 H1 J l ∧ r = .ok l S1 ∧ PostE T Wx w1 σ H1 (kk l S1) Q) := by
  cases r with
  | ok d S => exact fun J w' H' e st sq => ⟨w', d, S, e, st, sq, rfl, PostE.later e h⟩
  | exc c fs S => exact h
  | bad => exact h
theorem Ext.weak1 {o : Option Addr} {w w' : Wl} {H H' : Hp} (e : Ext none w H w' H') : Ext o w H w' H' := e.weak
def noX : WX := fun _ _ _ _ => False
theorem t_comp {J : It} {l : List D} {p : Pat} {own : List Nat} {mt me : Mir} {fr : Fr} {D0 : Addr} (hsub : ∀ j, j ∈ patSlots p → j ∈ own) (f : FrOk T w H σ fr) (st : StOk T w H S) (hself : (fr.self.isSome && own.contains 0) = false) (sq : Seq T w H J l) (hD : H D0 = none)
    (hp : PostE T Wx w σ H ((compM (turnM p own mt me fr) l [] S).bind fun ds S2 => .ok (.lst ds) S2) Q) :
    ∃ W : Nat → Nat → Hp → Prop, (∃ m, W 0 m (upd H D0 (.lst []))) ∧ ∀ i m H, W i m H →
      (J.stop i H ∧ Q (.ref D0) H) ∨ (J.go i H ∧ ∃ Nx : Hp → Prop, (∀ H', Nx H' → ∃ m', m' < m ∧ W (i + 1) m' H') ∧ ∀ x H', J.yld i H x H' → gP T p x (wipe σ own) H' fun σ2 H2 => wipe σ2 own = wipe σ own ∧ tTs T noX mt σ2 H2 fun b H3 =>
        if b = true then tE T noX me σ2 H3 fun y H4 => ∃ acc, H4 D0 = some (.lst acc) ∧ acc.length < sizeLine ∧ Nx (upd H4 D0 (.lst (acc ++ [y]))) else Nx H3) := by
  obtain ⟨G, Y, wk, g1, g2⟩ := sq
  obtain ⟨mD, stD⟩ := push_ok (o := HO.lst []) lst_nt st hD
  have nb : compM (turnM p own mt me fr) l [] S ≠ .bad := by intro z; rw [z] at hp; exact hp
  generalize hr0 : compM (turnM p own mt me fr) l [] S = r0 at hp nb
  have hDw : D0 ∉ w.ux := fun z => (st.uxs D0 z).ne hD
  have hDo : w.own ≠ some D0 := fun z => (st.owns D0 z).ne hD
  have hDc : ∀ n : Nat, w.cs[n]? ≠ some (some D0) := fun n z => st.cellH z hD
  -- what stands at each turn
  refine lc_it (n := l.length) wk (fun i H1 => ∃ w1 vs acc S1, Ext (some D0) (w.pushU D0) (upd H D0 (.lst [])) w1 H1 ∧ StOk T w1 H1 S1 ∧ H1 D0 = some (.lst vs) ∧ Reps T w1 H1 vs acc ∧ compM (turnM p own mt me fr) (l.drop i) acc S1 = r0) ?_ ?_ ?_ ?_
  · exact ⟨w.pushU D0, [], [], S, .refl, stD, upd_same, .nil, by rw [List.drop_zero]; exact hr0⟩
  · rintro i H1 hi ⟨w1, vs, acc, S1, e1, st1, h1, r1, eq⟩
    exact g1 w1 H1 (mD.trans (e1.mono (.inr (.inr ⟨D0, rfl, List.mem_cons_self⟩))))
  · rintro i x H1 H2 hi ⟨w1, vs, acc, S1, e1, st1, h1, r1, eq⟩ hy
    have m1 := mD.trans (e1.mono (.inr (.inr ⟨D0, rfl, List.mem_cons_self⟩)))
    obtain ⟨e2, st2, rx⟩ := g2 i x l[i] w1 H1 H2 S1 m1 st1 hy (by simp [hi])
    have hux1 : w1.ux = D0 :: w.ux := e1.ux
    have cD1 : ∀ n : Nat, w1.cs[n]? ≠ some (some D0) := e1.fresh D0 (nt_same lst_nt) hDc
    rw [List.drop_eq_getElem_cons hi] at eq
    unfold compM at eq
    have nb' := nb
    rw [← eq] at nb'
    split at eq
    · rename_i hlim
      rw [if_pos hlim] at nb'
      -- the turn
      have f1 : FrOk T w1 H2 σ fr := by
        refine f.to (m1.trans (e2.mono (.inl rfl))) (e2.own.trans e1.own) fun xx u nt ho hh => ?_
        have ne : xx ≠ D0 := fun z => hDo (by rw [ho, z])
        have h2 : (upd H D0 (.lst [])) xx = some u := by rw [upd_ne ne]; exact hh
        have h3 := e1.keep xx u h2 (fun n z => (st.dis n xx z).2 ho) (fun z => ne (by cases z; rfl)) (.inl nt)
        exact e2.keep xx u h3 (fun n z => (st1.dis n xx z).2 (e1.own.trans ho)) (fun z => nomatch z) (.inl nt)
      have fw := f1.wipe hself
      have h12 : H2 D0 = some (.lst vs) := e2.keep D0 _ h1 cD1 (fun z => nomatch z) (.inl fun _ z => by cases z)
      cases hput : putP fr.self.isSome p l[i] (wipeD fr.σ own) with
      | none => simp only [turnM, hput] at nb'; exact absurd rfl nb'
      | some σ1 =>
        refine ⟨w1, ⟨wipeD fr.σ own, fr.self⟩, l[i], σ1, fw, rx, hput, fun σ' ag f' => ⟨wipe_agr ag hsub, w1, ⟨σ1, fr.self⟩, S1, f', st2, ?_⟩⟩
        have hx1 : w1.ux = D0 :: w.ux := e1.ux
        cases hmt : mt ⟨σ1, fr.self⟩ S1 with
        | exc _ _ _ => simp only [turnM, hput, hmt] at nb'; exact absurd rfl nb'
        | bad => simp only [turnM, hput, hmt] at nb'; exact absurd rfl nb'
        | ok t S3 =>
          cases t with
          | bl bb =>
            intro v w3 H3 e3 rv st3
            cases rv
            refine ⟨bb, rfl, ?_⟩
            have cD2 : ∀ n : Nat, w3.cs[n]? ≠ some (some D0) := e3.fresh D0 ⟨_, h12, lst_nt⟩ cD1
            have h13 : H3 D0 = some (.lst vs) := e3.keep D0 _ h12 cD1 (fun z => nomatch z) (.inl fun _ z => by cases z)
            cases bb with
            | false =>
              simp only [Bool.false_eq_true, if_false]
              simp only [turnM, hput, hmt] at eq
              exact ⟨w3, vs, acc, S3, (e1.trans e2.weak1).trans e3.weak1, st3, h13, (r1.mono (e2.mono (.inl rfl))).mono (e3.mono (.inl rfl)), eq⟩
            | true =>
              simp only [if_true]
              cases hme : me ⟨σ1, fr.self⟩ S3 with
              | exc _ _ _ => simp only [turnM, hput, hmt, hme] at nb'; exact absurd rfl nb'
              | bad => simp only [turnM, hput, hmt, hme] at nb'; exact absurd rfl nb'
              | ok y S4 =>
                refine ⟨w3, ⟨σ1, fr.self⟩, S3, f'.mono e3 st2, st3, ?_⟩
                rw [hme]
                intro yv w4 H4 e4 ry st4
                have h14 : H4 D0 = some (.lst vs) := e4.keep D0 _ h13 cD2 (fun z => nomatch z) (.inl fun _ z => by cases z)
                have r4 := ((r1.mono (e2.mono (.inl rfl))).mono (e3.mono (.inl rfl))).mono (e4.mono (.inl rfl))
                have cD3 : ∀ n : Nat, w4.cs[n]? ≠ some (some D0) := e4.fresh D0 ⟨_, h13, lst_nt⟩ cD2
                have hux4 : w4.ux = D0 :: w.ux := by rw [e4.ux, e3.ux]; exact hx1
                have e5 : Ext (some D0) w4 H4 w4 (upd H4 D0 (.lst (vs ++ [yv]))) := by
                  refine ⟨Nat.le_refl _, fun b u hb _ ho _ => by rw [upd_ne fun z => ho (by rw [z])]; exact hb, fun b hb => nt_upd lst_nt hb, fun _ _ h => h, fun _ _ h => .inl h, fun _ h => h, rfl, rfl⟩
                have m5 := e5.mono (.inr (.inr ⟨D0, rfl, by rw [hux4]; exact List.mem_cons_self⟩))
                have hlv : vs.length < sizeLine := by
                  have := lim_line
                  rw [r1.length]; omega
                refine ⟨vs, h14, hlv, w4, vs ++ [yv], acc ++ [y], S4, (((e1.trans e2.weak1).trans e3.weak1).trans e4.weak1).trans e5, ?_, upd_same, (r4.append (.single ry)).mono m5, ?_⟩
                · exact st4.same m5 (fun n b hb => upd_ne fun z => cD3 n (by rw [← z]; exact hb)) e5.there (tabs_upd st4.tabs h14 (fun _ z => by cases z) lst_code)
                · simp only [turnM, hput, hmt, hme] at eq
                  exact eq
          | _ => simp only [turnM, hput, hmt] at nb'; exact absurd rfl nb'
    · rename_i hlim
      rw [if_neg hlim] at nb'
      exact absurd rfl nb'
  · rintro H1 ⟨w1, vs, acc, S1, e1, st1, h1, r1, eq⟩
    rw [List.drop_length] at eq
    have eq' : r0 = .ok acc S1 := eq.symm
    rw [eq'] at hp
    have hx1 : w1.ux = D0 :: w.ux := e1.ux
    have cD1 : ∀ n : Nat, w1.cs[n]? ≠ some (some D0) := e1.fresh D0 (nt_same lst_nt) hDc
    have mp : Mono w1 H1 (w.popU w1) H1 := ⟨fun b u _ hb hf => ⟨hb, hf.1, fun z => hf.2.1 (by rw [hx1]; exact List.mem_cons_of_mem _ z), fun z => hf.2.2 (e1.own.trans z)⟩, fun _ _ h => .inl h, fun _ h => h⟩
    have ef : Ext none w H (w.popU w1) H1 := by
      refine ⟨e1.len, fun b u hb hn _ nt => ?_, fun b hb => ?_, fun b hb hn => ?_, e1.cell, e1.dead, rfl, rfl⟩
      · have ne : b ≠ D0 := fun z => by rw [z, hD] at hb; cases hb
        exact e1.keep b u (by rw [upd_ne ne]; exact hb) hn (fun z => ne (by cases z; rfl)) nt
      · exact e1.there b (nt_upd lst_nt hb)
      · exact e1.fresh b (nt_upd lst_nt hb) hn
    refine hp (.ref D0) (w.popU w1) H1 ef (.lst h1 ⟨cD1, hDw, hDo⟩ (r1.mono mp)) ?_
    exact ⟨st1.len, fun n c hc a? ha => (st1.at_ n c hc a? ha).mono mp fun _ _ => rfl, st1.inj, fun n b hb => ⟨fun z => (st1.dis n b hb).1 (by rw [hx1]; exact List.mem_cons_of_mem _ z), fun z => (st1.dis n b hb).2 (e1.own.trans z)⟩,
      fun b hb => st1.uxs b (by rw [hx1]; exact List.mem_cons_of_mem _ hb), fun b hb => st1.owns b (e1.own.trans hb), st1.tabs⟩
theorem tI_comp {p : Pat} {own : List (Str × Nat)} {mi : MirL} {mt me : Mir} (hsub : ∀ j, j ∈ patSlots p → j ∈ own.map (·.2)) (h : tE T Wx (compMir p (own.map (·.2)) mi mt me) σ H Q) : tLc (tI T Wx mi) (gP T p) (tTs T noX mt) (tE T noX me) (own.map (·.2)) σ H Q := by
  obtain ⟨w, fr, S, f, st, p0⟩ := h
  unfold compMir at p0
  by_cases hself : (fr.self.isSome && (own.map (·.2)).contains 0) = true
  · rw [if_pos hself] at p0; exact p0.elim
  · rw [if_neg hself] at p0
    have hs2 : (fr.self.isSome && (own.map (·.2)).contains 0) = false := by simpa using hself
    have q := postS_of p0
    refine ⟨w, fr, S, f, st, ?_⟩
    cases hr : mi fr S with
    | ok l S1 =>
      rw [hr] at q
      intro J w1 H1 e1 st1 sq D0 hD
      obtain ⟨w2, l2, S2, e2, st2, sq2, er, p2⟩ := q J w1 H1 e1 st1 sq
      cases er
      exact t_comp hsub (f.mono e2 st) st2 hs2 sq2 hD p2
    | exc c fs S1 => rw [hr] at q; exact q
    | bad => rw [hr] at q; exact q.elim
theorem m_comp {elt tg iter : Expr} {ifs : List Expr} {scope : Scope} {own : List (Str × Nat)} {p : Pat} {mi : MirL} {mt me : Mir} (hc : X.calm = true) (hN : X.N.Nodup) (hi : PI X tg iter (tI T Wx mi)) (ok : BlkOk X.N X.env.scope scope own)
    (hg : ∀ (s : Shared) (H : Hp) (C : Addr) (cl : List (Str × Addr)) (fp : List Addr), PG (X.blk s H scope (compEnvC scope cl C X.env) fp) tg (gP T p)) (ht : ∀ (s : Shared) (H : Hp) (C : Addr) (cl : List (Str × Addr)) (fp : List Addr), PTs (X.blk s H scope (compEnvC scope cl C X.env) fp) ifs (tTs T noX mt))
    (he : ∀ (s : Shared) (H : Hp) (C : Addr) (cl : List (Str × Addr)) (fp : List Addr), PE (X.blk s H scope (compEnvC scope cl C X.env) fp) elt (tE T noX me)) (hs : ∀ x, foldedSetIterable iter X.env x = pure x) (hsub : ∀ j, j ∈ patSlots p → j ∈ own.map (·.2)) :
    PE X (.ListComp elt [⟨tg, iter, ifs, 0⟩] scope pos) (tE T Wx (compMir p (own.map (·.2)) mi mt me)) :=
  PE.imp (pe_lc hc hN hi ok hg ht he hs) fun σ H Q h => tI_comp hsub h
end
end Mi
end

section
set_option maxRecDepth 100000
set_option maxHeartbeats 1000000
/-! Mi: statements. -/
namespace Mi
open PySem PySem.Spec L2 PyProof.Rows
section
variable {T : Tb} {P : Pg} {k : Nat} {Wx : WX} {X : Cx} {pins : List (Addr × Obj)} {σ : L2.St} {H : Hp} {s : Shared} {Q : VK} {w : Wl} {S : Store} {a b c : Expr} {ma mb mc : Mir} {ml mr : MirL} {pos : Pos} {es : List Expr} {cl : Call} {D0 : Ends}
abbrev MirS := Fr → Store → Out
def PostO (T : Tb) (Wx : WX) (w : Wl) (H : Hp) (D0 : Ends) (r : Out) : Prop := match r with
  | .nx fr S' => ∀ σ' w' H', Ext w.own w H w' H' → FrOk T w' H' σ' fr → StOk T w' H' S' → D0.nx σ' H'
  | .brk fr S' => ∀ σ' w' H', Ext w.own w H w' H' → FrOk T w' H' σ' fr → StOk T w' H' S' → D0.bk σ' H'
  | .cont fr S' => ∀ σ' w' H', Ext w.own w H w' H' → FrOk T w' H' σ' fr → StOk T w' H' S' → D0.ct σ' H'
  | .ret d fr S' => ∀ v σ' w' H', Ext w.own w H w' H' → FrOk T w' H' σ' fr → Rep T w' H' v d → StOk T w' H' S' → D0.rt v H'
  | .exc c fs fr S' => ∀ cls dd σ' w' H', Ext w.own w H w' H' → FrOk T w' H' σ' fr → ExcOk T w' H' cls dd c fs → StOk T w' H' S' → Wx cls dd σ' H'
  | .bad => False
def tS (T : Tb) (Wx : WX) (m : MirS) : TS := fun D0 σ H => ∃ w fr S, FrOk T w H σ fr ∧ StOk T w H S ∧ PostO T Wx w H D0 (m fr S)
theorem PostO.later {r : Out} {w1 : Wl} {H1 : Hp} (e : Ext w.own w H w1 H1) (h : PostO T Wx w H D0 r) : PostO T Wx w1 H1 D0 r := by
  have ho := e.own
  cases r with
  | nx fr S => exact fun σ' w' H' e' f st => h σ' w' H' (e.trans (ho ▸ e')) f st
  | brk fr S => exact fun σ' w' H' e' f st => h σ' w' H' (e.trans (ho ▸ e')) f st
  | cont fr S => exact fun σ' w' H' e' f st => h σ' w' H' (e.trans (ho ▸ e')) f st
  | ret d fr S => exact fun v σ' w' H' e' f r st => h v σ' w' H' (e.trans (ho ▸ e')) f r st
  | exc c fs fr S => exact fun cls dd σ' w' H' e' f r st => h cls dd σ' w' H' (e.trans (ho ▸ e')) f r st
  | bad => exact h
theorem post_bindO {fr : Fr} {r : Res} {kk : D → Store → Out} (f : FrOk T w H σ fr) (st : StOk T w H S) (h : PostO T Wx w H D0 (r.bindO fr kk)) : PostE T Wx w σ H r (fun v H1 => ∃ w1 d S1, Ext none w H w1 H1 ∧ Rep T w1 H1 v d ∧ StOk T w1 H1 S1 ∧ PostO T Wx w1 H1 D0 (kk d S1)) := by
  cases r with
  | ok d S => exact fun v w' H' e rv st' => ⟨w', d, S, e, rv, st', PostO.later e.weak h⟩
  | exc c fs S => exact fun cls dd w' H' e ex st' => h cls dd σ w' H' e.weak (f.mono e st) ex st'
  | bad => exact h
theorem post_bindOL {fr : Fr} {r : ResL} {kk : List D → Store → Out} (f : FrOk T w H σ fr) (st : StOk T w H S) (h : PostO T Wx w H D0 (r.bindO fr kk)) : PostL T Wx w σ H r (fun vs H1 => ∃ w1 ds S1, Ext none w H w1 H1 ∧ Reps T w1 H1 vs ds ∧ StOk T w1 H1 S1 ∧ PostO T Wx w1 H1 D0 (kk ds S1)) := by
  cases r with
  | ok d S => exact fun v w' H' e rv st' => ⟨w', d, S, e, rv, st', PostO.later e.weak h⟩
  | exc c fs S => exact fun cls dd w' H' e ex st' => h cls dd σ w' H' e.weak (f.mono e st) ex st'
  | bad => exact h
theorem PS.imp {st : Stmt} {t t' : TS} (h : PS X st t) (i : ∀ D0 σ H, t' D0 σ H → t D0 σ H) : PS X st t' := ⟨fun pins s σ H D0 I hw => h.run pins s σ H D0 I (i D0 σ H hw)⟩
theorem PSs.imp {st : List Stmt} {t t' : TS} (h : PSs X st t) (i : ∀ D0 σ H, t' D0 σ H → t D0 σ H) : PSs X st t' := ⟨fun pins s σ H D0 I hw => h.run pins s σ H D0 I (i D0 σ H hw)⟩
theorem post_nx {fr : Fr} (h : PostO T Wx w H D0 (.nx fr S)) (f : FrOk T w H σ fr) (st : StOk T w H S) : D0.nx σ H := h σ w H .refl f st
/-! ### small ones -/
theorem s_nil : PSs X [] (tS T Wx fun fr S => .nx fr S) := PSs.imp pss_nil fun D0 σ H ⟨w, fr, S, f, st, h⟩ => post_nx h f st
def seqM (m n : MirS) : MirS := fun fr S => match m fr S with
    | .nx fr' S' => n fr' S'
    | o => o
theorem s_cons {st : Stmt} {sts : List Stmt} {m n : MirS} (h1 : PS X st (tS T Wx m)) (h2 : PSs X sts (tS T Wx n)) : PSs X (st :: sts) (tS T Wx (seqM m n)) := by
  refine PSs.imp (pss_cons h1 h2) fun D0 σ H ⟨w, fr, S, f, st, h⟩ => ⟨w, fr, S, f, st, ?_⟩
  unfold seqM at h
  cases e : m fr S with
  | nx fr' S' => rw [e] at h; exact fun σ' w' H' e' f' st' => ⟨w', fr', S', f', st', PostO.later e' h⟩
  | brk _ _ => rw [e] at h; exact h
  | cont _ _ => rw [e] at h; exact h
  | ret _ _ _ => rw [e] at h; exact h
  | exc _ _ _ _ => rw [e] at h; exact h
  | bad => rw [e] at h; exact h
theorem s_pass : PS X (.Pass pos) (tS T Wx fun fr S => .nx fr S) := PS.imp ps_pass fun D0 σ H ⟨w, fr, S, f, st, h⟩ => post_nx h f st
theorem s_doc {x j pos'} : PS X (.Expr (.Constant (.str x) j pos) pos') (tS T Wx fun fr S => .nx fr S) := PS.imp ps_doc fun D0 σ H ⟨w, fr, S, f, st, h⟩ => post_nx h f st
theorem s_brk : PS X (.Break pos) (tS T Wx fun fr S => .brk fr S) := PS.imp ps_break fun D0 σ H ⟨w, fr, S, f, st, h⟩ => h σ w H .refl f st
theorem s_cont : PS X (.Continue pos) (tS T Wx fun fr S => .cont fr S) := PS.imp ps_continue fun D0 σ H ⟨w, fr, S, f, st, h⟩ => h σ w H .refl f st
theorem s_never {st : Stmt} : PS X st (tS T Wx fun _ _ => .bad) := PS.imp ps_never fun D0 σ H ⟨w, fr, S, f, st, h⟩ => h.elim
theorem s_retN : PS X (.Return none pos) (tS T Wx fun fr S => .ret .non fr S) := PS.imp ps_retN fun D0 σ H ⟨w, fr, S, f, st, h⟩ => h .non σ w H .refl f .non st
theorem s_ret (ha : PE X a (tE T Wx ma)) : PS X (.Return (some a) pos) (tS T Wx fun fr S => (ma fr S).bindO fr fun d S1 => .ret d fr S1) := by
  refine PS.imp (ps_ret ha) fun D0 σ H ⟨w, fr, S, f, st, h⟩ => ⟨w, fr, S, f, st, (post_bindO f st h).imp fun v H1 ⟨w1, d, S1, e, r, st1, q⟩ => ?_⟩
  exact q v σ w1 H1 .refl (f.mono e st) r st1
/-- no comprehension -/
def noComp : Expr → Bool
  | .ListComp .. => false | .SetComp .. => false | .DictComp .. => false
  | _ => true
theorem no_swap {e : Expr} {t : Option Expr} {l : Nat} {env : Env} (h : noComp e = true) : swapsWith e t l env = pure false := by
  cases e <;> first
    | exact absurd (show false = true from h) Bool.false_ne_true
    | rfl
theorem s_expr (ha : PE X a (tE T Wx ma)) (hn : noComp a = true) : PS X (.Expr a pos) (tS T Wx fun fr S => (ma fr S).bindO fr fun _ S1 => .nx fr S1) := by
  refine PS.imp (ps_expr ha (no_swap hn)) fun D0 σ H ⟨w, fr, S, f, st, h⟩ => ⟨w, fr, S, f, st, (post_bindO f st h).imp fun v H1 ⟨w1, d, S1, e, r, st1, q⟩ => ?_⟩
  exact post_nx q (f.mono e st) st1
def ifS (mc : Mir) (m n : MirS) : MirS := fun fr S => (mc fr S).bindO fr fun x S1 => match truth x with
    | some true => m fr S1
    | some false => n fr S1
    | none => .bad
theorem s_if {p q : List Stmt} {m n : MirS} (hc : PT X c (tT T Wx mc)) (ha : PSs X p (tS T Wx m)) (hb : PSs X q (tS T Wx n)) : PS X (.If c p q pos) (tS T Wx (ifS mc m n)) := by
  refine PS.imp (ps_if hc ha hb) fun D0 σ H ⟨w, fr, S, f, st, h⟩ => ⟨w, fr, S, f, st, ?_⟩
  unfold ifS at h
  unfold tru
  cases e : mc fr S with
  | ok x S1 =>
    rw [e] at h
    cases ht : truth x with
    | none => simp only [Res.bindO, ht] at h; exact h.elim
    | some bb =>
      simp only [Res.bindO, ht] at h
      simp only [Res.bind, ht]
      intro v w' H' e' r st'
      cases r
      refine ⟨bb, rfl, ?_⟩
      cases bb with
      | true => exact ⟨w', fr, S1, f.mono e' st, st', PostO.later e'.weak h⟩
      | false => exact ⟨w', fr, S1, f.mono e' st, st', PostO.later e'.weak h⟩
  | exc cc fs S1 =>
    rw [e] at h
    exact fun cls dd w' H' e' ex st' => h cls dd σ w' H' e'.weak (f.mono e' st) ex st'
  | bad => rw [e] at h; exact h.elim
/-! ### assignments -/
def asgM (p : Pat) (ma : Mir) : MirS := fun fr S => (ma fr S).bindO fr fun d S1 => match putP fr.self.isSome p d fr.σ with
    | some σ' => .nx ⟨σ', fr.self⟩ S1
    | none => .bad
theorem t_asg {p : Pat} (h : tS T Wx (asgM p ma) D0 σ H) : tE T Wx ma σ H (fun x H1 => gP T p x σ H1 D0.nx) := by
  obtain ⟨w, fr, S, f, st, h⟩ := h
  refine ⟨w, fr, S, f, st, (post_bindO f st h).imp fun v H1 ⟨w1, d, S1, e, r, st1, q⟩ => ?_⟩
  cases hp : putP fr.self.isSome p d fr.σ with
  | none => rw [hp] at q; exact q.elim
  | some σ1 =>
    rw [hp] at q
    exact ⟨w1, fr, d, σ1, f.mono e st, r, hp, fun σ' _ f' => post_nx q f' st1⟩
theorem each_one {tg : Expr} {env : Env} (h : plainG tg = true) : (assignEach [tg] env).map (·.2) = [assign tg env] := by rw [each_cons h]; rfl
theorem s_asg {tg : Expr} {p : Pat} (ha : PE X a (tE T Wx ma)) (hg : PG X tg (gP T p)) (hp : plainG tg = true) (hs : swapsWith a (some tg) pos.line X.env = pure false) (hw : swappedStores [tg] a X.env = pure none) : PS X (.Assign [tg] a pos) (tS T Wx (asgM p ma)) :=
  PS.imp (ps_asg ha hg hs hw (each_one hp)) fun D0 σ H h => t_asg h
/-- name = [..] on one line -/
theorem s_setLc {i : Nat} {y : Str} {py : Pos} {elt tg iter : Expr} {ifs : List Expr} {scope : Scope} {own : List (Str × Nat)} {spos : Pos} {p : Pat} {mi : MirL} {mt me : Mir} (hc : X.calm = true) (hN : X.N.Nodup) (hy : X.N[i]? = some y) (hyl : X.env.scope.names.lookup y = some .local)
    (hsw : swapsWith (.ListComp elt [⟨tg, iter, ifs, 0⟩] scope pos) (some (.Name y py)) spos.line X.env = pure true) (hi : PI X tg iter (tI T Wx mi)) (ok : BlkOk X.N X.env.scope scope own)
    (hg : ∀ (s : Shared) (H : Hp) (C : Addr) (cl : List (Str × Addr)) (fp : List Addr), PG (X.blk s H scope (compEnvC scope cl C X.env) fp) tg (gP T p)) (ht : ∀ (s : Shared) (H : Hp) (C : Addr) (cl : List (Str × Addr)) (fp : List Addr), PTs (X.blk s H scope (compEnvC scope cl C X.env) fp) ifs (tTs T noX mt))
    (he : ∀ (s : Shared) (H : Hp) (C : Addr) (cl : List (Str × Addr)) (fp : List Addr), PE (X.blk s H scope (compEnvC scope cl C X.env) fp) elt (tE T noX me)) (hs : ∀ x, foldedSetIterable iter X.env x = pure x) (hsub : ∀ j, j ∈ patSlots p → j ∈ own.map (·.2)) :
    PS X (.Assign [.Name y py] (.ListComp elt [⟨tg, iter, ifs, 0⟩] scope pos) spos) (tS T Wx (asgM (.slot i) (compMir p (own.map (·.2)) mi mt me))) := by
  refine PS.imp (ps_setLc hc hN hy hyl hsw hi ok hg ht he hs) fun D0 σ H h => ?_
  refine tI_comp hsub ?_
  obtain ⟨w, fr, S, f, st, h⟩ := t_asg h
  refine ⟨w, fr, S, f, st, h.imp fun v H1 q => ?_⟩
  obtain ⟨w1, fr1, d, σ1, f1, r1, hp, hq⟩ := q
  unfold putP at hp
  split at hp
  · rename_i q
    cases hp
    obtain ⟨q1, q2⟩ := bt q
    exact hq _ ⟨by simp, fun j hj => List.getElem?_set_ne fun z => hj (by rw [z]; exact List.mem_singleton.mpr rfl)⟩ (f1.set r1 (of_decide_eq_true q1) q2)
  · cases hp
/-- a, b = e1, e2 -/
def parM (is : List Nat) (ml : MirL) : MirS := fun fr S => (ml fr S).bindO fr fun ds S1 => match evPar fr.self.isSome is ds fr.σ with
    | some σ' => .nx ⟨σ', fr.self⟩ S1
    | none => .bad
theorem par_ok : ∀ {is : List Nat} {ds : List D} {vs : List V} {fr : Fr} {σd : List (Option D)} {σ : L2.St}, FrOk T w H σ fr → Reps T w H vs ds → evPar fr.self.isSome is ds fr.σ = some σd →
    is.length = vs.length ∧ FrOk T w H ((is.zip vs).foldl (fun σ p => σ.set p.1 (some p.2)) σ) ⟨σd, fr.self⟩
  | [], [], _, fr, σd, σ, f, .nil, h => by cases h; exact ⟨rfl, f⟩
  | [], d :: ds, _, fr, σd, σ, f, _, h => by cases h
  | i :: is, [], _, fr, σd, σ, f, _, h => by cases h
  | i :: is, d :: ds, _, fr, σd, σ, f, .cons r rs, h => by
    unfold evPar at h
    split at h
    · rename_i q
      obtain ⟨q1, q2⟩ := bt q
      obtain ⟨h1, h2⟩ := par_ok (fr := ⟨fr.σ.set i (some d), fr.self⟩) (f.set r (of_decide_eq_true q1) q2) rs h
      exact ⟨by simp [h1], h2⟩
    · cases h
theorem s_par2 {i j : Nat} {x y : Str} {px py pt : Pos} {kt k2 pt2} (hc : X.calm = true) (hN : X.N.Nodup) (hi : X.N[i]? = some x) (hj : X.N[j]? = some y) (hij : i ≠ j)
    (hx : X.env.scope.names.lookup x = some .local) (hy : X.env.scope.names.lookup y = some .local) (ha : PA X [a, b] (tL T Wx ml)) (hw : swappedStores [.Tuple [.Name x px, .Name y py] kt pt] (.Tuple [a, b] k2 pt2) X.env = pure (some [x, y])) :
    PS X (.Assign [.Tuple [.Name x px, .Name y py] kt pt] (.Tuple [a, b] k2 pt2) pos) (tS T Wx (parM [i, j] ml)) := by
  refine PS.imp (ps_par hc hN hi hj hij hx hy ha hw) fun D0 σ H ⟨w, fr, S, f, st, h⟩ => ⟨w, fr, S, f, st, (post_bindOL f st h).imp fun vs H1 ⟨w1, ds, S1, e, r, st1, q⟩ => ?_⟩
  cases hp : evPar fr.self.isSome [i, j] ds fr.σ with
  | none => rw [hp] at q; exact q.elim
  | some σ1 =>
    rw [hp] at q
    obtain ⟨h1, h2⟩ := par_ok (f.mono e st) r hp
    match vs, h1 with
    | [u, v], _ => exact ⟨u, v, rfl, post_nx q h2 st1⟩
theorem s_par3 {i j l : Nat} {x y z : Str} {c' : Expr} {px py pz pt : Pos} {kt k2 pt2} (hc : X.calm = true) (hN : X.N.Nodup) (hi : X.N[i]? = some x) (hj : X.N[j]? = some y) (hl : X.N[l]? = some z) (hij : i ≠ j) (hil : i ≠ l) (hjl : j ≠ l)
    (hx : X.env.scope.names.lookup x = some .local) (hy : X.env.scope.names.lookup y = some .local) (hz : X.env.scope.names.lookup z = some .local) (ha : PA X [a, b, c'] (tL T Wx ml)) (hw : swappedStores [.Tuple [.Name x px, .Name y py, .Name z pz] kt pt] (.Tuple [a, b, c'] k2 pt2) X.env = pure (some [x, y, z])) :
    PS X (.Assign [.Tuple [.Name x px, .Name y py, .Name z pz] kt pt] (.Tuple [a, b, c'] k2 pt2) pos) (tS T Wx (parM [i, j, l] ml)) := by
  refine PS.imp (ps_par3 hc hN hi hj hl hij hil hjl hx hy hz ha hw) fun D0 σ H ⟨w, fr, S, f, st, h⟩ => ⟨w, fr, S, f, st, (post_bindOL f st h).imp fun vs H1 ⟨w1, ds, S1, e, r, st1, q⟩ => ?_⟩
  cases hp : evPar fr.self.isSome [i, j, l] ds fr.σ with
  | none => rw [hp] at q; exact q.elim
  | some σ1 =>
    rw [hp] at q
    obtain ⟨h1, h2⟩ := par_ok (f.mono e st) r hp
    match vs, h1 with
    | [u, v, t], _ => exact ⟨u, v, t, rfl, post_nx q h2 st1⟩
/-! ### attributes of what is built -/
/-- the own object is written -/
theorem self_put (ko : KOk T P) {fr : Fr} {f : Nat} {name : Str} {v : V} {d : D} {q : Nat × List (Nat × D)} (hf : T.nm[f]? = some name) (fo : FrOk T w H σ fr) (st : StOk T w H S) (r : Rep T w H v d) (hp : putM P fr.self f d = some q) :
    ∃ x C dx fs, σ[0]? = some (some (.ref x)) ∧ H x = some (.ins C dx fs) ∧ Cls T.K C ∧ NoAttr T.K C name ∧ fs.length < 1000 ∧ Ext w.own w H w (upd H x (.ins C dx (putF name v fs))) ∧ FrOk T w (upd H x (.ins C dx (putF name v fs))) σ ⟨fr.σ, some q⟩ ∧ StOk T w (upd H x (.ins C dx (putF name v fs))) S := by
  have sf := fo.self
  unfold putM at hp
  cases hs : fr.self with
  | none => rw [hs] at hp; cases hp
  | some p0 =>
    obtain ⟨n, gs⟩ := p0
    rw [hs] at hp sf
    dsimp only at hp
    obtain ⟨x, dx, vs, h1, h2, h3, h4⟩ := sf
    cases hc : P.cs[n]? with
    | none => rw [hc] at hp; cases hp
    | some ci =>
      rw [hc] at hp
      dsimp only at hp
      split at hp
      · rename_i qq
        cases hp
        obtain ⟨q1, q2⟩ := bt qq
        have q2 := of_decide_eq_true q2
        obtain ⟨nm', e1, na⟩ := ko.noat n ci f hc (by simpa using q1)
        rw [hf] at e1; cases e1
        have ex : Ext w.own w H w (upd H x (.ins (T.ca n) dx (putF name v vs))) := by
          refine ⟨Nat.le_refl _, fun b u hb _ ho _ => by rw [upd_ne fun z => ho (by rw [h1, z])]; exact hb, fun b hb => nt_upd ins_nt hb, fun _ _ h => h, fun _ _ h => .inl h, fun _ h => h, rfl, rfl⟩
        have m := ex.mono (.inr (.inl rfl))
        refine ⟨x, T.ca n, dx, vs, h2, h3, (ko.cls n (cls_lt hc)).cls, na, by rw [h4.length]; omega, ex, ⟨fo.len, fun i e hi => ?_, ?_⟩, st.same m (fun i b hb => upd_ne fun z => (st.dis i b hb).2 (by rw [h1, z])) ex.there (tabs_upd st.tabs h3 (fun _ z => by cases z) ins_code)⟩
        · obtain ⟨u, a1, a2⟩ := fo.slot i e hi
          exact ⟨u, a1, a2.mono m⟩
        · exact ⟨x, dx, _, h1, h2, upd_same, (h4.mono m).put ko.nd hf (r.mono m)⟩
      · cases hp
def setSelfM (P : Pg) (f : Nat) (ma : Mir) : MirS := fun fr S => (ma fr S).bindO fr fun d S1 => match putM P fr.self f d with
    | some q => .nx ⟨fr.σ, some q⟩ S1
    | none => .bad
theorem s_setSelf (cn : Cn T P k Wx X) {f : Nat} {name x : Str} {p p2 : Pos} (hf : T.nm[f]? = some name) (hN : X.N[0]? = some x) (hv : Vis X.env.scope x) (hd : (x == ("__debug__" : Str)) = false) (hcd : (x == ("__classdict__" : Str)) = false) (ha : PE X a (tE T Wx ma)) (hs : swapsWith a (some (.Attribute (.Name x p) name p2)) pos.line X.env = pure false) :
    PS X (.Assign [.Attribute (.Name x p) name p2] a pos) (tS T Wx (setSelfM P f ma)) := by
  refine PS.imp (ps_fld (pe_var hN hv hd hcd) ha hs) fun D0 σ H ⟨w, fr, S, fo, st, h⟩ => ⟨w, fr, S, fo, st, (post_bindO fo st h).imp fun v H1 ⟨w1, d, S1, e, r, st1, q⟩ => ?_⟩
  cases hp : putM P fr.self f d with
  | none => rw [hp] at q; exact q.elim
  | some q0 =>
    rw [hp] at q
    obtain ⟨xa, C, dx, fs, h1, h2, h3, h4, h5, ex, f', st'⟩ := self_put cn.ko hf (fo.mono e st) st1 r hp
    have hK := cn.K
    rw [← hK] at h3 h4
    exact ⟨.ref xa, h1, xa, C, dx, fs, rfl, h2, h3, h4, h5, q _ w1 _ ex f' st'⟩
def gF (T : Tb) (P : Pg) (f : Nat) : TG := fun v σ H Q => ∃ w fr S d q, FrOk T w H σ fr ∧ StOk T w H S ∧ Rep T w H v d ∧ putM P fr.self f d = some q ∧ ∀ H', Ext w.own w H w H' → FrOk T w H' σ ⟨fr.σ, some q⟩ → StOk T w H' S → Q σ H'
def gFs (T : Tb) (P : Pg) (fs : List Nat) : TGs := fun vs σ H Q => ∃ w fr S ds q, FrOk T w H σ fr ∧ StOk T w H S ∧ Reps T w H vs ds ∧ putMs P fr.self fs ds = q ∧ q.isSome = true ∧ ∀ H', Ext w.own w H w H' → FrOk T w H' σ ⟨fr.σ, q⟩ → StOk T w H' S → Q σ H'
theorem g_fld (cn : Cn T P k Wx X) {f : Nat} {name x : Str} {p p2 : Pos} (hf : T.nm[f]? = some name) (hN : X.N[0]? = some x) (hv : Vis X.env.scope x) (hd : (x == ("__debug__" : Str)) = false) (hcd : (x == ("__classdict__" : Str)) = false) :
    PG X (.Attribute (.Name x p) name p2) (gF T P f) := by
  refine ⟨fun pins s σ H v u Q I r h => ?_⟩
  obtain ⟨w, fr, S, d, q, fo, st, rv, hp, hq⟩ := h
  obtain ⟨xa, C, dx, fs, h1, h2, h3, h4, h5, ex, f', st'⟩ := self_put cn.ko hf fo st rv hp
  have ea : assign (.Attribute (.Name x p) name p2) X.env u = (do
      let ov ← holding [u] (eval (.Name x p) X.env)
      standAt p2.atName
      holding [u, ov] (setAttr ov name u)
      release [u, ov] []) := by rfl
  rw [ea]
  refine wpAny_bind (wpAny_holding (thn ((pe_var (pos := p) hN hv hd hcd).run pins s σ H (fun y H1 => y = .ref xa ∧ H1 = H) I ⟨.ref xa, h1, rfl, rfl⟩) fun ov s1 ⟨y, H1, I1, ry, e1, e2⟩ => ?_))
  subst e1; rw [e2] at I1
  cases (show ov = Value.ref xa from ry)
  have hK := cn.K
  rw [← hK] at h3 h4
  refine wpAny_bind (wpAny_standAt (wpAny_bind (wpAny_holding (setattr_ok I1 h2 h3 h4 h5 r fun s2 I2 => ?_))))
  exact wpAny_release ⟨σ, _, I2, hq _ ex f' st'⟩
end
end Mi
end

section
set_option maxRecDepth 100000
set_option maxHeartbeats 1000000
/-! Mi: loops, items set, calls through a class. -/
namespace Mi
open PySem PySem.Spec L2 PyProof.Rows
section
variable {T : Tb} {P : Pg} {k : Nat} {Wx : WX} {X : Cx} {pins : List (Addr × Obj)} {σ : L2.St} {H : Hp} {s : Shared} {Q : VK} {w : Wl} {S : Store} {a b c : Expr} {ma mb mc : Mir} {ml mr : MirL} {pos : Pos} {es : List Expr} {cl : Call} {D0 : Ends}
/-! ### several attributes of what is built -/
theorem putMs_some : ∀ {fs : List Nat} {ds : List D} {q : Option (Nat × List (Nat × D))}, (putMs P q fs ds).isSome = true → q.isSome = true
  | [], [], q, h => h
  | [], _ :: _, _, h => by cases h
  | _ :: _, [], _, h => by cases h
  | f :: fs, d :: ds, q, h => by
    cases q with
    | some _ => rfl
    | none => unfold putMs putM at h; cases h
theorem gfs_nil : PGs X [] (gFs T P []) := by
  refine ⟨fun pins s σ H vs us Q I r h => pgs_nil.run pins s σ H vs us Q I r ?_⟩
  obtain ⟨w, fr, S, ds, q, f, st, rv, hp, hi, hq⟩ := h
  cases rv with
  | nil =>
    have e : fr.self = q := hp
    refine ⟨rfl, hq H .refl ?_ st⟩
    rw [← e]; exact f
  | cons _ _ => subst hp; cases hi
theorem gfs_cons {e : Expr} {es : List Expr} {f : Nat} {fs : List Nat} (h1 : PG X e (gF T P f)) (h2 : PGs X es (gFs T P fs)) (hp : plainG e = true) : PGs X (e :: es) (gFs T P (f :: fs)) := by
  refine ⟨fun pins s σ H vs us Q I r h => (pgs_cons h1 h2 (by rw [each_cons hp]; rfl)).run pins s σ H vs us Q I r ?_⟩
  obtain ⟨w, fr, S, ds, q, fo, st, rv, hq, hi, hc⟩ := h
  cases rv with
  | nil => subst hq; cases hi
  | cons r1 rs =>
    rename_i v d vs ds
    unfold putMs at hq
    cases e1 : putM P fr.self f d with
    | none => rw [e1] at hq; subst hq; cases hi
    | some q1 =>
      rw [e1] at hq
      exact ⟨v, vs, rfl, w, fr, S, d, q1, fo, st, r1, e1, fun H' ex f' st' => ⟨w, ⟨fr.σ, some q1⟩, S, ds, q, f', st', rs.mono (ex.mono (.inr (.inl rfl))), hq, hi, fun H2 ex2 f2 st2 => hc H2 (ex.trans ex2) f2 st2⟩⟩
def setSelfsM (P : Pg) (fs : List Nat) (ma : Mir) : MirS := fun fr S => (ma fr S).bindO fr fun d S1 => match elems d with
    | some ds => (match putMs P fr.self fs ds with
      | some q => .nx ⟨fr.σ, some q⟩ S1
      | none => .bad)
    | none => .bad
theorem putMs_len : ∀ {fs : List Nat} {ds : List D} {q : Option (Nat × List (Nat × D))}, (putMs P q fs ds).isSome = true → ds.length = fs.length
  | [], [], q, h => rfl
  | [], _ :: _, _, h => by cases h
  | _ :: _, [], _, h => by cases h
  | f :: fs, d :: ds, q, h => by
    unfold putMs at h
    cases e : putM P q f d with
    | none => rw [e] at h; cases h
    | some q1 => rw [e] at h; exact congrArg (· + 1) (putMs_len h)
theorem s_setSelfs (cn : Cn T P k Wx X) {fs : List Nat} {kk : Nat} {tpos : Pos} (ha : PE X a (tE T Wx ma)) (hg : PGs X es (gFs T P fs)) (hp : plainGs es = true) (hl : es.length = fs.length) (hs : swapsWith a (some (.Tuple es kk tpos)) pos.line X.env = pure false) (hw : swappedStores [.Tuple es kk tpos] a X.env = pure none) :
    PS X (.Assign [.Tuple es kk tpos] a pos) (tS T Wx (setSelfsM P fs ma)) := by
  have hG : PG X (.Tuple es kk tpos) (fun v σ H Q => ∃ w fr S d ds q, FrOk T w H σ fr ∧ StOk T w H S ∧ Rep T w H v d ∧ elems d = some ds ∧ putMs P fr.self fs ds = some q ∧ ∀ H', Ext w.own w H w H' → FrOk T w H' σ ⟨fr.σ, some q⟩ → StOk T w H' S → Q σ H') := by
    refine ⟨fun pins s σ H v u Q I r hh => ?_⟩
    obtain ⟨w, fr, S, d, ds, q, fo, st, rv, he, hq, hc⟩ := hh
    have hlen := putMs_len (P := P) (q := fr.self) (fs := fs) (ds := ds) (by rw [hq]; rfl)
    cases d with
    | tup l =>
      cases he
      obtain ⟨aa, vs, rfl, h1, h2⟩ := rv.tupI
      exact (pg_tup (n := es.length) cn.calm hg (each_len hp).1 (each_len hp).2).run pins s σ H _ u Q I r ⟨aa, vs, rfl, by rw [cn.K]; exact h1, by rw [h2.length, hlen, hl], w, fr, S, ds, some q, fo, st, h2, hq, rfl, hc⟩
    | lst l =>
      cases he
      obtain ⟨aa, vs, rfl, h1, h2⟩ := rv.lstI
      exact (pg_lst (n := es.length) cn.calm hg (each_len hp).1 (each_len hp).2).run pins s σ H _ u Q I r ⟨aa, vs, rfl, by rw [cn.K]; exact h1, by rw [h2.length, hlen, hl], w, fr, S, ds, some q, fo, st, h2, hq, rfl, hc⟩
    | _ => cases he
  refine PS.imp (ps_asg ha hG hs hw (each_one rfl)) fun D0 σ H ⟨w, fr, S, fo, st, h⟩ => ⟨w, fr, S, fo, st, (post_bindO fo st h).imp fun v H1 ⟨w1, d, S1, e, r, st1, q⟩ => ?_⟩
  cases he : elems d with
  | none => rw [he] at q; exact q.elim
  | some ds =>
    rw [he] at q
    dsimp only at q
    cases hp : putMs P fr.self fs ds with
    | none => rw [hp] at q; exact q.elim
    | some q0 =>
      rw [hp] at q
      exact ⟨w1, fr, S1, d, ds, q0, fo.mono e st, st1, r, he, hp, fun H' ex f' st' => q _ w1 H' ex f' st'⟩
/-! ### o[i] = e -/
def setIdxS (ma mo mi : Mir) : MirS := fun fr S => (ma fr S).bindO fr fun d S1 => (mo fr S1).bindO fr fun x S2 => (mi fr S2).bindO fr fun y S3 => match setIdxM x y d S3 with
    | some S4 => .nx fr S4
    | none => .bad
theorem s_setIdx (hK : X.K = T.K) {o i : Expr} {mo mi : Mir} {p2 : Pos} (ha : PE X a (tE T Wx ma)) (ho : PE X o (tE T Wx mo)) (hi : PE X i (tE T Wx mi)) (hpi : plainIx i = true) (hs : swapsWith a (some (.Subscript o i p2)) pos.line X.env = pure false) (hw : swappedStores [.Subscript o i p2] a X.env = pure none) :
    PS X (.Assign [.Subscript o i p2] a pos) (tS T Wx (setIdxS ma mo mi)) := by
  refine PS.imp (ps_asg ha (pg_sub ho hi set_list (by intro v; cases i <;> first | exact absurd (show false = true from hpi) Bool.false_ne_true | rfl)) hs hw (each_one rfl)) fun D0 σ H ⟨w, fr, S, fo, st, h⟩ => ⟨w, fr, S, fo, st, (post_bindO fo st h).imp fun v H1 ⟨w1, d, S1, e1, r1, st1, q1⟩ => ?_⟩
  have f1 := fo.mono e1 st
  refine ⟨w1, fr, S1, f1, st1, (post_bindO f1 st1 q1).imp fun x H2 ⟨w2, dx, S2, e2, r2, st2, q2⟩ => ?_⟩
  have f2 := f1.mono e2 st1
  refine ⟨w2, fr, S2, f2, st2, (post_bindO f2 st2 q2).imp fun y H3 ⟨w3, dy, S3, e3, r3, st3, q3⟩ => ?_⟩
  have f3 := f2.mono e3 st2
  cases hm : setIdxM dx dy d S3 with
  | none => rw [hm] at q3; exact q3.elim
  | some S4 =>
    rw [hm] at q3
    unfold setIdxM at hm
    cases dx with
    | cell n =>
      cases dy with
      | int j =>
        dsimp only at hm
        cases e4 : S3[n]? with
        | none => rw [e4] at hm; cases hm
        | some cc =>
          cases cc with
          | lst l =>
            rw [e4] at hm
            dsimp only at hm
            cases e5 : ixN l.length j with
            | none => rw [e5] at hm; cases hm
            | some kk =>
              rw [e5] at hm
              cases hm
              obtain ⟨aa, vs, rfl, hcs, hH, hr⟩ := cell_lst st3 (r2.mono (e3.mono (.inl rfl))) e4
              cases r3
              refine ⟨aa, vs, j, kk, rfl, rfl, hH, by rw [hr.length]; exact e5, ?_⟩
              have ee := ext_set (H := H3) (o := HO.lst (vs.set kk v)) lst_nt hcs
              have rv := (r1.mono (e2.mono (.inl rfl))).mono (e3.mono (.inl rfl))
              exact q3 σ w3 _ ee.weak (f3.mono ee st3) (st_set lst_nt st3 hcs ⟨aa, _, rfl, upd_same, (hr.set kk rv).mono (ee.mono (.inl rfl))⟩)
          | _ => rw [e4] at hm; cases hm
      | _ => cases hm
    | _ => cases hm
/-! ### for, while -/
def forS (p : Pat) (mi : MirL) (m : MirS) : MirS := fun fr S => (mi fr S).bindO fr fun l S1 => forM (fun d fr S2 => match putP fr.self.isSome p d fr.σ with
    | some σ' => m ⟨σ', fr.self⟩ S2
    | none => .bad) l fr S1
theorem postS_ofO {fr : Fr} {r : ResL} {kk : List D → Store → Out} (f : FrOk T w H σ fr) (st : StOk T w H S) (h : PostO T Wx w H D0 (r.bindO fr kk)) : PostS T Wx w σ H r (fun J H1 => ∃ w1 l S1, Ext none w H w1 H1 ∧ StOk T w1 H1 S1 ∧ Seq T w1 H1 J l ∧ PostO T Wx w1 H1 D0 (kk l S1)) := by
  cases r with
  | ok d S => exact fun J w' H' e st' sq => ⟨w', d, S, e, st', sq, PostO.later e.weak h⟩
  | exc c fs S => exact fun cls dd w' H' e ex st' => h cls dd σ w' H' e.weak (f.mono e st) ex st'
  | bad => exact h
theorem t_for {J : It} {l : List D} {p : Pat} {m : MirS} {fr : Fr} {tb : TS} (ht : tb = tS T Wx m) (f : FrOk T w H σ fr) (st : StOk T w H S) (sq : Seq T w H J l)
    (h : PostO T Wx w H D0 (forM (fun d fr S2 => match putP fr.self.isSome p d fr.σ with
    | some σ' => m ⟨σ', fr.self⟩ S2
    | none => .bad) l fr S)) :
    ∃ W : Nat → Nat → L2.St → Hp → Prop, (∃ m, W 0 m σ H) ∧ ∀ i m σ H, W i m σ H →
      (J.stop i H ∧ D0.nx σ H) ∨ (J.go i H ∧ ∃ N : L2.St → Hp → Prop, (∀ σ' H', N σ' H' → ∃ m', m' < m ∧ W (i + 1) m' σ' H') ∧ ∀ x H', J.yld i H x H' → gP T p x σ H' fun σ2 H2 => tb { D0 with nx := N, ct := N, bk := D0.nx } σ2 H2) := by
  subst ht
  obtain ⟨G, Y, wk, g1, g2⟩ := sq
  generalize hF : (fun (d : D) (fr : Fr) (S2 : Store) => match putP fr.self.isSome p d fr.σ with
    | some σ' => m ⟨σ', fr.self⟩ S2
    | none => Out.bad) = F at h
  generalize hr0 : forM F l fr S = r0 at h
  refine for_it (n := l.length) wk (fun i σ1 H1 => ∃ w1 fr1 S1, Ext w.own w H w1 H1 ∧ FrOk T w1 H1 σ1 fr1 ∧ StOk T w1 H1 S1 ∧ forM F (l.drop i) fr1 S1 = r0) ?_ ?_ ?_ ?_
  · exact ⟨w, fr, S, .refl, f, st, by rw [List.drop_zero]; exact hr0⟩
  · rintro i σ1 H1 hi ⟨w1, fr1, S1, e1, f1, st1, eq⟩
    exact g1 w1 H1 (e1.mono (.inr (.inl rfl)))
  · rintro i x σ1 H1 H2 hi ⟨w1, fr1, S1, e1, f1, st1, eq⟩ hy
    obtain ⟨e2, st2, rx⟩ := g2 i x l[i] w1 H1 H2 S1 (e1.mono (.inr (.inl rfl))) st1 hy (by simp [hi])
    rw [List.drop_eq_getElem_cons hi] at eq
    unfold forM at eq
    have hFd : F l[i] fr1 S1 = match putP fr1.self.isSome p l[i] fr1.σ with
      | some σ' => m ⟨σ', fr1.self⟩ S1
      | none => Out.bad := by rw [← hF]
    have h1 := PostO.later e1 h
    have e2' : Ext w1.own w1 H1 w1 H2 := e2.weak
    have h2 := PostO.later e2' h1
    cases hput : putP fr1.self.isSome p l[i] fr1.σ with
    | none =>
      rw [hput] at hFd
      rw [hFd] at eq
      rw [← eq] at h; exact h.elim
    | some σd =>
      rw [hput] at hFd
      refine ⟨w1, fr1, l[i], σd, f1.mono e2 st1, rx, hput, fun σ' _ f' => ⟨w1, ⟨σd, fr1.self⟩, S1, f', st2, ?_⟩⟩
      have ho : w1.own = w.own := e1.own
      have e12 : Ext w.own w H w1 H2 := e1.trans e2.weak
      dsimp only at hFd
      cases hm : m ⟨σd, fr1.self⟩ S1 with
      | nx fr3 S3 =>
        rw [hFd, hm] at eq
        exact fun σ3 w3 H3 e3 f3 st3 => ⟨w3, fr3, S3, e12.trans (ho ▸ e3), f3, st3, eq⟩
      | cont fr3 S3 =>
        rw [hFd, hm] at eq
        exact fun σ3 w3 H3 e3 f3 st3 => ⟨w3, fr3, S3, e12.trans (ho ▸ e3), f3, st3, eq⟩
      | brk fr3 S3 =>
        rw [hFd, hm] at eq
        dsimp only at eq
        rw [← eq] at h2
        exact fun σ3 w3 H3 e3 f3 st3 => h2 σ3 w3 H3 e3 f3 st3
      | ret d fr3 S3 =>
        rw [hFd, hm] at eq
        dsimp only at eq
        rw [← eq] at h2
        exact fun v σ3 w3 H3 e3 f3 r3 st3 => h2 v σ3 w3 H3 e3 f3 r3 st3
      | exc cc fs fr3 S3 =>
        rw [hFd, hm] at eq
        dsimp only at eq
        rw [← eq] at h2
        exact fun cls dd σ3 w3 H3 e3 f3 r3 st3 => h2 cls dd σ3 w3 H3 e3 f3 r3 st3
      | bad =>
        rw [hFd, hm] at eq
        dsimp only at eq
        rw [← eq] at h; exact h.elim
  · rintro σ1 H1 ⟨w1, fr1, S1, e1, f1, st1, eq⟩
    rw [List.drop_length] at eq
    have eq' : r0 = .nx fr1 S1 := eq.symm
    rw [eq'] at h
    exact h σ1 w1 H1 e1 f1 st1
theorem s_for {tg iter : Expr} {body : List Stmt} {p : Pat} {mi : MirL} {m : MirS} (hp : PassesOwn (model X.prog X.w) X.A X.env X.xe) (hc : X.calm = true) (hi : PI X tg iter (tI T Wx mi)) (hg : PG X tg (gP T p)) (hb : PSs X body (tS T Wx m)) (hs : ∀ x, foldedSetIterable iter X.env x = pure x) :
    PS X (.For tg iter body [] pos) (tS T Wx (forS p mi m)) := by
  refine PS.imp (ps_for hp hc hi hg hb hs) fun D0 σ H ⟨w, fr, S, f, st, h⟩ => ⟨w, fr, S, f, st, ?_⟩
  have q := postS_ofO f st h
  cases hr : mi fr S with
  | ok l S1 =>
    rw [hr] at q
    intro J w1 H1 e1 st1 sq
    obtain ⟨w2, l2, S2, e2, st2, sq2, p2⟩ := q J w1 H1 e1 st1 sq
    exact t_for rfl (f.mono e2 st) st2 sq2 p2
  | exc c fs S1 => rw [hr] at q; exact q
  | bad => rw [hr] at q; exact q.elim
def whlS (P : Pg) (mc : Mir) (m : MirS) : MirS := fun fr S => whlM mc m P.fuel fr S
theorem s_whl {body : List Stmt} {m : MirS} (hp : PassesOwn (model X.prog X.w) X.A X.env X.xe) (hc : PT X c (tT T Wx mc)) (hb : PSs X body (tS T Wx m)) : PS X (.While c body [] pos) (tS T Wx (whlS P mc m)) := by
  refine PS.imp (ps_while hp hc hb) fun D0 σ H ⟨w, fr, S, f, st, h⟩ => ?_
  unfold whlS at h
  generalize hr0 : whlM mc m P.fuel fr S = r0 at h
  refine ⟨fun n σ1 H1 => ∃ w1 fr1 S1, Ext w.own w H w1 H1 ∧ FrOk T w1 H1 σ1 fr1 ∧ StOk T w1 H1 S1 ∧ whlM mc m n fr1 S1 = r0, ⟨P.fuel, w, fr, S, .refl, f, st, hr0⟩, ?_⟩
  rintro n σ1 H1 ⟨w1, fr1, S1, e1, f1, st1, eq⟩
  cases n with
  | zero =>
    have eq' : r0 = .bad := eq.symm
    rw [eq'] at h; exact h.elim
  | succ n =>
    unfold whlM at eq
    have h1 := PostO.later e1 h
    have ho : w1.own = w.own := e1.own
    refine ⟨w1, fr1, S1, f1, st1, ?_⟩
    unfold tru
    cases hm : mc fr1 S1 with
    | exc cc fs S2 =>
      rw [hm] at eq
      have eq' : r0 = .exc cc fs fr1 S2 := eq.symm
      rw [eq'] at h1
      exact fun cls dd w' H' e ex st' => h1 cls dd σ1 w' H' e.weak (f1.mono e st1) ex st'
    | bad =>
      rw [hm] at eq
      have eq' : r0 = .bad := eq.symm
      rw [eq'] at h; exact h.elim
    | ok x S2 =>
      rw [hm] at eq
      simp only [Res.bindO] at eq
      simp only [Res.bind]
      cases ht : truth x with
      | none =>
        rw [ht] at eq
        have eq' : r0 = .bad := eq.symm
        rw [eq'] at h; exact h.elim
      | some bb =>
        rw [ht] at eq
        intro v w2 H2 e2 rv st2
        cases rv
        refine ⟨bb, rfl, ?_⟩
        have f2 := f1.mono e2 st1
        have e12 : Ext w.own w H w2 H2 := e1.trans e2.weak
        have h2 := PostO.later (Ext.weak (o := w1.own) e2) h1
        have ho2 : w2.own = w.own := e12.own
        cases bb with
        | false =>
          rw [if_neg Bool.false_ne_true]
          dsimp only at eq
          rw [← eq] at h2
          exact h2 σ1 w2 H2 .refl f2 st2
        | true =>
          rw [if_pos rfl]
          dsimp only at eq
          refine ⟨fun σ3 H3 => ∃ w3 fr3 S3, Ext w.own w H w3 H3 ∧ FrOk T w3 H3 σ3 fr3 ∧ StOk T w3 H3 S3 ∧ whlM mc m n fr3 S3 = r0, fun σ3 H3 hh => ⟨n, Nat.lt_succ_self n, hh⟩, w2, fr1, S2, f2, st2, ?_⟩
          cases hb2 : m fr1 S2 with
          | nx fr3 S3 => rw [hb2] at eq; exact fun σ3 w3 H3 e3 f3 st3 => ⟨w3, fr3, S3, e12.trans (ho2 ▸ e3), f3, st3, eq⟩
          | cont fr3 S3 => rw [hb2] at eq; exact fun σ3 w3 H3 e3 f3 st3 => ⟨w3, fr3, S3, e12.trans (ho2 ▸ e3), f3, st3, eq⟩
          | brk fr3 S3 =>
            rw [hb2] at eq
            dsimp only at eq
            rw [← eq] at h2
            exact fun σ3 w3 H3 e3 f3 st3 => h2 σ3 w3 H3 e3 f3 st3
          | ret d fr3 S3 =>
            rw [hb2] at eq
            dsimp only at eq
            rw [← eq] at h2
            exact fun v σ3 w3 H3 e3 f3 r3 st3 => h2 v σ3 w3 H3 e3 f3 r3 st3
          | exc cc fs fr3 S3 =>
            rw [hb2] at eq
            dsimp only at eq
            rw [← eq] at h2
            exact fun cls dd σ3 w3 H3 e3 f3 r3 st3 => h2 cls dd σ3 w3 H3 e3 f3 r3 st3
          | bad =>
            rw [hb2] at eq
            dsimp only at eq
            rw [← eq] at h; exact h.elim
/-! ### C.m(..) -/
theorem cls_fn {C g : Addr} {m : Str} {pl : Sem Bool} {R : Value × List Value → Shared → Prop} (I : Inv X pins σ H s) (cf : ClsFn X.K C m g) (h : ∀ s', Inv X pins σ H s' → R (.ref g, []) s') : wpAny (model X.prog X.w) X.A (getMethod (.ref C) m pl) R X.xe s := by
  obtain ⟨mc, cr, hh⟩ := cf.rd
  refine PySem.W.method_cls I.kIn cr.ga ?_
  rcases hh with hv | ⟨p, rest, h1, h2⟩
  · exact PySem.W.cls_value I.kIn cr.rd hv rfl (h _ (I.tok _))
  · exact PySem.W.cls_bind I.kIn cr.rd h1 (wpAny_call (PySem.W.sm_get (s := { s with toks := s.toks + 1 }) I.kIn h2 (PySem.W.handed_on rfl (h _ (I.tok _)))))
def statMir (P : Pg) (k c m : Nat) (ml : MirL) : Mir := fun fr S => (ml fr S).bind fun ds S1 => match P.cs[c]?.bind fun ci => ci.stat.lookup m with
    | some g => callM P (run P k) g ds S1
    | none => .bad
theorem m_stat (cn : Cn T P k Wx X) {n m g : Nat} {ci : CI} {x name : Str} {p apos : Pos} (hg : Gl X x) (hm : X.mg x = some (.ref (T.ca n))) (hci : P.cs[n]? = some ci) (hst : ci.stat.lookup m = some g) (hf : T.nm[m]? = some name) (hl : PA X (b :: es) (tL T Wx ml)) (h2 : noStar (b :: es) = true) (h3 : (b :: es).length < 30) (h4 : (apos.endLine == pos.line) = true) (hd : (x == ("__debug__" : Str)) = false) :
    PE X (.Call (.Attribute (.Name x p) name apos) (b :: es) [] pos) (tE T Wx (statMir P k n m ml)) := by
  refine ⟨fun pins s σ H Q I h => ?_⟩
  obtain ⟨hgl, nm', e1, cf⟩ := cn.ko.stat n ci m g hci hst
  rw [hf] at e1; cases e1
  rw [← cn.K] at cf
  refine PySem.W.methodCall_KW (ld_glob I hg hm ?_ hd) (meth_form rfl h2 h3 h4)
  refine cls_fn I cf fun s1 I1 => ?_
  have e2 : (P.cs[n]?.bind fun ci => ci.stat.lookup m) = some g := by rw [hci]; exact hst
  have h' : tE T Wx (fun fr S => (ml fr S).bind (callM P (run P k) g)) σ H Q := by
    obtain ⟨w, fr, S, f, st, q⟩ := h
    unfold statMir at q
    rw [e2] at q
    exact ⟨w, fr, S, f, st, q⟩
  exact PySem.W.callWith_K (first := []) (h₀ := X.base) I1.ok.mod.kin cf.kp (thn (hl.run pos pins s1 σ H _ I1 (unL h')) fun us s2 ⟨vs, H2, I2, rv, q2⟩ => ⟨I2.kIn, c_fn cn g pins s2 σ H2 vs us Q I2 rv q2⟩) (star_cons h2).1 (star_any (star_cons (env := X.env) h2).2)
theorem m_stat0 (cn : Cn T P k Wx X) {n m g : Nat} {ci : CI} {x name : Str} {p apos : Pos} (hg : Gl X x) (hm : X.mg x = some (.ref (T.ca n))) (hci : P.cs[n]? = some ci) (hst : ci.stat.lookup m = some g) (hf : T.nm[m]? = some name) (h4 : (apos.endLine == pos.line) = true) (hd : (x == ("__debug__" : Str)) = false) :
    PE X (.Call (.Attribute (.Name x p) name apos) [] [] pos) (tE T Wx (statMir P k n m fun _ S => .ok [] S)) := by
  refine ⟨fun pins s σ H Q I h => ?_⟩
  obtain ⟨hgl, nm', e1, cf⟩ := cn.ko.stat n ci m g hci hst
  rw [hf] at e1; cases e1
  rw [← cn.K] at cf
  refine PySem.W.methodCall_KW (ld_glob I hg hm ?_ hd) (meth_form rfl rfl (by show 0 < 30; decide) h4)
  refine cls_fn I cf fun s1 I1 => ?_
  have e2 : (P.cs[n]?.bind fun ci => ci.stat.lookup m) = some g := by rw [hci]; exact hst
  obtain ⟨w, fr, S, f, st, q⟩ := h
  unfold statMir at q
  rw [e2] at q
  exact PySem.W.callWith_K0 I1.kIn cf.kp (c_fn cn g pins s1 σ H [] [] Q I1 .nil ⟨w, S, [], st, .nil, q⟩)
/-- C.__init__(self, ..) -/
def iniS (P : Pg) (k c m : Nat) (ml : MirL) : MirS := fun fr S => if fr.self.isSome then (match P.cs[c]?.bind fun ci => ci.stat.lookup m with
    | some f => (ml fr S).bindO fr fun ds S1 => iniM P (run P k) f ds fr S1
    | none => .bad) else .bad
theorem s_ini (cn : Cn T P k Wx X) {n m g : Nat} {ci : CI} {x sx name : Str} {p p2 apos epos : Pos} (hg : Gl X x) (hm : X.mg x = some (.ref (T.ca n))) (hci : P.cs[n]? = some ci) (hst : ci.stat.lookup m = some g) (hf : T.nm[m]? = some name) (hN : X.N[0]? = some sx) (hv : Vis X.env.scope sx)
    (hl : PA X es (tL T Wx ml)) (h2 : noStar (.Name sx p2 :: es) = true) (h3 : (Expr.Name sx p2 :: es).length < 30) (h4 : (apos.endLine == pos.line) = true) (hd : (x == ("__debug__" : Str)) = false) (hd2 : (sx == ("__debug__" : Str)) = false) (hcd : (sx == ("__classdict__" : Str)) = false) :
    PS X (.Expr (.Call (.Attribute (.Name x p) name apos) (.Name sx p2 :: es) [] pos) epos) (tS T Wx (iniS P k n m ml)) := by
  obtain ⟨hgl, nm', e1, cf⟩ := cn.ko.stat n ci m g hci hst
  rw [hf] at e1; cases e1
  rw [← cn.K] at cf
  have e2 : (P.cs[n]?.bind fun ci => ci.stat.lookup m) = some g := by rw [hci]; exact hst
  have he : PE X (.Call (.Attribute (.Name x p) name apos) (.Name sx p2 :: es) [] pos) (fun σ H Q => ∃ xa w fr S, σ[0]? = some (some (.ref xa)) ∧ FrOk T w H σ fr ∧ StOk T w H S ∧ PostL T Wx w σ H (ml fr S) (fun vs H1 => ∃ w1 ds S1, Ext none w H w1 H1 ∧ Reps T w1 H1 vs ds ∧ StOk T w1 H1 S1 ∧
      spI T P k g (.ref xa :: vs) H1 Q (fun _ _ _ => False))) := by
    refine ⟨fun pins s σ H Q I h => ?_⟩
    obtain ⟨xa, w, fr, S, h0, f, st, q⟩ := h
    refine PySem.W.methodCall_KW (ld_glob I hg hm ?_ hd) (meth_form rfl h2 h3 h4)
    refine cls_fn I cf fun s1 I1 => ?_
    have pa := pa_cons (pe_var (pos := p2) hN hv hd2 hcd) hl (star_cons h2).1
    refine PySem.W.callWith_K (first := []) (h₀ := X.base) I1.ok.mod.kin cf.kp (thn (pa.run pos pins s1 σ H (fun vs H1 => spI T P k g vs H1 Q (fun _ _ _ => False)) I1 ⟨.ref xa, h0, w, fr, S, f, st, q.imp fun vs H1 ⟨w1, ds, S1, _, _, _, z⟩ => z⟩) fun us s2 ⟨vs, H2, I2, rv, q2⟩ => ⟨I2.kIn, ?_⟩) (star_cons h2).1 (star_any (star_cons (env := X.env) h2).2)
    have F := cn.lv.ini g hgl
    rw [← cn.K] at F
    refine wpAny_call (codeAny_mono (call_at (X := X.nox) (j := k) takes_nox F cn.room I2.env0 (I2.wish _) rv q2) fun r s' hq => ?_)
    cases r with
    | error er => exact False.elim hq
    | ok fl =>
      cases fl with
      | ret z =>
        obtain ⟨zv, H', I', rz, qz⟩ := hq
        exact ⟨zv, H', I'.unwish, rz, qz⟩
      | next => exact False.elim hq
      | brk => exact False.elim hq
      | cont => exact False.elim hq
  refine PS.imp (ps_expr he (no_swap rfl)) fun D0 σ H ⟨w, fr, S, f, st, h⟩ => ?_
  unfold iniS at h
  rw [e2] at h
  have sf := f.self
  cases hs : fr.self with
  | none => rw [hs] at h; exact h.elim
  | some pr =>
    obtain ⟨cc, fs⟩ := pr
    rw [hs] at sf
    have hi : fr.self.isSome = true := by rw [hs]; rfl
    rw [if_pos hi] at h
    obtain ⟨xa, dx, vs0, o1, o2, o3, o4⟩ := sf
    refine ⟨xa, w, fr, S, o2, f, st, (post_bindOL f st h).imp fun vs H1 ⟨w1, ds, S1, e, r, st1, q⟩ => ⟨w1, ds, S1, e, r, st1, ?_⟩⟩
    unfold iniM at q
    rw [hs] at q
    dsimp only at q
    cases hfi : fill P g 1 ds with
    | none => rw [hfi] at q; exact q.elim
    | some es' =>
      rw [hfi] at q
      dsimp only at q
      have f1 := f.mono e st
      have sf1 := f1.self
      rw [hs] at sf1
      obtain ⟨xb, dx1, vs1, b1, b2, b3, b4⟩ := sf1
      rw [o2] at b2; cases b2
      refine ⟨w1, S1, xa, vs, ds, es', cc, fs, dx1, vs1, rfl, b1, st1, r, hfi, b3, b4, ?_⟩
      cases hr : run P k (.ini g cc fs es') S1 with
      | ok d S2 =>
        rw [hr] at q
        cases d with
        | obj c' fs' =>
          have q' : PostO T Wx w1 H1 D0 (if c' = cc then .nx ⟨fr.σ, some (cc, fs')⟩ S2 else .bad) := q
          split at q'
          · rename_i hcc
            subst hcc
            refine ⟨fun w' H' c2 fs2 dx2 vs2 ed ex hx rf' st' => ?_, _, _, rfl⟩
            cases ed
            have own' : w'.own = some xa := ex.own.trans b1
            have m := ex.mono (.inr (.inl b1.symm))
            refine q' σ w' H' (by rw [b1]; exact ex) ⟨f1.len, fun i e hi => ?_, ⟨xa, dx2, vs2, own', o2, hx, rf'⟩⟩ st'
            obtain ⟨u, a1, a2⟩ := f1.slot i e hi
            exact ⟨u, a1, a2.mono m⟩
          · exact q'.elim
        | _ => exact (show False from q).elim
      | exc _ _ _ => rw [hr] at q; exact (show False from q).elim
      | bad => rw [hr] at q; exact (show False from q).elim
end
end Mi
end

section
set_option maxRecDepth 100000
set_option maxHeartbeats 4000000
/-! Mi: the tree laid beside the mirror. -/
namespace Mi
open PySem PySem.Spec L2 PyProof.Rows

inductive GV where
  | fn (f : Nat) | cls (c : Nat) | val (i : Nat) | bi (id : String) | xcl (c : Nat)
/-- names of the module: what they mean; those that it has not -/
structure Ctx where
  nm : List Str
  gt : List (Str × GV)
  nb : List Str
  lam : Bool := false
  /-- the defs' parameters -/
  pns : List (List Str) := []
def GOk (T : Tb) (P : Pg) (mg : Str → Option Value) (x : Str) : GV → Prop
  | .fn f => mg x = some (.ref (T.fa f)) ∧ PySem.W.keepIn T.K (.ref (T.fa f)) = true
  | .cls c => mg x = some (.ref (T.ca c)) ∧ PySem.W.keepIn T.K (.ref (T.ca c)) = true
  | .val i => ∃ v u d, mg x = some u ∧ RelV v u ∧ P.gs[i]? = some d ∧ ∀ w H, Rep T w H v d
  | .bi id => mg x = some (.builtin id)
  | .xcl c => mg x = some (.ref (T.xa c)) ∧ c < P.xs.length
def visC (sc : Scope) (x : Str) : Bool := match sc.names.lookup x with
  | some .local => true | some .cell => true | some .free => true | _ => false
def glC (sc : Scope) (x : Str) : Bool := match sc.names.lookup x with
  | some .globalImplicit => true | _ => false
def okN (x : Str) : Bool := !(x == ("__debug__" : Str)) && !(x == ("__classdict__" : Str)) && !(x == ("__name__" : Str))
def slotC (N : List Str) (i : Nat) (x : Str) : Bool := match N[i]? with
  | some y => y == x
  | none => false
def locC (sc : Scope) (x : Str) : Bool := match sc.names.lookup x with
  | some .local => true | some .cell => true | _ => false
def biNm : Bi → Option Str
  | .len => some "len" | .abs => some "abs" | .int => some "int" | .bool => some "bool" | .tuple => some "tuple" | .list => some "list" | .all => some "all" | .str => some "str" | _ => none
def copEq (a : Cop) (b : CmpOp) : Bool := decide (copO a = b)
def conC : D → Const → Bool
  | .non, .none => true
  | .bl a, .bool b => a == b
  | .int a, .int b => a == b
  | .str a, .str b => a == b
  | _, _ => false
/-- a class as written -/
def clsC (C : Ctx) (sc : Scope) : IK → Expr → Bool
  | .own c, .Name x _ => glC sc x && okN x && (match C.gt.lookup x with
    | some (.cls d) => decide (d = c)
    | _ => false)
  | .ty n, .Name x _ => glC sc x && okN x && C.nb.contains x && decide (bootBuiltins x = some (.type n))
  | _, _ => false
def clssC (C : Ctx) (sc : Scope) : List IK → List Expr → Bool
  | [], [] => true
  | k :: ks, e :: es => clsC C sc k e && clssC C sc ks es
  | _, _ => false
mutual
def patC (N : List Str) (sc : Scope) : Pat → Expr → Bool
  | .slot i, e => (match e with
    | .Name x _ => slotC N i x && locC sc x
    | _ => false)
  | .nil, e => (match e with
    | .Tuple [] _ _ => true
    | _ => false)
  | .cons p r, e => (match e with
    | .Tuple (x :: es) _ _ => plainG x && patC N sc p x && patsC N sc r es
    | _ => false)
def patsC (N : List Str) (sc : Scope) : Pat → List Expr → Bool
  | .nil, es => es.isEmpty
  | .cons p r, es => (match es with
    | x :: es => plainG x && patC N sc p x && patsC N sc r es
    | [] => false)
  | .slot _, _ => false
end
/-! ### exceptions and hearers as written -/
def isLoc (sc : Scope) (x : Str) : Bool := match sc.names.lookup x with
  | some .local => true | _ => false
def isDoc : Stmt → Bool
  | .Expr (.Constant (.str _) _ _) _ => true
  | _ => false
def unDoc : List Stmt → List Stmt
  | [] => []
  | s :: r => if isDoc s then r else s :: r
def atC (nm N : List Str) (sc : Scope) (e : Nat) : At → Expr → Bool
  | .con d, x => (match x with
    | .Constant c _ _ => flat d && conC d c
    | _ => false)
  | .err f, x => (match x with
    | .Attribute (.Name y _) name _ => slotC N e y && visC sc y && okN y && (match nm[f]? with
      | some z => z == name
      | none => false)
    | _ => false)
def atsC (nm N : List Str) (sc : Scope) (e : Nat) : List At → List Expr → Bool
  | [], xs => xs.isEmpty
  | a :: l, xs => (match xs with
    | x :: xs => atC nm N sc e a x && atsC nm N sc e l xs
    | [] => false)
def tmC (nm N : List Str) (sc : Scope) (e : Nat) : Tm → Expr → Bool
  | .one a, x => atC nm N sc e a x
  | .tup l, x => (match x with
    | .Tuple xs _ _ => noStar xs && atsC nm N sc e l xs
    | _ => false)
  | .lst l, x => (match x with
    | .List xs _ => noStar xs && atsC nm N sc e l xs
    | _ => false)
def endC (nm N : List Str) (sc : Scope) (h : HI) (tm : Tm) : Stmt → Bool
  | .Assign [.Name v _] x _ => (match h.v with
    | some j => slotC N j v && isLoc sc v && decide (j ≠ h.e) && tmC nm N sc h.e tm x
    | none => false)
  | .Return (some x) _ => h.v.isNone && tmC nm N sc h.e tm x
  | _ => false
def clC (C : Ctx) (N : List Str) (sc : Scope) (h : HI) (n : Str) : List (Nat × Tm) → List ExceptHandler → Bool
  | [], hs => hs.isEmpty
  | p :: r, hs => (match hs with
    | .ExceptHandler (some (.Name x _)) (some m) [st] _ :: hs => glC sc x && okN x && (match C.gt.lookup x with
      | some (.xcl c) => decide (c = p.1)
      | _ => false) && (m == n) && endC C.nm N sc h p.2 st && clC C N sc h n r hs
    | _ => false)
def askC (N : List Str) (sc : Scope) : Expr → Bool
  | .Call (.Name a _) [] [] _ => slotC N 0 a && visC sc a && okN a
  | _ => false
def okC (N : List Str) (sc : Scope) : OkT → Expr → Bool
  | .plain, x => askC N sc x
  | .tag s, x => (match x with
    | .Tuple [.Constant (.str y) _ _, z] _ _ => (s == y) && askC N sc z
    | _ => false)
  | .drop, _ => false
def isDrop : OkT → Bool
  | .drop => true
  | _ => false
def errN (N : List Str) (h : HI) : Str := (N[h.e]?).getD Str.empty
def hearC (C : Ctx) (N : List Str) (sc : Scope) (h : HI) : List Stmt → Bool
  | [.Assign [.Name v _] (.Constant .none _ _) _, .Try [.Assign [.Name v2 _] x _] (h0 :: hds) [] [] _, .Return (some (.Name v3 _)) _] => (match h.v with
    | some j => slotC N j v && slotC N j v2 && slotC N j v3 && isLoc sc v && okN v && decide (j ≠ 0) && decide (j ≠ h.e) && decide (h.e ≠ 0) && slotC N h.e (errN N h) && isLoc sc (errN N h) && okC N sc h.ok x && clC C N sc h (errN N h) h.hs (h0 :: hds)
    | none => false)
  | [.Try [.Expr x _] (h0 :: hds) [] [] _, .Return (some (.Constant .none _ _)) _] => h.v.isNone && isDrop h.ok && decide (h.e ≠ 0) && slotC N h.e (errN N h) && isLoc sc (errN N h) && askC N sc x && clC C N sc h (errN N h) h.hs (h0 :: hds)
  | _ => false
/-- an exception's own __init__: a field a parameter -/
def xbC (nm N : List Str) (sc : Scope) : Nat → List Nat → List Stmt → Bool
  | _, [], ss => ss.isEmpty
  | i, f :: fs, ss => (match ss with
    | .Assign [.Attribute (.Name x _) name _] (.Name y _) _ :: ss => slotC N 0 x && visC sc x && okN x && slotC N i y && visC sc y && okN y && (match nm[f]? with
      | some z => z == name
      | none => false) && xbC nm N sc (i + 1) fs ss
    | _ => false)
structure XcK (T : Tb) (x : Nat) (xi : XI) : Prop where
  xf : XfC T.K (T.xa x)
  oe : OexC T.K (T.xa x)
  no : ∀ f, f ∈ xi.flds → ∃ n, T.nm[f]? = some n ∧ PySem.W.findIn T.K (.ref (T.xa x)) n = some none
  ini : ∃ (fI : Addr) (oc : Value) (od : Option Addr) (kV doc pm cdv ct : Value) (an : Option Addr) (osl : Array (Option Value)) (name qual : Str) (as : List Arg) (kwd : List (Option Expr)) (df : List Expr) (body : List Stmt) (scope : Scope) (ps N : List Str),
    PySem.W.findIn T.K (.ref (T.xa x)) "__init__" = some (some (.ref fI)) ∧ PySem.W.typeIn T.K (.ref fI) = some (.type "function") ∧
    T.K.lookup fI = some ⟨oc, od, .func (PySem.W.fnOf name qual { posonlyargs := [], args := as, vararg := none, kwonlyargs := [], kw_defaults := kwd, kwarg := none, defaults := df } body scope .none kV doc pm an cdv ct), osl⟩ ∧
    PySem.W.codeIn T.K cdv qual = true ∧ FnScope N ps scope ∧ as.map (·.arg) = ps ∧ ps.length = xi.flds.length + 1 ∧ xbC T.nm N scope 1 xi.flds (unDoc body) = true
structure HearK (T : Tb) (C : Ctx) (h : HI) : Prop where
  ex : ∃ (oc : Value) (od : Option Addr) (kV doc pm cdv ct : Value) (an : Option Addr) (osl : Array (Option Value)) (as : List Arg) (kwd : List (Option Expr)) (df : List Expr) (body : List Stmt) (scope : Scope) (a : Str) (N : List Str),
    T.K.lookup (T.fa h.fn) = some ⟨oc, od, .func (PySem.W.fnOf h.nm h.nm { posonlyargs := [], args := as, vararg := none, kwonlyargs := [], kw_defaults := kwd, kwarg := none, defaults := df } body scope .none kV doc pm an cdv ct), osl⟩ ∧
    PySem.W.codeIn T.K cdv h.nm = true ∧ FnScope N [a] scope ∧ as.map (·.arg) = [a] ∧ visC scope a = true ∧ okN a = true ∧ hearC C N scope h (unDoc body) = true
/-- no lambda is made here -/
def Ctx.off (C : Ctx) : Ctx := { C with lam := false }
def Ctx.on (C : Ctx) (b : Bool) : Ctx := { C with lam := b }
structure GsOk (T : Tb) (P : Pg) (C : Ctx) (mg : Str → Option Value) : Prop where
  nm : T.nm = C.nm
  gl : ∀ x g, C.gt.lookup x = some g → GOk T P mg x g
  nb : ∀ x, C.nb.contains x = true → mg x = none
  xc : ∀ (x : Nat) (xi : XI), P.xs[x]? = some xi → XcK T x xi
  xm : ∀ (x y : Nat) (xi : XI), P.xs[x]? = some xi → y < P.xs.length → PySem.W.exmOne T.K (.ref (T.xa x)) (.ref (T.xa y)) = some (xi.anc.contains y)
  pn : ∀ (f : Nat) (l : List Str), C.pns[f]? = some l → T.pn f = l
  hk : ∀ (i : Nat) (h : HI), P.hi[i]? = some h → HearK T C.off h
/-- a lambda may be made here: the code object and its table -/
structure LamOk (T : Tb) (X : Cx) : Prop where
  ex : ∃ c Pa : Addr, X.env.code = .ref c ∧ LamX.TabB X.base X.mg c Pa ∧ (Pa, X.env.qual ++ "<lambda>") ∈ T.tbs ∧ ∀ p ∈ T.tbs, p.1 = Pa → p.2 = X.env.qual ++ "<lambda>"
structure XOk (T : Tb) (P : Pg) (C : Ctx) (N : List Str) (sc : Scope) (X : Cx) : Prop where
  eN : X.N = N
  nd : N.Nodup
  eS : X.env.scope = sc
  kd : sc.kind = .function
  gs : GsOk T P C X.mg
  lam : C.lam = true → LamOk T X
theorem GsOk.on {T : Tb} {P : Pg} {C : Ctx} {mg : Str → Option Value} (g : GsOk T P C mg) (b : Bool) : GsOk T P (C.on b) mg := ⟨g.nm, g.gl, g.nb, g.xc, g.xm, g.pn, g.hk⟩
def isTup : Expr → Bool
  | .Tuple _ _ _ => true
  | _ => false
def nameC (C : Ctx) (i : Nat) (x : Str) : Bool := match C.nm[i]? with
  | some y => y == x
  | none => false
def bltC (C : Ctx) (sc : Scope) (x y : Str) : Bool := glC sc x && okN x && C.nb.contains x && x == y
def ownL (N : List Str) : List Nat → List (Str × Nat)
  | [] => []
  | i :: is => ((N[i]?).getD Str.empty, i) :: ownL N is
def notBO : Expr → Bool
  | .BoolOp _ _ _ => false
  | _ => true
/-- keywords behind n values, in the order of the parameters -/
def kwC (C : Ctx) (f n : Nat) (kws : List Keyword) : Bool := match C.pns[f]? with
  | some l => decide (kws.map (·.arg) = ((l.drop n).take kws.length).map some) && decide (n + kws.length ≤ l.length)
  | none => false
/-- no parameters -/
def noPars : Arguments → Bool
  | ⟨[], [], none, [], [], none, []⟩ => true
  | _ => false
/-- a block's names, seen from within -/
def relS (sc scope : Scope) : Scope := { scope with names := scope.names.map fun (n, k) => if (k == NameKind.free && sc.kind == .function && sc.names.lookup n == some .cell) then (n, NameKind.cell) else (n, k) }
mutual
def ckE (P : Pg) (C : Ctx) (N : List Str) : Scope → ME → Expr → Bool
  | sc, .var i, e => (match e with
    | .Name x _ => slotC N i x && visC sc x && okN x
    | _ => false)
  | sc, .con d, e => (match e with
    | .Constant c _ _ => conC d c
    | .Name x _ => glC sc x && okN x && (match C.gt.lookup x, d with
      | some (.fn f), .fn g => decide (f = g)
      | some (.cls f), .cls g => decide (f = g)
      | _, _ => false)
    | _ => false)
  | sc, .glo i, e => (match e with
    | .Name x _ => glC sc x && okN x && (match C.gt.lookup x with
      | some (.val j) => decide (i = j)
      | _ => false)
    | _ => false)
  | sc, .bin op a b, e => (match e with
    | .BinOp x o y _ => decide (bopO op = o) && ckE P C N sc a x && ckE P C N sc b y
    | _ => false)
  | sc, .neg a, e => (match e with
    | .UnaryOp .USub x _ => ckE P C N sc a x
    | _ => false)
  | sc, .not a, e => (match e with
    | .UnaryOp .Not x _ => ckE P C N sc a x
    | _ => false)
  | sc, .one a, e => (match e with
    | .BoolOp op [x] _ => ckE P C N sc a x
    | _ => false)
  | sc, .and a b, e => (match e with
    | .BoolOp .And (x :: y :: r) p => ckE P C N sc a x && ckE P C N sc b (.BoolOp .And (y :: r) p)
    | _ => false)
  | sc, .or a b, e => (match e with
    | .BoolOp .Or (x :: y :: r) p => ckE P C N sc a x && ckE P C N sc b (.BoolOp .Or (y :: r) p)
    | _ => false)
  | sc, .cmp op a b, e => (match e with
    | .Compare x [o] [y] _ => copEq op o && plainSet y && ckE P C N sc a x && ckE P C N sc b y
    | _ => false)
  | sc, .isN a, e => (match e with
    | .Compare x [.Is] [.Constant .none _ _] _ => ckE P C N sc a x
    | _ => false)
  | sc, .notN a, e => (match e with
    | .Compare x [.IsNot] [.Constant .none _ _] _ => ckE P C N sc a x
    | _ => false)
  | sc, .chain o1 o2 a b c, e => (match e with
    | .Compare x [p1, p2] [y, z] _ => copEq o1 p1 && copEq o2 p2 && plainSet z && ckE P C N sc a x && ckE P C N sc b y && ckE P C N sc c z
    | _ => false)
  | sc, .ife c a b, e => (match e with
    | .IfExp t x y _ => ckE P C N sc c t && ckE P C N sc a x && ckE P C N sc b y
    | _ => false)
  | sc, .call f es, e => (match e with
    | .Call (.Name x _) xs [] _ => glC sc x && okN x && (match C.gt.lookup x with
      | some (.fn g) => decide (f = g)
      | _ => false) && noStar xs && ckEs P C N sc es xs
    | _ => false)
  | sc, .new c es, e => (match e with
    | .Call (.Name x _) xs [] _ => glC sc x && okN x && (match C.gt.lookup x with
      | some (.cls g) => decide (c = g)
      | _ => false) && noStar xs && ckEs P C N sc es xs
    | _ => false)
  | sc, .meth o m es, e => (match e with
    | .Call (.Attribute x name ap) xs [] p => nameC C m name && plainO x && noStar xs && decide (xs.length < 30) && (ap.endLine == p.line) && ckE P C N sc o x && ckEs P C N sc es xs
    | _ => false)
  | sc, .stat c m es, e => (match e with
    | .Call (.Attribute (.Name x _) name ap) xs [] p => glC sc x && okN x && (match C.gt.lookup x with
      | some (.cls g) => decide (c = g)
      | _ => false) && (P.cs[c]?.bind fun ci => ci.stat.lookup m).isSome && nameC C m name && noStar xs && decide (xs.length < 30) && (ap.endLine == p.line) && ckEs P C N sc es xs
    | _ => false)
  | sc, .attr o f, e => (match e with
    | .Attribute x name _ => nameC C f name && plainO x && ckE P C N sc o x
    | _ => false)
  | sc, .self f, e => (match e with
    | .Attribute (.Name x _) name _ => nameC C f name && slotC N 0 x && visC sc x && okN x
    | _ => false)
  | sc, .bi b es, e => (match e with
    | .Call (.Name x _) (y :: xs) [] _ => (match b with
      | .gcd => glC sc x && okN x && (match C.gt.lookup x with
        | some (.bi id) => decide (id = "math.gcd")
        | _ => false)
      | b => (match biNm b with
        | some z => bltC C sc x z
        | none => false)) && noStar (y :: xs) && ckEs P C N sc es (y :: xs)
    | _ => false)
  | sc, .isi a ks, e => (match e with
    | .Call (.Name x _) [y, z] [] _ => bltC C sc x "isinstance" && noStar [y, z] && ckE P C N sc a y && (match z with
      | .Tuple cs _ _ => !ks.isEmpty && decide (ks.length < 100) && noStar cs && clssC C sc ks cs
      | z => (match ks with
        | [i] => clsC C sc i z
        | _ => false))
    | _ => false)
  | sc, .idx a i, e => (match e with
    | .Subscript x y _ => plainIx y && ckE P C N sc a x && ckE P C N sc i y
    | _ => false)
  | sc, .slice a lo hi, e => (match e with
    | .Subscript x (.Slice l h none _) _ => ckE P C N sc a x && ckO P C N sc lo l && ckO P C N sc hi h
    | _ => false)
  | sc, .tup es, e => (match e with
    | .Tuple xs _ _ => noStar xs && ckEs P C N sc es xs
    | _ => false)
  | sc, .lst _ es, e => (match e with
    | .List xs _ => noStar xs && ckEs P C N sc es xs
    | _ => false)
  | sc, .comp elt p own it test, e => (match e with
    | .ListComp x [⟨tg, iter, ifs, 0⟩] scope _ => blkC N sc scope (ownL N own) && plainSet iter && patC N scope p tg && (patSlots p).all own.contains && ckI P C N sc it iter tg && ckT P C N (relS sc scope) test ifs && ckE P C N (relS sc scope) elt x
    | _ => false)
  | sc, .app o a, e => (match e with
    | .Call (.Attribute x name ap) [y] [] p => (name == ("append" : Str)) && plainO x && noStar [y] && (ap.endLine == p.line) && ckE P C N sc o x && ckE P C N sc a y
    | _ => false)
  | sc, .frz a, e => notBO e && ckE P C N sc a e && plainT e
  | sc, .kcall f es ks, e => (match e with
    | .Call (.Name x _) xs kws _ => glC sc x && okN x && (match C.gt.lookup x with
      | some (.fn g) => decide (f = g)
      | _ => false) && noStar xs && kwC C f xs.length kws && ckEs P C N sc es xs && ckEs P C N sc ks (kws.map (·.value))
    | _ => false)
  | sc, .kmeth o m es ks, e => (match e with
    | .Call (.Attribute x name ap) xs kws p => nameC C m name && plainO x && noStar xs && decide (xs.length + kws.length < 15) && (ap.endLine == p.line) && (kws.all fun q => q.arg.isSome) && (P.cs.all fun ci => match ci.meth.lookup m with
      | some g => kwC C g (xs.length + 1) kws
      | none => true) && ckE P C N sc o x && ckEs P C N sc es xs && ckEs P C N sc ks (kws.map (·.value))
    | _ => false)
  | sc, .heard i a, e => C.lam && (match P.hi[i]? with
    | some h => (match e with
      | .Call (.Name x _) [.Lambda ps body scope _] [] _ => glC sc x && okN x && (x == h.nm) && (match C.gt.lookup x with
        | some (.fn g) => decide (g = h.fn)
        | _ => false) && noPars ps && LamX.lamSB sc scope && ckE P C.off N scope a body
      | _ => false)
    | none => false)
def ckEs (P : Pg) (C : Ctx) (N : List Str) : Scope → MEs → List Expr → Bool
  | _, .nil, es => es.isEmpty
  | sc, .cons a r, es => (match es with
    | x :: xs => ckE P C N sc a x && ckEs P C N sc r xs
    | [] => false)
def ckO (P : Pg) (C : Ctx) (N : List Str) : Scope → MO → Option Expr → Bool
  | _, .none, e => e.isNone
  | sc, .some a, e => (match e with
    | some x => ckE P C N sc a x
    | none => false)
def ckT (P : Pg) (C : Ctx) (N : List Str) : Scope → MO → List Expr → Bool
  | _, .none, es => es.isEmpty
  | sc, .some a, es => (match es with
    | [x] => ckE P C N sc a x
    | _ => false)
def ckI (P : Pg) (C : Ctx) (N : List Str) : Scope → MI → Expr → Expr → Bool
  | sc, .ex a, e, _ => ckE P C N sc a e
  | sc, .rng1 a, e, _ => (match e with
    | .Call (.Name x _) [y] [] _ => bltC C sc x "range" && noStar [y] && ckE P C N sc a y
    | _ => false)
  | sc, .rng2 a b, e, _ => (match e with
    | .Call (.Name x _) [y, z] [] _ => bltC C sc x "range" && noStar [y, z] && ckE P C N sc a y && ckE P C N sc b z
    | _ => false)
  | sc, .enum a, e, tg => (match e with
    | .Call (.Name x _) [y] [] _ => isTup tg && bltC C sc x "enumerate" && noStar [y] && ckE P C N sc a y
    | _ => false)
  | sc, .zip a b, e, tg => (match e with
    | .Call (.Name x _) [y, z] [] _ => isTup tg && bltC C sc x "zip" && noStar [y, z] && ckE P C N sc a y && ckE P C N sc b z
    | _ => false)
end
/-! ### what the checks say -/
theorem slot_of {N : List Str} {i : Nat} {x : Str} (h : slotC N i x = true) : N[i]? = some x := by
  unfold slotC at h
  cases e : N[i]? with
  | none => rw [e] at h; cases h
  | some y => rw [e] at h; exact congrArg some (eq_of_beq h)
theorem name_of {C : Ctx} {T : Tb} (hn : T.nm = C.nm) {i : Nat} {x : Str} (h : nameC C i x = true) : T.nm[i]? = some x := by
  unfold nameC at h
  rw [hn]
  cases e : C.nm[i]? with
  | none => rw [e] at h; cases h
  | some y => rw [e] at h; exact congrArg some (eq_of_beq h)
theorem okN_of {x : Str} (h : okN x = true) : (x == ("__debug__" : Str)) = false ∧ (x == ("__classdict__" : Str)) = false ∧ x ≠ "__name__" := by
  unfold okN at h
  obtain ⟨h1, h3⟩ := bt h
  obtain ⟨h1, h2⟩ := bt h1
  refine ⟨by simpa using h1, by simpa using h2, fun z => ?_⟩
  rw [z] at h3; revert h3; simp
section
variable {T : Tb} {P : Pg} {k : Nat} {Wx : WX} {X : Cx} {C : Ctx} {N : List Str} {sc : Scope}
theorem vis_of (xo : XOk T P C N sc X) {x : Str} (h : visC sc x = true) : Vis X.env.scope x := by
  rw [xo.eS]
  unfold visC at h
  unfold Vis
  cases e : sc.names.lookup x with
  | none => rw [e] at h; cases h
  | some kk => rw [e] at h; cases kk <;> simp_all
theorem gl_of (xo : XOk T P C N sc X) {x : Str} (h : glC sc x = true) : Gl X x := by
  show X.env.scope.names.lookup x = _
  rw [xo.eS]
  unfold glC at h
  cases e : sc.names.lookup x with
  | none => rw [e] at h; cases h
  | some kk => rw [e] at h; cases kk <;> simp_all
/-- what may be stored -/
def FnC (X : Cx) (sc : Scope) : Prop := ∀ x, locC sc x = true → L2.Loc X.env.scope x ∧ (X.fn x = true ∨ X.env.scope.names.lookup x = some .local)
theorem loc_of (xo : XOk T P C N sc X) (hf : ∀ x, sc.names.lookup x = some .cell → X.fn x = true) {x : Str} (h : locC sc x = true) : L2.Loc X.env.scope x ∧ (X.fn x = true ∨ X.env.scope.names.lookup x = some .local) := by
  rw [xo.eS]
  unfold locC at h
  unfold L2.Loc
  cases e : sc.names.lookup x with
  | none => rw [e] at h; cases h
  | some kk =>
    rw [e] at h
    cases kk with
    | «local» => exact ⟨.inl rfl, .inr rfl⟩
    | cell => exact ⟨.inr rfl, .inl (hf x e)⟩
    | _ => cases h
theorem blt_of (xo : XOk T P C N sc X) {x y : Str} (h : bltC C sc x y = true) : Gl X x ∧ X.mg x = none ∧ x = y ∧ (x == ("__debug__" : Str)) = false ∧ x ≠ "__name__" := by
  unfold bltC at h
  obtain ⟨h, h4⟩ := bt h
  obtain ⟨h, h3⟩ := bt h
  obtain ⟨h1, h2⟩ := bt h
  exact ⟨gl_of xo h1, xo.gs.nb x h3, eq_of_beq h4, (okN_of h2).1, (okN_of h2).2.2⟩
theorem con_of {d : D} {c : Const} {j : Nat} {p : Pos} (h : conC d c = true) : PE X (.Constant c j p) (tE T Wx fun _ S => .ok d S) := by
  cases d with
  | non => cases c <;> first | exact absurd (show false = true from h) Bool.false_ne_true | exact m_con pe_non fun _ _ => .non
  | bl b => cases c <;> first | exact absurd (show false = true from h) Bool.false_ne_true | (cases (eq_of_beq (show (b == _) = true from h)); exact m_con pe_bl fun _ _ => .bl _)
  | int b => cases c <;> first | exact absurd (show false = true from h) Bool.false_ne_true | (cases (eq_of_beq (show (b == _) = true from h)); exact m_con pe_int fun _ _ => .int _)
  | str b => cases c <;> first | exact absurd (show false = true from h) Bool.false_ne_true | (cases (eq_of_beq (show (b == _) = true from h)); exact m_con pe_str fun _ _ => .str _)
  | _ => cases c <;> exact absurd (show false = true from h) Bool.false_ne_true
theorem cls_of (xo : XOk T P C N sc X) {i : IK} {e : Expr} (h : clsC C sc i e = true) : PE X e (tC (ikV T i)) := by
  cases i with
  | own c =>
    cases e <;> first | exact absurd (show false = true from h) Bool.false_ne_true | skip
    rename_i x p
    have h' : (glC sc x && okN x && (match C.gt.lookup x with
      | some (.cls d) => decide (d = c)
      | _ => false)) = true := h
    obtain ⟨h1, h3⟩ := bt h'
    obtain ⟨h1, h2⟩ := bt h1
    split at h3
    · rename_i d e
      have hd := of_decide_eq_true h3
      subst hd
      obtain ⟨q1, q2⟩ := xo.gs.gl x _ e
      exact pe_glob (gl_of xo h1) q1 rfl (okN_of h2).1
    · cases h3
  | ty n =>
    cases e <;> first | exact absurd (show false = true from h) Bool.false_ne_true | skip
    rename_i x p
    have h' : (glC sc x && okN x && C.nb.contains x && decide (bootBuiltins x = some (.type n))) = true := h
    obtain ⟨h1, h4⟩ := bt h'
    obtain ⟨h1, h3⟩ := bt h1
    obtain ⟨h1, h2⟩ := bt h1
    exact pe_bltn (gl_of xo h1) (xo.gs.nb x h3) (of_decide_eq_true h4) rfl (okN_of h2).2.2 (okN_of h2).1
theorem clss_of (xo : XOk T P C N sc X) : ∀ {ks : List IK} {es : List Expr}, clssC C sc ks es = true → noStar es = true → CsOk T X es ks
  | [], [], _, _ => cs_nil
  | [], _ :: _, h, _ => by cases h
  | _ :: _, [], h, _ => by cases h
  | i :: ks, e :: es, h, hn => cs_cons (cls_of xo (bt h).1) (clss_of xo (bt h).2 (star_cons (env := X.env) hn).2) hn
mutual
theorem pat_of (hc : X.calm = true) (hK : X.K = T.K) (eN : X.N = N) (nd : N.Nodup) (fc : FnC X sc) : ∀ (p : Pat) (e : Expr), patC N sc p e = true → PG X e (gP T p)
  | .slot i, e, h => by
    simp only [patC] at h
    split at h
    · obtain ⟨h1, h2⟩ := bt h
      obtain ⟨l1, l2⟩ := fc _ h2
      exact g_slot (by rw [eN]; exact nd) (by rw [eN]; exact slot_of h1) l1 l2
    · cases h
  | .nil, e, h => by
    simp only [patC] at h
    split at h
    · exact g_tup hc hK g_nil rfl rfl rfl
    · cases h
  | .cons p r, e, h => by
    simp only [patC] at h
    split at h
    · rename_i x es _ _
      obtain ⟨h1, h3⟩ := bt h
      obtain ⟨h1, h2⟩ := bt h1
      obtain ⟨a1, a2, a3⟩ := pats_of hc hK eN nd fc r es h3
      exact g_tup hc hK (g_cons (pat_of hc hK eN nd fc p x h2) a1 h1) (by show (plainG x && plainGs es) = true; rw [h1, a2]; rfl) (by show es.length + 1 = patLen r + 1; rw [a3]) rfl
    · cases h
theorem pats_of (hc : X.calm = true) (hK : X.K = T.K) (eN : X.N = N) (nd : N.Nodup) (fc : FnC X sc) : ∀ (p : Pat) (es : List Expr), patsC N sc p es = true → PGs X es (gPs T p) ∧ plainGs es = true ∧ es.length = patLen p
  | .nil, es, h => by
    simp only [patsC] at h
    cases es with
    | nil => exact ⟨g_nil, rfl, rfl⟩
    | cons _ _ => cases h
  | .cons p r, es, h => by
    simp only [patsC] at h
    split at h
    · rename_i x es
      obtain ⟨h1, h3⟩ := bt h
      obtain ⟨h1, h2⟩ := bt h1
      obtain ⟨a1, a2, a3⟩ := pats_of hc hK eN nd fc r es h3
      exact ⟨g_cons (pat_of hc hK eN nd fc p x h2) a1 h1, by show (plainG x && plainGs es) = true; rw [h1, a2]; rfl, by show es.length + 1 = patLen r + 1; rw [a3]⟩
    · cases h
  | .slot _, es, h => by simp only [patsC] at h; cases h
end
theorem own_map {N : List Str} : ∀ own : List Nat, (ownL N own).map (·.2) = own
  | [] => rfl
  | i :: is => by unfold ownL; rw [List.map_cons, own_map is]
theorem fold_of {iter : Expr} {env : Env} (h : plainSet iter = true) : ∀ x, foldedSetIterable iter env x = pure x := by
  intro x
  cases iter <;> first
    | exact absurd (show false = true from h) Bool.false_ne_true
    | rfl
end
end Mi
end

section
set_option maxRecDepth 100000
/-! Mi: several clauses `except x as n`. -/
namespace Mi
open PySem PySem.Spec L2 PyProof.Rows
/-- a clause: the class that it names; what its suite does -/
abbrev Cl := Value × (Addr → Value → Option Addr → TS)
/-- behind a clause its name is gone -/
def endAs (i : Nat) (D : Ends) : Ends :=
  { nx := fun σ H => D.nx (σ.set i none) H, rt := D.rt, bk := fun σ H => D.bk (σ.set i none) H, ct := fun σ H => D.ct (σ.set i none) H }
def wAsM (K : PySem.W.Frag) (i : Nat) (Wo : WX) (D : Ends) : List Cl → WX
  | [], cls, d, σ, H => Wo cls d σ H
  | p :: r, cls, d, σ, H => ∃ b, PySem.W.exmOne K cls p.1 = some b ∧ (b = true → ∀ a, H a = none → p.2 a cls d (endAs i D) (σ.set i (some (.ref a))) H) ∧ (b = false → wAsM K i Wo D r cls d σ H)
inductive AsOk (X : Cx) (n : Str) : List ExceptHandler → List Cl → Prop
  | nil : AsOk X n [] []
  | cons {x : Str} {c : Value} {ts : Addr → Value → Option Addr → TS} {b₀ : Stmt} {su : List Stmt} {np pe : Pos} {hds : List ExceptHandler} {l : List Cl} : Names X x c →
      (∀ (a : Addr) (oe : Obj) (cls : Value) (d : Option Addr) (pn : List (Addr × Obj)), Zc cls d oe → (∃ vs, oe.data = .fields vs) → PSs (X.suite a ((a, oe) :: pn)) (b₀ :: su) (ts a cls d)) → AsOk X n hds l →
      AsOk X n (.ExceptHandler (some (.Name x np)) (some n) (b₀ :: su) pe :: hds) ((c, ts) :: l)
section
variable {X : Cx} {n : Str} {i : Nat} {bd : List Stmt} {h0 : ExceptHandler} {hds : List ExceptHandler} {l : List Cl} {ps : Pos} {tb : WX → TS} {Wo : WX}
theorem ps_asM (hs : X.stack = X.env :: X.outer) (hf : X.env.frame = some X.env.locals) (hN : X.N.Nodup) (hi : X.N[i]? = some n) (hln : X.env.kindOf n = some .local) (tk : Takes X Wo)
    (hb : ∀ (W : WX) (pn : List (Addr × Obj)) (xe : Value → Shared → Prop), Takes (X.tr pn xe) W → PassesOwn (model X.prog X.w) X.A X.env xe → PSs (X.tr pn xe) bd (tb W)) (ok : AsOk X n (h0 :: hds) l) :
    PS X (.Try bd (h0 :: hds) [] [] ps) (fun D σ H => tb (wAsM X.K i Wo D l) D σ H) := by
  refine ⟨fun pins s σ H D I pre => wpAny_Try_except ?_⟩
  have okI := I.ok
  have frI : X.A.frames = some (X.env :: X.outer) := okI.frames.trans (by rw [hs])
  have hl0 : Loc X.env.scope n := .inl hln
  refine wpAny_mono ((hb (wAsM X.K i Wo D l) (X.pn ++ pins) (fun e t1 => wpAny (model X.prog X.w) X.A (noteFrame e X.env) (fun _ t2 => wpAny (model X.prog X.w) X.A (setFlight e none) (fun _ t3 => wpAny (model X.prog X.w) X.A (handleBy e X.env (h0 :: hds)) (SP X pins D) X.xe t3) X.xe t2) X.xe t1)
    (fun u t xx => ?_) PassesOwn.looking).run [] s σ H D (I.toTry _) pre) (fun fl t end1 => ?_) (fun _ _ z => z)
  · obtain ⟨a, B, sI, pi, τ, G, cls, d, rfl, J0, nb, up, sky, na, os, ag, w⟩ := xx
    have J : Inv X pins τ G sI := J0.ofTry okI
    rw [hs] at sky
    show wpAny (model X.prog X.w) X.A (noteFrame (.ref a) X.env) _ _ _
    refine Sky.land Zc.steady frI hf sky fun g fly up2 => ?_
    have J1 : Inv X pins τ G { t with heap := g } := J.landed nb fly.1 (up.trans up2) os ag
    obtain ⟨oe, us, ea, za, da⟩ := fly.there
    have away : a ∉ frs (X.env :: X.outer) := fun hm => by
      obtain ⟨_, o', e', hnf⟩ := fly.2.2.1.mem hm
      rw [ea] at e'; cases e'
      exact hnf _ da
    have nL : a ≠ X.env.locals := fun z => away (List.mem_filterMap.mpr ⟨X.env, List.mem_cons_self, hf.trans (by rw [z])⟩)
    have nF : a ∉ X.fs := fun hm => away (by
      obtain ⟨e, he, q⟩ := List.mem_filterMap.mp hm
      exact List.mem_filterMap.mpr ⟨e, List.mem_cons_of_mem _ he, q⟩)
    have S1 := J1.suite ea da na nL nF
    -- the clauses one by one
    have go : ∀ {hs' : List ExceptHandler} {l' : List Cl}, AsOk X n hs' l' → wAsM X.K i Wo D l' cls d τ G → wpAny (model X.prog X.w) X.A (handleBy (.ref a) X.env hs') (SP X pins D) X.xe { t with heap := g } := by
      intro hs' l' hk
      induction hk with
      | nil =>
        intro w
        obtain ⟨_, _, _, oe', us', T, oT, ts', he', _, hd', hT, _⟩ := id fly
        refine wpAny_handleBy_nil ?_
        unfold PySem.passOn
        refine wpAny_bind (wpAny_field he' hd' hT ?_)
        rw [if_neg (by simp : ¬ ((Value.ref T == Value.none) = true))]
        have out : wpAny (model X.prog X.w) X.A (setFlight (.ref a) X.env.frame) (fun _ t4 => wpAny (model X.prog X.w) X.A (throw (.ref a) : Sem Flow) (SP X pins D) X.xe t4) X.xe { t with heap := g } := by
          rw [hf]
          exact HandSPX.setFlight_upZ fly fun g4 fly4 up4 => wpAny_throw (tk _ _ ⟨a, B, sI, pins, τ, G, cls, d, rfl, J, nb, (up.trans up2).trans up4, .inr (.inr (by rw [hs]; exact fly4)), na, os, ag, w⟩)
        first
          | exact wpAny_bind (wpAny_pure (wpAny_bind out))
          | exact wpAny_bind out
      | @cons x c ts b₀ su np pe hds2 l2 hc hsu r ih =>
        intro w
        obtain ⟨b, eb, yes, no⟩ := w
        refine wpAny_handleBy_cons (codeAny_handlers_test ?_) (by intro q; cases q)
        have looks : PySem.W.Looks (model X.prog X.w) g (typeOf (.ref a)) cls := fun A Q E s k q => wpAny_typeOf_ref (k _ _ ea) (by rw [za.1]; exact q)
        have hit := PySem.W.exm_one (M := model X.prog X.w) J1.kIn looks eb
        have named : ∀ {Q E : Value → Shared → Prop}, Q c { t with heap := g } → wpAny (model X.prog X.w) (X.A.mark (some (.ref a))) (eval (.Name x np) X.env) Q E { t with heap := g } := fun {Q E} q => by
          obtain ⟨k1, k2, k3 | ⟨k3, k4, k5⟩⟩ := hc
          · exact ld_glob (X := X.suite a ((a, oe) :: (X.pn ++ pins))) S1 k1 k3 q k2
          · exact ld_blt (X := X.suite a ((a, oe) :: (X.pn ++ pins))) S1 k1 k3 k4 q k5 k2
        refine named (hit.here ?_)
        cases b with
        | false => exact ih (no rfl)
        | true =>
          refine codeAny_handlers_suite_as (HandSPX.lands_againZ fly fun g4 fly4 up4 => ?_)
          have J4 : Inv X pins τ G { t with heap := g4 } := J.landed nb fly4.1 ((up.trans up2).trans up4) os ag
          obtain ⟨oe4, us4, ea4, za4, da4⟩ := fly4.there
          refine store_ok (X := X.suite a ((a, oe4) :: (X.pn ++ pins))) (v := .ref a) (J4.suite ea4 da4 na nL nF) hN hi hl0 rfl (fun t5 S5 => ?_) (.inr hln)
          refine wpAny_mono ((hsu a oe4 cls d (X.pn ++ pins) za4 ⟨_, da4⟩).run [] t5 _ G _ S5 (yes rfl a na)) (fun f t6 fin => ?_) (fun _ _ z => False.elim z)
          have gone : ∀ {ρ : L2.St} {G6 : Hp} {Q : Shared → Prop}, Inv (X.suite a ((a, oe4) :: (X.pn ++ pins))) [] ρ G6 t6 → (∀ t7, Inv X pins (ρ.set i none) G6 t7 → Q t7) →
              wpAny (model X.prog X.w) X.A (do bindName X.env n .none; unbindBehindTheSuite X.env n pe) (fun _ t7 => Q t7) X.xe t6 := fun S6 k => gone_ok (S6.unsuite okI) hN hi hln k
          cases f with
          | ret u =>
            obtain ⟨v6, ρ, G6, S6, r6, q6⟩ := fin
            exact gone S6 fun t7 J7 => ⟨v6, _, G6, J7, r6, q6⟩
          | next => obtain ⟨ρ, G6, S6, q6⟩ := fin; exact gone S6 fun t7 J7 => ⟨_, G6, J7, q6⟩
          | brk => obtain ⟨ρ, G6, S6, q6⟩ := fin; exact gone S6 fun t7 J7 => ⟨_, G6, J7, q6⟩
          | cont => obtain ⟨ρ, G6, S6, q6⟩ := fin; exact gone S6 fun t7 J7 => ⟨_, G6, J7, q6⟩
    exact go ok w
  · cases fl with
    | ret u => obtain ⟨v, τ, G, J, r, q⟩ := end1; exact ⟨v, τ, G, J.ofTry okI, r, q⟩
    | next => obtain ⟨τ, G, J, q⟩ := end1; exact wpAny_execs_nil ⟨τ, G, J.ofTry okI, q⟩
    | brk => obtain ⟨τ, G, J, q⟩ := end1; exact ⟨τ, G, J.ofTry okI, q⟩
    | cont => obtain ⟨τ, G, J, q⟩ := end1; exact ⟨τ, G, J.ofTry okI, q⟩
end
end Mi
end

section
set_option maxRecDepth 100000
set_option maxHeartbeats 4000000
/-! Mi: how positional values and defaults are bound. -/
namespace Mi
open PySem PySem.Spec L2 PyProof.Rows
theorem forIn_fold {α β : Type} (f : α → β → Sem (ForInStep β)) (g : β → α → β) (h : ∀ a b, f a b = pure (.yield (g b a))) : ∀ (l : List α) (b : β), forIn l b f = (pure (l.foldl g b) : Sem β)
  | [], b => by rw [List.forIn_nil]; rfl
  | a :: l, b => by
    rw [List.forIn_cons, h, pure_bind]
    exact forIn_fold f g h l (g b a)
def addDfl (slots : List (Str × Value)) (p : Str × Value) : List (Str × Value) := if (slots.lookup p.1).isNone then slots ++ [p] else slots
theorem zip_lookup {x : Str} : ∀ {ps : List Str} {us : List Value} {i : Nat}, ps.Nodup → ps[i]? = some x → (ps.zip us).lookup x = us[i]?
  | [], _, _, _, h => by simp at h
  | p :: ps, [], i, _, _ => by simp
  | p :: ps, u :: us, 0, nd, h => by
    simp at h; subst h
    simp [List.lookup_cons]
  | p :: ps, u :: us, i + 1, nd, h => by
    have nd' := (List.nodup_cons.mp nd)
    have hx : ps[i]? = some x := by simpa using h
    have hne : (x == p) = false := beq_eq_false_iff_ne.mpr fun z => nd'.1 (by rw [← z]; exact List.mem_of_getElem? hx)
    rw [List.zip_cons_cons, List.lookup_cons, hne]
    simpa using zip_lookup nd'.2 hx
theorem zip_none {x : Str} : ∀ {ps : List Str} {us : List Value}, x ∉ ps → (ps.zip us).lookup x = none
  | [], _, _ => by simp
  | p :: ps, [], _ => by simp
  | p :: ps, u :: us, h => by
    rw [List.zip_cons_cons, List.lookup_cons]
    have : (x == p) = false := beq_eq_false_iff_ne.mpr fun z => h (by rw [z]; exact List.mem_cons_self)
    rw [this]
    exact zip_none fun z => h (List.mem_cons_of_mem _ z)
/-- the defaults behind what is given -/
theorem dfl_fold : ∀ (ps : List Str) (us ds : List Value) (m : Nat), ps.Nodup → us.length = m → ps.length ≤ m + ds.length → m ≤ ps.length → ds.length ≤ ps.length →
    ((ps.drop (ps.length - ds.length)).zip ds).foldl addDfl (ps.zip us) = ps.zip (us ++ ds.drop (ds.length - (ps.length - m))) := by
  intro ps us ds m nd hm h1 h2 h3
  -- by what is still to come: positions j on
  have key : ∀ (n j : Nat), n = ds.length - j → j ≤ ds.length → ∀ sl : List (Str × Value), sl = ps.zip (us ++ (ds.drop (ds.length - (ps.length - m))).take (j - (ds.length - (ps.length - m)))) →
      (((ps.drop (ps.length - ds.length)).drop j).zip (ds.drop j)).foldl addDfl sl = ps.zip (us ++ ds.drop (ds.length - (ps.length - m))) := by
    intro n
    induction n with
    | zero =>
      intro j hj hjl sl hsl
      have hj' : j = ds.length := by omega
      subst hj'
      rw [List.drop_length, List.zip_nil_right, List.foldl_nil, hsl]
      congr 2
      rw [List.take_of_length_le]
      rw [List.length_drop]; omega
    | succ n ih =>
      intro j hj hjl sl hsl
      have hjd : j < ds.length := by omega
      have hjp : ps.length - ds.length + j < ps.length := by omega
      have e1 : (ps.drop (ps.length - ds.length)).drop j = ps[ps.length - ds.length + j] :: (ps.drop (ps.length - ds.length)).drop (j + 1) := by
        rw [List.drop_drop, List.drop_drop, List.drop_eq_getElem_cons hjp]; rfl
      rw [e1, List.drop_eq_getElem_cons hjd, List.zip_cons_cons, List.foldl_cons]
      refine ih (j + 1) (by omega) hjd _ ?_
      have hget : ps[ps.length - ds.length + j]? = some ps[ps.length - ds.length + j] := by simp [hjp]
      have hlen : (us ++ (ds.drop (ds.length - (ps.length - m))).take (j - (ds.length - (ps.length - m)))).length = m + (j - (ds.length - (ps.length - m))) := by
        rw [List.length_append, hm, List.length_take, List.length_drop]; omega
      unfold addDfl
      rw [hsl]
      simp only [zip_lookup nd hget]
      by_cases hc : j < ds.length - (ps.length - m)
      · have hs : (us ++ (ds.drop (ds.length - (ps.length - m))).take (j - (ds.length - (ps.length - m))))[ps.length - ds.length + j]?.isNone = false := by
          rw [List.getElem?_eq_getElem (by rw [hlen]; omega)]; rfl
        rw [hs]
        simp only [Bool.false_eq_true, if_false]
        rw [show j - (ds.length - (ps.length - m)) = 0 by omega, show j + 1 - (ds.length - (ps.length - m)) = 0 by omega]
      · have hs : (us ++ (ds.drop (ds.length - (ps.length - m))).take (j - (ds.length - (ps.length - m))))[ps.length - ds.length + j]?.isNone = true := by
          rw [List.getElem?_eq_none (by rw [hlen]; omega)]; rfl
        rw [hs]
        simp only [if_true]
        have e2 : j + 1 - (ds.length - (ps.length - m)) = (j - (ds.length - (ps.length - m))) + 1 := by omega
        rw [e2, List.take_add_one]
        have e3 : (ds.drop (ds.length - (ps.length - m)))[j - (ds.length - (ps.length - m))]? = some ds[j] := by
          rw [List.getElem?_drop, show ds.length - (ps.length - m) + (j - (ds.length - (ps.length - m))) = j by omega]; simp [hjd]
        rw [e3]
        simp only [Option.toList]
        rw [← List.append_assoc]
        generalize hL : us ++ (ds.drop (ds.length - (ps.length - m))).take (j - (ds.length - (ps.length - m))) = L at hlen
        have hLl : L.length = ps.length - ds.length + j := by rw [hlen]; omega
        have e4 : ps = ps.take L.length ++ ps[ps.length - ds.length + j] :: ps.drop (L.length + 1) := by
          rw [hLl, ← List.drop_eq_getElem_cons hjp, List.take_append_drop]
        have z1 : ∀ (A B : List Str) (b : Str) (L : List Value) (v : Value), A.length = L.length → (A ++ b :: B).zip (L ++ [v]) = A.zip L ++ [(b, v)] := by
          intro A
          induction A with
          | nil => intro B b L v h; cases L with
            | nil => simp
            | cons _ _ => cases h
          | cons a A ihA => intro B b L v h; cases L with
            | nil => cases h
            | cons l L => simp only [List.cons_append, List.zip_cons_cons]; rw [ihA B b L v (by simpa using h)]
        have z2 : ∀ (A B : List Str) (L : List Value), A.length = L.length → (A ++ B).zip L = A.zip L := by
          intro A
          induction A with
          | nil => intro B L h; cases L with
            | nil => simp
            | cons _ _ => cases h
          | cons a A ihA => intro B L h; cases L with
            | nil => cases h
            | cons l L => simp only [List.cons_append, List.zip_cons_cons]; rw [ihA B L (by simpa using h)]
        have ht : (ps.take L.length).length = L.length := by rw [List.length_take]; omega
        conv => lhs; arg 1; rw [e4, z2 _ _ L ht]
        conv => rhs; rw [e4, z1 _ _ _ L _ ht]
  have := key ds.length 0 (by omega) (Nat.zero_le _) (ps.zip us) (by simp)
  simpa using this
theorem zip_map : ∀ (ps : List Str) (us : List Value), ps.Nodup → us.length = ps.length → ∀ sl : List (Str × Value), (∀ x u, (x, u) ∈ ps.zip us → sl.lookup x = some u) → ps.filterMap (fun n => (sl.lookup n).map (n, ·)) = ps.zip us
  | [], us, _, _, sl, _ => by simp
  | p :: ps, [], _, h, sl, _ => by simp at h
  | p :: ps, u :: us, nd, h, sl, hs => by
    rw [List.zip_cons_cons, List.filterMap_cons, hs p u (by simp)]
    simp only [Option.map_some]
    rw [zip_map ps us (List.nodup_cons.mp nd).2 (by simpa using h) sl fun x v hv => hs x v (by rw [List.zip_cons_cons]; exact List.mem_cons_of_mem _ hv)]
theorem zip_self {ps : List Str} {us : List Value} (nd : ps.Nodup) (h : us.length = ps.length) : ps.filterMap (fun n => ((ps.zip us).lookup n).map (n, ·)) = ps.zip us :=
  zip_map ps us nd h _ fun x u hm => by
    obtain ⟨i, hi⟩ := List.mem_iff_getElem?.mp hm
    rw [List.getElem?_zip_eq_some] at hi
    rw [zip_lookup nd hi.1]; exact hi.2
theorem bind_gen {fd : FuncData} {as : List Arg} {kwd : List (Option Expr)} {df : List Expr} {ps : List Str} (hf : fd.params = { posonlyargs := [], args := as, vararg := none, kwonlyargs := [], kw_defaults := kwd, kwarg := none, defaults := df }) (hps : as.map (·.arg) = ps) (nd : ps.Nodup) (us its : List Value)
    (h1 : us.length ≤ ps.length) (h2 : its.length ≤ ps.length) (h3 : ps.length ≤ us.length + its.length) :
    ∃ k, bindArgs fd ⟨us, []⟩ = seqItems? fd.defaults >>= k ∧ k (some its.toArray) = pure (ps.zip (us ++ its.drop (its.length - (ps.length - us.length)))) ∧ (its = [] → k none = pure (ps.zip us)) := by
  unfold bindArgs
  rw [hf]
  simp only [List.map_nil, List.nil_append, hps, List.forIn_nil, pure_bind, List.append_nil]
  have c1 : (decide (us.length > ps.length) && true) = false := by simp; omega
  have e0 : its.length - ps.length = 0 := by omega
  have c2 : (ps.take (ps.length - its.length)).filter (fun n => ((ps.zip us).lookup n).isNone) = [] := by
    rw [List.filter_eq_nil_iff]
    intro n hn
    obtain ⟨i, hi⟩ := List.mem_iff_getElem?.mp hn
    rw [List.getElem?_take] at hi
    split at hi
    · rename_i hlt
      rw [zip_lookup nd hi, List.getElem?_eq_getElem (by omega)]
      simp
    · cases hi
  have fld := dfl_fold ps us its us.length nd rfl h3 h1 h2
  have zs : ps.filterMap (fun n => ((ps.zip (us ++ its.drop (its.length - (ps.length - us.length)))).lookup n).map (n, ·)) = ps.zip (us ++ its.drop (its.length - (ps.length - us.length))) :=
    zip_self nd (by rw [List.length_append, List.length_drop]; omega)
  refine ⟨_, rfl, ?_, ?_⟩
  · simp only [Option.getD_some, Option.isNone_none, c1, Bool.false_eq_true, if_false, pure_bind, e0, List.drop_zero]
    rw [c2]
    simp only [List.isEmpty_nil, Bool.not_true, Bool.false_eq_true, if_false]
    rw [forIn_fold _ addDfl (fun a b => by unfold addDfl; split <;> rfl), pure_bind, fld, zs]
  · intro hi
    subst hi
    simp only [Option.getD_none, Option.isNone_none, c1, Bool.false_eq_true, if_false, pure_bind, List.length_nil, Nat.zero_sub, List.drop_nil, List.append_nil, Nat.sub_zero] at c2 zs ⊢
    rw [c2]
    simp only [List.isEmpty_nil, Bool.not_true, Bool.false_eq_true, if_false, List.zip_nil_right, List.forIn_nil, pure_bind]
    rw [zs]
end Mi
end

section
set_option maxRecDepth 100000
set_option maxHeartbeats 1000000
/-! Mi: a hearer: try: ask() / except X as e: .. -/
namespace Mi
open PySem PySem.Spec L2 PyProof.Rows
/-! ### what a clause makes, by the hand layer's values -/
def conV : D → Option V
  | .non => some .non | .bl b => some (.bl b) | .int i => some (.int i) | .str s => some (.str s) | _ => none
def atV (nm : List Str) (fs : List (Str × V)) : At → Option V
  | .con d => conV d
  | .err f => (match nm[f]? with
    | some x => fs.lookup x
    | none => none)
def atsV (nm : List Str) (fs : List (Str × V)) : List At → Option (List V)
  | [] => some []
  | a :: l => (match atV nm fs a with
    | some d => (match atsV nm fs l with
      | some ds => some (d :: ds)
      | none => none)
    | none => none)
def tmW (nm : List Str) (fs : List (Str × V)) (tm : Tm) (H : Hp) (Q : VK) : Prop := match tm with
  | .one a => ∃ v, atV nm fs a = some v ∧ Q v H
  | .tup l => ∃ vs, atsV nm fs l = some vs ∧ vs.length ≤ sizeLine ∧ ∀ p, H p = none → Q (.ref p) (upd H p (.tup vs))
  | .lst l => ∃ vs, atsV nm fs l = some vs ∧ vs.length ≤ sizeLine ∧ ∀ p, H p = none → Q (.ref p) (upd H p (.lst vs))
/-- of the exception's class: the fields can be read -/
def FX (K : PySem.W.Frag) (nm : List Str) (cls : Value) (es : List Nat) : Prop := es = [] ∨ ∃ C, cls = .ref C ∧ XfC K C ∧ ∀ f, f ∈ es → ∀ x, nm[f]? = some x → PySem.W.findIn K (.ref C) x = some none
def Dyn (d : Option Addr) (fs : List (Str × V)) (H : Hp) (es : List Nat) : Prop := es = [] ∨ ∃ dd, d = some dd ∧ H dd = some (.xd fs)
section
variable {T : Tb} {P : Pg} {C : Ctx} {N : List Str} {sc : Scope} {X : Cx} {a : Addr} {oe : Obj} {cls : Value} {d : Option Addr} {pn : List (Addr × Obj)} {e : Nat} {nm : List Str}
/-- an atom's reading -/
def tAt (K : PySem.W.Frag) (nm : List Str) (cls : Value) (d : Option Addr) (ar : Addr) (e : Nat) (l : At) : TE := fun σ H Q => FX K nm cls (errs [l]) ∧ σ[e]? = some (some (.ref ar)) ∧ ∃ fs, Dyn d fs H (errs [l]) ∧ ∃ v, atV nm fs l = some v ∧ Q v H
theorem pe_if {x : Expr} {t : TE} {F : Prop} (h : F → PE X x t) : PE X x (fun σ H Q => F ∧ t σ H Q) := ⟨fun pins s σ H Q I q => (h q.1).run pins s σ H Q I q.2⟩
theorem con_pe {d0 : D} {c : Const} {j : Nat} {p : Pos} (h : conC d0 c = true) : PE X (.Constant c j p) (fun _ H Q => ∃ v, conV d0 = some v ∧ Q v H) := by
  cases d0 with
  | non => cases c <;> first | exact absurd (show false = true from h) Bool.false_ne_true | exact PE.imp pe_non fun _ _ _ ⟨v, q, r⟩ => by cases q; exact r
  | bl b => cases c <;> first | exact absurd (show false = true from h) Bool.false_ne_true | (cases (eq_of_beq (show (b == _) = true from h)); exact PE.imp pe_bl fun _ _ _ ⟨v, q, r⟩ => by cases q; exact r)
  | int b => cases c <;> first | exact absurd (show false = true from h) Bool.false_ne_true | (cases (eq_of_beq (show (b == _) = true from h)); exact PE.imp pe_int fun _ _ _ ⟨v, q, r⟩ => by cases q; exact r)
  | str b => cases c <;> first | exact absurd (show false = true from h) Bool.false_ne_true | (cases (eq_of_beq (show (b == _) = true from h)); exact PE.imp pe_str fun _ _ _ ⟨v, q, r⟩ => by cases q; exact r)
  | _ => cases c <;> exact absurd (show false = true from h) Bool.false_ne_true
theorem at_pe (eN : X.N = N) (eS : X.env.scope = sc) (hz : Zc cls d oe) (hf : ∃ vs, oe.data = .fields vs) {l : At} {x : Expr} (h : atC nm N sc e l x = true) : PE (X.suite a ((a, oe) :: pn)) x (tAt X.K nm cls d a e l) := by
  cases l with
  | con d0 =>
    simp only [atC] at h
    split at h
    · obtain ⟨h1, h2⟩ := bt h
      exact PE.imp (con_pe h2) fun σ H Q ⟨_, _, fs, _, v, q, r⟩ => ⟨v, q, r⟩
    · cases h
  | err f =>
    simp only [atC] at h
    split at h
    · rename_i y py name pp
      obtain ⟨h, h4⟩ := bt h
      obtain ⟨h, h3⟩ := bt h
      obtain ⟨h1, h2⟩ := bt h
      have hnm : nm[f]? = some name := by
        cases q : nm[f]? with
        | none => rw [q] at h4; cases h4
        | some z => rw [q] at h4; exact congrArg some (eq_of_beq h4)
      refine pe_if fun hF => ?_
      rcases hF with hF | ⟨Cx, ec, xf, hn⟩
      · cases hF
      have hv : Vis (X.suite a ((a, oe) :: pn)).env.scope y := by
        show Vis X.env.scope y
        rw [eS]
        unfold visC at h2
        unfold Vis
        cases q : sc.names.lookup y with
        | none => rw [q] at h2; cases h2
        | some kk => rw [q] at h2; cases kk <;> simp_all
      have hp : PE (X.suite a ((a, oe) :: pn)) (.Name y py) (tVar e) := pe_var (by show X.N[e]? = _; rw [eN]; exact slot_of h1) hv (okN_of h3).1 (okN_of h3).2.1
      refine PE.imp (pe_xf xf (hn f (by simp [errs]) name hnm) hz hf hp (by rfl)) fun σ H Q ⟨hs, fs, dy, v, q, r⟩ => ?_
      rcases dy with dy | ⟨dd, ed, hd⟩
      · cases dy
      simp only [atV, hnm] at q
      exact ⟨.ref a, hs, rfl, ec, dd, fs, v, ed, hd, q, r⟩
    · cases h
def tAts (K : PySem.W.Frag) (nm : List Str) (cls : Value) (d : Option Addr) (ar : Addr) (e : Nat) (l : List At) : TA := fun σ H Q => FX K nm cls (errs l) ∧ σ[e]? = some (some (.ref ar)) ∧ ∃ fs, Dyn d fs H (errs l) ∧ ∃ vs, atsV nm fs l = some vs ∧ Q vs H
theorem errs_cons {l : At} {r : List At} : errs (l :: r) = errs [l] ++ errs r := by cases l <;> rfl
theorem fx_cons {K : PySem.W.Frag} {es fs : List Nat} (h : FX K nm cls (es ++ fs)) : FX K nm cls es ∧ FX K nm cls fs := by
  rcases h with h | ⟨Cx, h1, h2, h3⟩
  · exact ⟨.inl (List.append_eq_nil_iff.mp h).1, .inl (List.append_eq_nil_iff.mp h).2⟩
  · exact ⟨.inr ⟨Cx, h1, h2, fun f q => h3 f (List.mem_append_left _ q)⟩, .inr ⟨Cx, h1, h2, fun f q => h3 f (List.mem_append_right _ q)⟩⟩
theorem dyn_cons {fs : List (Str × V)} {H : Hp} {l r : List Nat} (h : Dyn d fs H (l ++ r)) : Dyn d fs H l ∧ Dyn d fs H r := by
  rcases h with h | h
  · exact ⟨.inl (List.append_eq_nil_iff.mp h).1, .inl (List.append_eq_nil_iff.mp h).2⟩
  · exact ⟨.inr h, .inr h⟩
theorem ats_pa (eN : X.N = N) (eS : X.env.scope = sc) (hz : Zc cls d oe) (hf : ∃ vs, oe.data = .fields vs) : ∀ {l : List At} {xs : List Expr}, noStar xs = true → atsC nm N sc e l xs = true → PA (X.suite a ((a, oe) :: pn)) xs (tAts X.K nm cls d a e l)
  | [], xs, _, h => by
    cases xs with
    | nil => exact ⟨fun pos pins s σ H Q I ⟨_, _, fs, _, vs, q, r⟩ => pa_nil.run pos pins s σ H Q I (by cases q; exact r)⟩
    | cons _ _ => simp [atsC] at h
  | l :: ls, xs, hn, h => by
    cases xs with
    | nil => simp [atsC] at h
    | cons x xs =>
      simp only [atsC] at h
      obtain ⟨h1, h2⟩ := bt h
      refine ⟨fun pos pins s σ H Q I ⟨hF, hs, fs, dy, vs, q, r⟩ => (pa_cons (at_pe eN eS hz hf h1) (ats_pa eN eS hz hf (star_cons (env := X.env) hn).2 h2) (star_cons hn).1).run pos pins s σ H Q I ?_⟩
      rw [errs_cons] at hF dy
      obtain ⟨f1, f2⟩ := fx_cons hF
      obtain ⟨d1, d2⟩ := dyn_cons dy
      unfold atsV at q
      cases e1 : atV nm fs l with
      | none => rw [e1] at q; cases q
      | some v =>
        rw [e1] at q
        cases e2 : atsV nm fs ls with
        | none => simp [e2] at q
        | some vs2 =>
          simp only [e2] at q
          cases q
          exact ⟨f1, hs, fs, d1, v, e1, f2, hs, fs, d2, vs2, e2, r⟩
def tTm (K : PySem.W.Frag) (nm : List Str) (cls : Value) (d : Option Addr) (ar : Addr) (e : Nat) (tm : Tm) : TE := fun σ H Q => FX K nm cls (errsT tm) ∧ σ[e]? = some (some (.ref ar)) ∧ ∃ fs, Dyn d fs H (errsT tm) ∧ tmW nm fs tm H Q
theorem tm_pe (eN : X.N = N) (eS : X.env.scope = sc) (hz : Zc cls d oe) (hf : ∃ vs, oe.data = .fields vs) {tm : Tm} {x : Expr} (h : tmC nm N sc e tm x = true) : PE (X.suite a ((a, oe) :: pn)) x (tTm X.K nm cls d a e tm) := by
  cases tm with
  | one l => exact at_pe eN eS hz hf h
  | tup l =>
    simp only [tmC] at h
    split at h
    · obtain ⟨h1, h2⟩ := bt h
      exact PE.imp (pe_tup (ats_pa eN eS hz hf h1 h2)) fun σ H Q ⟨hF, hs, fs, dy, vs, q, r⟩ => ⟨hF, hs, fs, dy, vs, q, r⟩
    · cases h
  | lst l =>
    simp only [tmC] at h
    split at h
    · obtain ⟨h1, h2⟩ := bt h
      exact PE.imp (pe_lst (ats_pa eN eS hz hf h1 h2)) fun σ H Q ⟨hF, hs, fs, dy, vs, q, r⟩ => ⟨hF, hs, fs, dy, vs, q, r⟩
    · cases h
theorem tm_noComp {tm : Tm} {x : Expr} (h : tmC nm N sc e tm x = true) : noComp x = true := by
  cases tm with
  | one l => cases l <;> simp only [tmC, atC] at h <;> split at h <;> first | rfl | cases h
  | tup l => simp only [tmC] at h; split at h <;> first | rfl | cases h
  | lst l => simp only [tmC] at h; split at h <;> first | rfl | cases h
end
end Mi
end

section
set_option maxRecDepth 100000
set_option maxHeartbeats 1000000
/-! Mi: what a hearer gives. -/
namespace Mi
open PySem PySem.Spec L2 PyProof.Rows LamX
/-- what the clauses wish, by the class that is raised -/
def hW (T : Tb) (Q : VK) : List (Nat × Tm) → XK
  | [], _, _, _ => False
  | p :: r, cls, d, H => ∃ b, PySem.W.exmOne T.K cls (.ref (T.xa p.1)) = some b ∧ (b = true → FX T.K T.nm cls (errsT p.2) ∧ ∃ fs, Dyn d fs H (errsT p.2) ∧ tmW T.nm fs p.2 H Q) ∧ (b = false → hW T Q r cls d H)
def okW (t : OkT) (Q : VK) : VK := match t with
  | .drop => fun _ H => Q .non H
  | .plain => Q
  | .tag s => fun v H => [V.str s, v].length ≤ sizeLine ∧ ∀ p, H p = none → Q (.ref p) (upd H p (.tup [.str s, v]))
def tsC (T : Tb) (h : HI) (tm : Tm) : Addr → Value → Option Addr → TS := fun a cls d D σ H =>
  tTm T.K T.nm cls d a h.e tm σ H (fun v H' => match h.v with
    | some j => D.nx (σ.set j (some v)) H'
    | none => D.rt v H')
def clV (T : Tb) (h : HI) (l : List (Nat × Tm)) : List Cl := l.map fun p => (Value.ref (T.xa p.1), tsC T h p.2)
section
variable {T : Tb} {P : Pg} {C : Ctx} {N : List Str} {sc : Scope} {X : Cx} {h : HI} {n : Str}
theorem isLoc_of {x : Str} (h : isLoc sc x = true) : sc.names.lookup x = some .local := by
  unfold isLoc at h
  cases e : sc.names.lookup x with
  | none => rw [e] at h; cases h
  | some kk => rw [e] at h; cases kk <;> first | rfl | cases h
theorem beq_str {x y : Str} (h : (x == y) = true) : x = y := eq_of_beq h
theorem end_ok (xo : XOk T P C N sc X) (hK : X.K = T.K) {tm : Tm} {st : Stmt} (q : endC C.nm N sc h tm st = true) (a : Addr) (oe : Obj) (cls : Value) (d : Option Addr) (pn : List (Addr × Obj)) (hz : Zc cls d oe) (hf : ∃ vs, oe.data = .fields vs) : PSs (X.suite a ((a, oe) :: pn)) [st] (tsC T h tm a cls d) := by
  unfold endC at q
  split at q
  · rename_i v pv x px
    cases ev : h.v with
    | none => rw [ev] at q; cases q
    | some j =>
      rw [ev] at q
      dsimp only at q
      obtain ⟨q, c4⟩ := bt q
      obtain ⟨q, c3⟩ := bt q
      obtain ⟨c1, c2⟩ := bt q
      have hl : X.env.scope.names.lookup v = some .local := by rw [xo.eS]; exact isLoc_of c2
      have hpe := tm_pe (X := X) (a := a) (pn := pn) (cls := cls) (d := d) xo.eN xo.eS hz hf (by rw [xo.gs.nm]; exact c4 : tmC T.nm N sc h.e tm x = true)
      have hset := ps_set (X := X.suite a ((a, oe) :: pn)) (i := j) (x := v) (pos := px) (pos' := pv) (by show X.N.Nodup; rw [xo.eN]; exact xo.nd) (by show X.N[j]? = _; rw [xo.eN]; exact slot_of c1) (.inl hl) hpe (no_swap (tm_noComp c4)) (.inr hl)
      refine pss_one ⟨fun pins s σ H D I w => hset.run pins s σ H D I ?_⟩
      unfold tsC at w
      rw [ev] at w
      rw [show (X.suite a ((a, oe) :: pn)).K = T.K from hK]
      exact w
  · rename_i x px
    obtain ⟨c1, c2⟩ := bt q
    have hpe := tm_pe (X := X) (a := a) (pn := pn) (cls := cls) (d := d) xo.eN xo.eS hz hf (by rw [xo.gs.nm]; exact c2 : tmC T.nm N sc h.e tm x = true)
    refine pss_one ⟨fun pins s σ H D I w => (ps_ret (pos := px) hpe).run pins s σ H D I ?_⟩
    unfold tsC at w
    have ev : h.v = none := by simpa using c1
    rw [ev] at w
    rw [hK]
    exact w
  · cases q
theorem cl_ok (xo : XOk T P C N sc X) (hK : X.K = T.K) : ∀ {l : List (Nat × Tm)} {hs : List ExceptHandler}, clC C N sc h n l hs = true → AsOk X n hs (clV T h l)
  | [], hs, q => by
    cases hs with
    | nil => exact .nil
    | cons _ _ => simp [clC] at q
  | p :: r, hs, q => by
    simp only [clC] at q
    split at q
    · obtain ⟨q, q6⟩ := bt q
      obtain ⟨q, q5⟩ := bt q
      obtain ⟨q, q4⟩ := bt q
      obtain ⟨q, q3⟩ := bt q
      obtain ⟨q1, q2⟩ := bt q
      rw [beq_str q4]
      split at q3
      · rename_i c hc
        have e3 := of_decide_eq_true q3
        rw [e3] at hc
        have gk := (xo.gs.gl _ _ hc).1
        exact .cons ⟨gl_of xo q1, (okN_of q2).1, .inl gk⟩ (fun a oe cls d pn hz hf => end_ok xo hK q5 a oe cls d pn hz hf) (cl_ok xo hK q6)
      · cases q3
    · cases q
theorem takes_len {W : WX} (tk : Takes X W) : Takes X (fun c d σ H => σ.length = X.N.length → W c d σ H) := fun u s' ⟨a, B, sI, pins, σ, H, cls, d, e, I, nb, up, sky, na, os, ag, w⟩ =>
  tk u s' ⟨a, B, sI, pins, σ, H, cls, d, e, I, nb, up, sky, na, os, ag, w I.len⟩
/-- the clauses' wish, by the class -/
theorem wAs_of {Q : VK} {D : Ends} {σ : L2.St} {cls : Value} {d : Option Addr} {H : Hp} (he : h.e < σ.length) (hv : ∀ v a H', Q v H' → match h.v with
    | some j => D.nx (((σ.set h.e (some (.ref a))).set j (some v)).set h.e none) H'
    | none => D.rt v H') : ∀ {l : List (Nat × Tm)}, hW T Q l cls d H → wAsM T.K h.e (fun _ _ _ _ => False) D (clV T h l) cls d σ H
  | [], q => q
  | p :: r, ⟨b, e, yes, no⟩ => by
    refine ⟨b, e, fun hb a ha => ?_, fun hb => wAs_of he hv (no hb)⟩
    obtain ⟨hF, fs, dy, w⟩ := yes hb
    refine ⟨hF, by rw [List.getElem?_set_self he], fs, dy, ?_⟩
    have key : ∀ v H', Q v H' → match h.v with
      | some j => (endAs h.e D).nx ((σ.set h.e (some (.ref a))).set j (some v)) H'
      | none => (endAs h.e D).rt v H' := fun v H' q => by
      have := hv v a H' q
      cases ev : h.v with
      | none => rw [ev] at this; exact this
      | some j => rw [ev] at this; exact this
    cases e2 : p.2 with
    | one l =>
      rw [e2] at w
      obtain ⟨v, q1, q2⟩ := w
      exact ⟨v, q1, key v H q2⟩
    | tup l =>
      rw [e2] at w
      obtain ⟨vs, q1, q2, q3⟩ := w
      exact ⟨vs, q1, q2, fun p hp => key _ _ (q3 p hp)⟩
    | lst l =>
      rw [e2] at w
      obtain ⟨vs, q1, q2, q3⟩ := w
      exact ⟨vs, q1, q2, fun p hp => key _ _ (q3 p hp)⟩
theorem pss_undoc {ss : List Stmt} {R : TS → Prop} (hq : ∃ t, PSs X (unDoc ss) t ∧ R t) (hR : ∀ t u, (∀ D σ H, t D σ H → u D σ H) → R t → R u) : ∃ t, PSs X ss t ∧ R t := by
  obtain ⟨t, h1, h2⟩ := hq
  cases ss with
  | nil => exact ⟨t, h1, h2⟩
  | cons s r =>
    simp only [unDoc] at h1
    by_cases hd : isDoc s = true
    · rw [if_pos hd] at h1
      unfold isDoc at hd
      split at hd
      · exact ⟨_, pss_cons ps_doc h1, hR t _ (fun D σ H q => q) h2⟩
      · cases hd
    · rw [if_neg hd] at h1
      exact ⟨t, h1, h2⟩
theorem hear_gives {Ng : List Str} {x a q : Str} {sg : Scope} {g : Addr} {cdg : Value} {bg : List Stmt} (hK : X.K = T.K) (gs : GsOk T P C.off X.mg) (Sg : FnScope Ng [a] sg) (hC : hearC C.off Ng sg h (unDoc bg) = true) :
    GivesTo X Ng x sg g cdg bg a q (fun tl H Q => tl (hW T Q h.hs) H (okW h.ok Q)) := by
  intro f c' s H Q tl act hc hTT
  have xo : XOk T P C.off Ng sg (cxOf C8.CX0 X.prog X.w X.K X.mg X.base Ng x sg g cdg X.A X.stack s H C8.E0).nox := ⟨rfl, Sg.nd, rfl, Sg.kind, gs, fun z => nomatch z⟩
  have h0 : (L2.start Ng [V.ref f])[0]? = some (some (V.ref f)) := rfl
  have hN0 : Ng[0]? = some a := by
    have := Sg.pre
    cases hn : Ng with
    | nil => rw [hn] at this; cases this
    | cons y r => rw [hn] at this; simp at this; rw [this]; rfl
  have hlen : (L2.start Ng [V.ref f]).length = Ng.length := by
    unfold L2.start
    have : 0 < Ng.length := (List.getElem?_eq_some_iff.mp hN0).1
    simp; omega
  -- what is asked
  have ask : ∀ {e : Expr} {W : WX} {pn : List (Addr × Obj)} {xe : Value → Shared → Prop} {E : XK}, askC Ng sg e = true → Takes ((cxOf C8.CX0 X.prog X.w X.K X.mg X.base Ng x sg g cdg X.A X.stack s H C8.E0).tr pn xe) W → (∀ cls d σ' H', E cls d H' → W cls d σ' H') →
      PE ((cxOf C8.CX0 X.prog X.w X.K X.mg X.base Ng x sg g cdg X.A X.stack s H C8.E0).tr pn xe) e (fun σZ HZ Q => σZ[0]? = some (some (.ref f)) ∧ HZ c' = some (CodeO c' q) ∧ tl E HZ Q) := by
    intro e W pn xe E hk tk hW
    unfold askC at hk
    split at hk
    · rename_i b p1 p2
      obtain ⟨hk, _⟩ := bt hk
      obtain ⟨hk, _⟩ := bt hk
      have := slot_of hk
      rw [hN0] at this
      cases this
      exact act W pn xe E p1 p2 tk hW
    · cases hk
  refine pss_undoc (R := fun t => t { nx := fun _ H' => Q .non H', rt := Q } (L2.start Ng [.ref f]) H) ?_ (fun t u hu q => hu _ _ _ q)
  generalize unDoc bg = ss at hC
  unfold hearC at hC
  split at hC
  · -- kept, returned behind
    rename_i v pv k0 p0 pa v2 pv2 ex pa2 hd0 hds pt v3 pv3 pr
    cases ev : h.v with
    | none => rw [ev] at hC; cases hC
    | some j =>
      rw [ev] at hC
      dsimp only at hC
      obtain ⟨hC, c12⟩ := bt hC
      obtain ⟨hC, c11⟩ := bt hC
      obtain ⟨hC, c10⟩ := bt hC
      obtain ⟨hC, c9⟩ := bt hC
      obtain ⟨hC, c8⟩ := bt hC
      obtain ⟨hC, c7⟩ := bt hC
      obtain ⟨hC, c6⟩ := bt hC
      obtain ⟨hC, c5⟩ := bt hC
      obtain ⟨hC, c4⟩ := bt hC
      obtain ⟨hC, c3⟩ := bt hC
      obtain ⟨c1, c2⟩ := bt hC
      have hj := slot_of c1
      have e2 : v2 = v := by have := slot_of c2; rw [hj] at this; exact (Option.some.inj this).symm
      have e3 : v3 = v := by have := slot_of c3; rw [hj] at this; exact (Option.some.inj this).symm
      subst e2; subst e3
      have hje := of_decide_eq_true c7
      have hj0 := of_decide_eq_true c6
      have he := slot_of c9
      have hjl : j < Ng.length := (List.getElem?_eq_some_iff.mp hj).1
      have hel : h.e < Ng.length := (List.getElem?_eq_some_iff.mp he).1
      have hvl := isLoc_of c4
      have hlv : ∀ {pn : List (Addr × Obj)} {xe : Value → Shared → Prop}, Loc ((cxOf C8.CX0 X.prog X.w X.K X.mg X.base Ng x sg g cdg X.A X.stack s H C8.E0).tr pn xe).env.scope v3 := .inl hvl
      have s1 := ps_set (X := (cxOf C8.CX0 X.prog X.w X.K X.mg X.base Ng x sg g cdg X.A X.stack s H C8.E0).nox) (pos := pa) (pos' := pv) Sg.nd hj (.inl hvl) (pe_non (j := k0) (pos := p0)) (by rfl) (.inr hvl)
      have s3 := ps_ret (X := (cxOf C8.CX0 X.prog X.w X.K X.mg X.base Ng x sg g cdg X.A X.stack s H C8.E0).nox) (pos := pr) (pe_var (pos := pv3) hj (.inl hvl) (okN_of c5).1 (okN_of c5).2.1)
      have s2 := ps_asM (X := (cxOf C8.CX0 X.prog X.w X.K X.mg X.base Ng x sg g cdg X.A X.stack s H C8.E0).nox) (bd := [.Assign [.Name v3 pv2] ex pa2]) (ps := pt) (Wo := fun _ _ _ _ => False) (l := clV T h h.hs)
        (tb := fun W D σ H => ∃ E : XK, (∀ cls d σ' H', σ'.length = Ng.length → E cls d H' → W cls d σ' H') ∧ σ[0]? = some (some (.ref f)) ∧ H c' = some (CodeO c' q) ∧ tl E H (okW h.ok fun y H' => D.nx (σ.set j (some y)) H'))
        rfl rfl Sg.nd he (isLoc_of c10) LamX.takes0 (fun W pn xe tk _ => ?_) (cl_ok xo hK c12)
      · refine ⟨_, pss_cons s1 (pss_cons s2 (pss_one s3)), ?_⟩
        refine ⟨hW T Q h.hs, fun cls d σ' H' hl hw => ?_, ?_, hc, ?_⟩
        · have := wAs_of (T := T) (h := h) (Q := Q) (D := { nx := fun σ H => ∃ v', σ[j]? = some (some v') ∧ Q v' H, rt := Q }) (σ := σ') (cls := cls) (d := d) (H := H') (by rw [hl]; exact hel) (fun y a H2 qq => by
            rw [ev]
            exact ⟨y, by rw [List.getElem?_set_ne hje.symm, List.getElem?_set_self (by simp [hl]; exact hjl)], qq⟩) hw
          rw [← hK] at this
          exact this
        · rw [List.getElem?_set_ne hj0]; exact h0
        · have eq : (fun y H' => ∃ v', (((L2.start Ng [V.ref f]).set j (some .non)).set j (some y))[j]? = some (some v') ∧ Q v' H') = Q := by
            funext y H'
            refine propext ⟨fun ⟨v', q1, q2⟩ => ?_, fun qq => ⟨y, ?_, qq⟩⟩
            · rw [List.getElem?_set_self (by simp [hlen]; exact hjl)] at q1
              cases q1; exact q2
            · rw [List.getElem?_set_self (by simp [hlen]; exact hjl)]
          show tl _ H (okW h.ok fun y H' => ∃ v', (((L2.start Ng [V.ref f]).set j (some .non)).set j (some y))[j]? = some (some v') ∧ Q v' H')
          rw [eq]
          exact hTT
      · -- the body
        have tk' := takes_len tk
        refine pss_one ⟨fun pins s' σ H' D I hq => ?_⟩
        obtain ⟨E, hE, q1, q2, q3⟩ := hq
        have hpe : PE ((cxOf C8.CX0 X.prog X.w X.K X.mg X.base Ng x sg g cdg X.A X.stack s H C8.E0).tr pn xe) ex (fun σZ HZ Q => σZ[0]? = some (some (.ref f)) ∧ HZ c' = some (CodeO c' q) ∧ tl E HZ (okW h.ok Q)) ∧ noComp ex = true := by
          cases eo : h.ok with
          | drop => rw [eo] at c11; cases c11
          | plain =>
            rw [eo] at c11
            refine ⟨ask c11 tk' fun cls d σ' H' hh hl => hE cls d σ' H' hl hh, ?_⟩
            have c11' : askC Ng sg ex = true := c11
            unfold askC at c11'
            split at c11'
            · rfl
            · cases c11'
          | tag s0 =>
            rw [eo] at c11
            simp only [okC] at c11
            split at c11
            · rename_i y z _ _ _ _ _
              obtain ⟨d1, d2⟩ := bt c11
              have ey := beq_str d1
              subst ey
              have hz := ask d2 tk' fun cls d σ' H' hh hl => hE cls d σ' H' hl hh
              unfold askC at d2
              split at d2
              · exact ⟨pe_tup (pa_cons pe_str (pa_cons hz pa_nil)), rfl⟩
              · cases d2
            · cases c11
        exact (ps_set (pos := pa2) (pos' := pv2) Sg.nd hj hlv hpe.1 (no_swap hpe.2) (.inr hvl)).run pins s' σ H' D I ⟨q1, q2, q3⟩
  · rename_i ex pe hd0 hds pt k0 p0 pr
    obtain ⟨hC, c7⟩ := bt hC
    obtain ⟨hC, c6⟩ := bt hC
    obtain ⟨hC, c5⟩ := bt hC
    obtain ⟨hC, c4⟩ := bt hC
    obtain ⟨hC, c3⟩ := bt hC
    obtain ⟨c1, c2⟩ := bt hC
    have ev : h.v = none := by simpa using c1
    have eo : h.ok = .drop := by
      cases q : h.ok with
      | drop => rfl
      | _ => rw [q] at c2; cases c2
    have he := slot_of c4
    have hel : h.e < Ng.length := (List.getElem?_eq_some_iff.mp he).1
    have s3 := ps_ret (X := (cxOf C8.CX0 X.prog X.w X.K X.mg X.base Ng x sg g cdg X.A X.stack s H C8.E0).nox) (pos := pr) (pe_non (j := k0) (pos := p0))
    have s2 := ps_asM (X := (cxOf C8.CX0 X.prog X.w X.K X.mg X.base Ng x sg g cdg X.A X.stack s H C8.E0).nox) (bd := [.Expr ex pe]) (ps := pt) (Wo := fun _ _ _ _ => False) (l := clV T h h.hs)
      (tb := fun W D σ H => ∃ E : XK, (∀ cls d σ' H', σ'.length = Ng.length → E cls d H' → W cls d σ' H') ∧ σ[0]? = some (some (.ref f)) ∧ H c' = some (CodeO c' q) ∧ tl E H fun _ H' => D.nx σ H')
      rfl rfl Sg.nd he (isLoc_of c5) LamX.takes0 (fun W pn xe tk _ => ?_) (cl_ok xo hK c7)
    · refine ⟨_, pss_cons s2 (pss_one s3), hW T Q h.hs, fun cls d σ' H' hl hw => ?_, h0, hc, ?_⟩
      · have := wAs_of (T := T) (h := h) (Q := Q) (D := { nx := fun σ H => Q .non H, rt := Q }) (σ := σ') (cls := cls) (d := d) (H := H') (by rw [hl]; exact hel) (fun y a H2 qq => by rw [ev]; exact qq) hw
        rw [← hK] at this
        exact this
      · rw [eo] at hTT
        exact hTT
    · have tk' := takes_len tk
      refine pss_one ⟨fun pins s' σ H' D I hq => ?_⟩
      obtain ⟨E, hE, q1, q2, q3⟩ := hq
      have hz := ask c6 tk' fun cls d σ' H' hh hl => hE cls d σ' H' hl hh
      unfold askC at c6
      split at c6
      · exact (ps_expr (pos := pe) hz (by rfl)).run pins s' σ H' D I ⟨q1, q2, q3⟩
      · cases c6
  · cases hC
end
end Mi
end

section
set_option maxRecDepth 100000
set_option maxHeartbeats 1000000
/-! Mi: hear(lambda: e). -/
namespace Mi
open PySem PySem.Spec L2 PyProof.Rows LamX
section
variable {T : Tb} {P : Pg} {C : Ctx} {N : List Str} {sc : Scope} {X : Cx} {k : Nat} {Wx : WX} {w w' : Wl} {H H' : Hp} {S : Store} {Q : VK} {σ : L2.St}
/-! ### the tables have changed -/
def Wl.dead (w : Wl) : Wl := ⟨w.cs ++ [none], w.ux, w.own⟩
theorem dead_old {n : Nat} {a : Addr} (h : (w.dead).cs[n]? = some (some a)) : w.cs[n]? = some (some a) := by
  have h' : (w.cs ++ [none])[n]? = some (some a) := h
  rw [List.getElem?_append] at h'
  split at h'
  · exact h'
  · rcases Nat.eq_zero_or_pos (n - w.cs.length) with z | z
    · rw [z] at h'; simp at h'
    · rw [List.getElem?_eq_none (by simp; omega)] at h'; cases h'
theorem dead_new {n : Nat} {o : Option Addr} (h : w.cs[n]? = some o) : (w.dead).cs[n]? = some o := by
  have hn : n < w.cs.length := (List.getElem?_eq_some_iff.mp h).1
  show (w.cs ++ [none])[n]? = _
  rw [List.getElem?_append_left hn]; exact h
theorem ext_tab (e : ExtN H H') : Ext none w H w.dead H' := by
  have hl : w.dead.cs.length = w.cs.length + 1 := by show (w.cs ++ [none]).length = _; simp
  refine ⟨by omega, fun a u h _ _ z => e a u h (z.elim id fun q => by omega), fun a ⟨u, h, n⟩ => ⟨u, e a u h n, n⟩, fun a _ hn n z => hn n (dead_old z), fun n a h => .inl (dead_new h), fun n h => dead_new h, rfl, rfl⟩
theorem st_tab (st : StOk T w H S) (e : ExtN H H') (tb : Tabs T.tbs H') : StOk T w.dead H' (S ++ [.dead]) := by
  have ex : Ext none w H w.dead H' := ext_tab e
  refine ⟨by show (w.cs ++ [none]).length = _; simp [st.len], fun n c hc a? ha => ?_, fun n m a h1 h2 => st.inj n m a (dead_old h1) (dead_old h2), fun n a h => st.dis n a (dead_old h), fun a h => ex.there a (st.uxs a h), fun a h => ex.there a (st.owns a h), tb⟩
  by_cases hn : n < S.length
  · rw [List.getElem?_append_left hn] at hc
    have ha' : w.cs[n]? = some a? := by
      have h' : (w.cs ++ [none])[n]? = some a? := ha
      rw [List.getElem?_append_left (by rw [st.len]; exact hn)] at h'; exact h'
    refine (st.at_ n c hc a? ha').mono (ex.mono (.inl rfl)) fun a ea => ?_
    subst ea
    rcases st.cellU ha' with ⟨vs, q⟩ | ⟨D, dx, vs, q⟩
    · rw [q]; exact e a _ q fun _ z => by cases z
    · rw [q]; exact e a _ q fun _ z => by cases z
  · have hn2 : n = S.length := by
      have := (List.getElem?_eq_some_iff.mp hc).1
      simp at this; omega
    subst hn2
    have h' : (w.cs ++ [none])[S.length]? = some a? := ha
    rw [← st.len] at h' hc
    simp at h'
    rw [st.len] at hc
    simp at hc
    subst h'; subst hc
    exact rfl
/-! ### what a clause makes -/
theorem flat_rep {d : D} (h : flat d = true) : ∃ v, conV d = some v ∧ ∀ w H, Rep T w H v d := by
  cases d with
  | non => exact ⟨_, rfl, fun _ _ => .non⟩
  | bl b => exact ⟨_, rfl, fun _ _ => .bl b⟩
  | int b => exact ⟨_, rfl, fun _ _ => .int b⟩
  | str b => exact ⟨_, rfl, fun _ _ => .str b⟩
  | _ => cases h
theorem at_rep (nd : T.nm.Nodup) {vs : List (Str × V)} {fs : List (Nat × D)} (r : RepF T w H vs fs) {a : At} {d : D} (h : atM fs a = some d) (hn : ∀ f, f ∈ errs [a] → ∃ x, T.nm[f]? = some x) : ∃ v, atV T.nm vs a = some v ∧ Rep T w H v d := by
  cases a with
  | con d0 =>
    simp only [atM] at h
    split at h
    · rename_i q
      cases h
      obtain ⟨v, h1, h2⟩ := flat_rep (T := T) q
      exact ⟨v, h1, h2 w H⟩
    · cases h
  | err f =>
    obtain ⟨x, hx⟩ := hn f (by simp [errs])
    obtain ⟨v, h1, h2⟩ := (r.lookup nd hx).1 d h
    exact ⟨v, by simp only [atV, hx]; exact h1, h2⟩
theorem ats_rep (nd : T.nm.Nodup) {vs : List (Str × V)} {fs : List (Nat × D)} (r : RepF T w H vs fs) : ∀ {l : List At} {ds : List D}, atsM fs l = some ds → (∀ f, f ∈ errs l → ∃ x, T.nm[f]? = some x) → ∃ us, atsV T.nm vs l = some us ∧ Reps T w H us ds ∧ ds.length = l.length
  | [], ds, h, _ => by cases h; exact ⟨[], rfl, .nil, rfl⟩
  | a :: l, ds, h, hn => by
    unfold atsM at h
    rw [errs_cons] at hn
    cases e1 : atM fs a with
    | none => rw [e1] at h; cases h
    | some d =>
      cases e2 : atsM fs l with
      | none => rw [e1] at h; simp [e2] at h
      | some ds2 =>
        rw [e1] at h; simp only [e2] at h; cases h
        obtain ⟨v, h1, h2⟩ := at_rep nd r e1 fun f q => hn f (List.mem_append_left _ q)
        obtain ⟨us, h3, h4, h5⟩ := ats_rep nd r e2 fun f q => hn f (List.mem_append_right _ q)
        refine ⟨v :: us, ?_, .cons h2 h4, by simp [h5]⟩
        unfold atsV
        rw [h1]; simp only [h3]
theorem at_none {a : At} {d : D} (h : atM [] a = some d) : errs [a] = [] := by
  cases a with
  | con _ => rfl
  | err f => simp [atM] at h
theorem ats_none : ∀ {l : List At} {ds : List D}, atsM [] l = some ds → errs l = []
  | [], _, _ => rfl
  | a :: l, ds, h => by
    unfold atsM at h
    cases e1 : atM [] a with
    | none => rw [e1] at h; cases h
    | some d =>
      cases e2 : atsM [] l with
      | none => rw [e1] at h; simp [e2] at h
      | some ds2 => rw [errs_cons, at_none e1, ats_none e2]; rfl
theorem tm_none {tm : Tm} {d : D} (h : tmM [] tm = some d) : errsT tm = [] := by
  cases tm with
  | one a => exact at_none h
  | tup l =>
    simp only [tmM] at h
    split at h
    · cases e : atsM [] l with
      | none => rw [e] at h; cases h
      | some ds => exact ats_none e
    · cases h
  | lst l =>
    simp only [tmM] at h
    split at h
    · cases e : atsM [] l with
      | none => rw [e] at h; cases h
      | some ds => exact ats_none e
    · cases h
/-- what is wished of a new value at a later state -/
def After (T : Tb) (w : Wl) (H : Hp) (S : Store) (Q : VK) (d : D) : Prop := ∀ v w' H', Ext none w H w' H' → Rep T w' H' v d → StOk T w' H' S → Q v H'
theorem tm_ok (nd : T.nm.Nodup) {vs : List (Str × V)} {fs : List (Nat × D)} (r : RepF T w H vs fs) (st : StOk T w H S) {tm : Tm} {d : D} (h : tmM fs tm = some d) (hn : ∀ f, f ∈ errsT tm → ∃ x, T.nm[f]? = some x) (q : After T w H S Q d) : tmW T.nm vs tm H Q := by
  have hz : ∀ {n : Nat}, n < 100 → n ≤ sizeLine := fun h => by rw [sizeLine_eq]; omega
  cases tm with
  | one a =>
    obtain ⟨v, h1, h2⟩ := at_rep nd r h hn
    exact ⟨v, h1, q v w H .refl h2 st⟩
  | tup l =>
    simp only [tmM] at h
    split at h
    · rename_i hl
      cases e : atsM fs l with
      | none => rw [e] at h; cases h
      | some ds =>
        rw [e] at h; cases h
        obtain ⟨us, h1, h2, h3⟩ := ats_rep nd r e hn
        refine ⟨us, h1, hz (by rw [h2.length, h3]; exact of_decide_eq_true hl), fun p hp => ?_⟩
        exact q _ w _ (ext_new hp) (.tup upd_same (st.fz_new hp) (h2.mono ((ext_new hp).mono (.inl rfl)))) (st.new hp)
    · cases h
  | lst l =>
    simp only [tmM] at h
    split at h
    · rename_i hl
      cases e : atsM fs l with
      | none => rw [e] at h; cases h
      | some ds =>
        rw [e] at h; cases h
        obtain ⟨us, h1, h2, h3⟩ := ats_rep nd r e hn
        refine ⟨us, h1, hz (by rw [h2.length, h3]; exact of_decide_eq_true hl), fun p hp => ?_⟩
        exact q _ w _ (ext_new hp) (.lst upd_same (st.fz_new hp) (h2.mono ((ext_new hp).mono (.inl rfl)))) (st.new hp)
    · cases h
theorem hW_of (gs : GsOk T P C X.mg) (nd : T.nm.Nodup) {cls : Value} {dd : Option Addr} {c : Nat} {fs : List (Nat × D)} {tm : Tm} {d : D} (ex : ExcOk T w H cls dd c fs) (st : StOk T w H S) (ht : tmM fs tm = some d) (q : After T w H S Q d) :
    ∀ {l : List (Nat × Tm)}, pickH P c l = some tm → hW T Q l cls dd H
  | [], h => by cases h
  | p :: r, h => by
    unfold pickH at h
    cases e : P.xs[c]? with
    | none => rw [e] at h; cases h
    | some xi =>
      rw [e] at h
      dsimp only at h
      split at h
      · rename_i hp
        have em := gs.xm c p.1 xi e (of_decide_eq_true hp)
        obtain ⟨ec, ed⟩ := ex
        refine ⟨_, by rw [ec]; exact em, fun hb => ?_, fun hb => ?_⟩
        · rw [if_pos hb] at h
          split at h
          · rename_i ha
            cases h
            have hf : ∀ f, f ∈ errsT p.2 → f ∈ xi.flds := fun f hf => by simpa using List.all_eq_true.mp ha f hf
            have xc := gs.xc c xi e
            refine ⟨.inr ⟨T.xa c, ec, xc.xf, fun f hf2 x hx => ?_⟩, ?_⟩
            · obtain ⟨y, h1, h2⟩ := xc.no f (hf f hf2)
              rw [hx] at h1; cases h1; exact h2
            · have hn : ∀ f, f ∈ errsT p.2 → ∃ x, T.nm[f]? = some x := fun f hf2 => by
                obtain ⟨y, h1, _⟩ := xc.no f (hf f hf2)
                exact ⟨y, h1⟩
              rcases ed with ⟨e1, e2⟩ | ⟨dx, vs, e1, e2, e3, e4⟩
              · subst e1
                exact ⟨[], .inl (tm_none ht), tm_ok nd .nil st ht hn q⟩
              · exact ⟨vs, .inr ⟨dx, e1, e2⟩, tm_ok nd e4 st ht hn q⟩
          · cases h
        · have hb' : ¬ (xi.anc.contains p.1 = true) := by rw [hb]; exact Bool.false_ne_true
          rw [if_neg hb'] at h
          exact hW_of gs nd ⟨ec, ed⟩ st ht q h
      · cases h
theorem hear_post (gs : GsOk T P C X.mg) (nd : T.nm.Nodup) {h : HI} {r : Res} (p : PostE T Wx w σ H (hearM P h r) Q) : PostE T (fun c d _ H' => hW T Q h.hs c d H') w σ H r (okW h.ok Q) := by
  cases r with
  | bad => exact p
  | ok d S1 =>
    intro v w1 H1 e rv st
    have p : ∀ v w' H', Ext none w H w' H' → Rep T w' H' v (okM h.ok d) → StOk T w' H' S1 → Q v H' := p
    cases eo : h.ok with
    | drop => rw [eo] at p; exact p .non w1 H1 e .non st
    | plain => rw [eo] at p; exact p v w1 H1 e rv st
    | tag s =>
      rw [eo] at p
      refine ⟨by rw [sizeLine_eq]; simp, fun a ha => ?_⟩
      exact p _ w1 _ (e.trans (ext_new ha)) (.tup upd_same (st.fz_new ha) (.cons (.str s) (.cons (rv.mono ((ext_new ha).mono (.inl rfl))) .nil))) (st.new ha)
  | exc c fs S1 =>
    intro cls dd w1 H1 e ex st
    unfold hearM at p
    dsimp only at p
    cases e1 : pickH P c h.hs with
    | none => rw [e1] at p; exact p.elim
    | some tm =>
      rw [e1] at p
      dsimp only at p
      cases e2 : tmM fs tm with
      | none => rw [e2] at p; exact p.elim
      | some d =>
        rw [e2] at p
        exact hW_of gs nd ex st e2 (fun v w' H' ee rv st' => p v w' H' (e.trans ee) rv st') e1
theorem dn_run : dnC (run P (k + 2)) = run P k := by
  funext r S
  simp only [dnC, run]
theorem m_heard {i : Nat} {h : HI} {me : ME} {x : Str} {p lpos pos : Pos} {params : Arguments} {body : Expr} {scope : Scope} (cn : Cn T P (k + 2) Wx X) (xo : XOk T P C N sc X) (hl : C.lam = true) (hi : P.hi[i]? = some h) (hg : Gl X x) (hx : x = h.nm) (hm : X.mg x = some (.ref (T.fa h.fn))) (hk : PySem.W.keepIn T.K (.ref (T.fa h.fn)) = true)
    (hd : (x == ("__debug__" : Str)) = false) (hp : noPars params = true) (L : lamSB sc scope = true)
    (hb : ∀ (A : Around) (outer : List Env) (s : Shared) (H : Hp) (E : XK) (f c' : Addr), Room k (A.deeper (lamEnv X scope s.heap.objs.size f c')) → PE (lamCx X A outer s H E scope f c') body (tE T (fun c d _ H' => E c d H') (evE P (run P k) me))) :
    PE X (.Call (.Name x p) [.Lambda params body scope lpos] [] pos) (tE T Wx (evE P (run P (k + 2)) (.heard i me))) := by
  obtain ⟨c, Pa, l1, l2, l3, l4⟩ := (xo.lam hl).ex
  obtain ⟨oc, od, kV, doc, pm, cdv, ct, an, osl, as, kwd, df, hbody, hscope, a, Ng, lk, hcd, Sg, hps, hva, hoa, hC⟩ := (xo.gs.hk i h hi).ex
  subst hx
  have hpar : params = { posonlyargs := [], args := [], vararg := none, kwonlyargs := [], kw_defaults := [], kwarg := none, defaults := [] } := by
    unfold noPars at hp
    split at hp
    · rfl
    · cases hp
  have hN0 : Ng[0]? = some a := by
    have := Sg.pre
    cases hn : Ng with
    | nil => rw [hn] at this; cases this
    | cons y r => rw [hn] at this; simp at this; rw [this]; rfl
  have hvis : Vis hscope a := by
    unfold visC at hva
    unfold Vis
    cases e : hscope.names.lookup a with
    | none => rw [e] at hva; cases hva
    | some kk => rw [e] at hva; cases kk <;> simp_all
  have hB : L2.Binds X.K (PySem.W.fnOf h.nm h.nm { posonlyargs := [], args := as, vararg := none, kwonlyargs := [], kw_defaults := kwd, kwarg := none, defaults := df } hbody hscope .none kV doc pm an cdv ct) [a] [] := by
    intro s us kI hlen
    have hlen' : us.length = [a].length := by simpa using hlen
    obtain ⟨kk, b1, _, b3⟩ := bind_gen (fd := PySem.W.fnOf h.nm h.nm { posonlyargs := [], args := as, vararg := none, kwonlyargs := [], kw_defaults := kwd, kwarg := none, defaults := df } hbody hscope .none kV doc pm an cdv ct) rfl hps (by simp) us [] (by omega) (Nat.zero_le _) (by simp at hlen' ⊢; omega)
    rw [List.append_nil]
    refine BindsTo.of_eq ?_
    rw [b1]
    show (pure none >>= kk) = _
    rw [pure_bind]
    exact b3 rfl
  have gs2 : GsOk T P C.off X.mg := xo.gs.on false
  subst hpar
  refine PE.imp (pe_lamcall (T := T.tbs) (t := fun E => tE T (fun c d _ H' => E c d H') (evE P (run P k) me)) (k := k) hg hm (by rw [cn.K]; exact hk) (by rw [cn.K]; exact lk) (by rw [cn.K]; exact hcd) hB Sg hN0 hvis (hear_gives (T := T) (h := h) cn.K gs2 Sg hC) l2 l1 l3 l4 cn.room (lamS_by (by rw [xo.eS]; exact L)) (by rfl) (fun q cl pm cv ctv => by rfl) hb hd (okN_of hoa).1 (okN_of hoa).2.1) fun σ H Q hq => ?_
  obtain ⟨w, fr, S, f, st, post⟩ := hq
  refine ⟨st.tabs, fun H1 eN T1 => ?_⟩
  have ex : Ext none w H w.dead H1 := ext_tab eN
  refine ⟨w.dead, fr, S ++ [.dead], f.mono ex st, st_tab st eN T1, ?_⟩
  have q : PostE T Wx w σ H (hearM P h (evE P (run P k) me fr (S ++ [.dead]))) Q := by
    have := post
    simp only [evE, hi, dn_run] at this
    rw [if_pos (by simp only [run, isOk])] at this
    exact this
  exact hear_post xo.gs cn.ko.nd (PostE.later ex q)
end
end Mi
end

section
set_option maxRecDepth 100000
set_option maxHeartbeats 4000000
/-! Mi: what is laid beside the mirror does as the mirror does: expressions. -/
namespace Mi
open PySem PySem.Spec L2 PyProof.Rows
structure EOk (T : Tb) (P : Pg) (k : Nat) (Wx : WX) (X : Cx) (e : Expr) (m : Mir) : Prop where
  pe : PE X e (tE T Wx m)
  pt : PT X e (tT T Wx m)
  pw : notBO e = false → PW X e (tT T Wx m)
section
variable {T : Tb} {P : Pg} {k : Nat} {Wx : WX} {X : Cx} {C : Ctx} {N : List Str} {sc : Scope}
theorem EOk.val {e : Expr} {m : Mir} (hK : X.K = T.K) (h : PE X e (tE T Wx m)) (hp : plainT e = true) : EOk T P k Wx X e m :=
  ⟨h, m_val hK h hp, fun z => by cases e <;> first | exact absurd (show true = false from z) (by decide) | exact absurd (show false = true from hp) Bool.false_ne_true⟩
theorem xo_blk (xo : XOk T P C N sc X) {s : Shared} {H : Hp} {scope : Scope} {CC : Addr} {cl : List (Str × Addr)} {fp : List Addr} (hk : scope.kind = .function) : XOk T P C N (relS sc scope) (X.blk s H scope (compEnvC scope cl CC X.env) fp) :=
  ⟨xo.eN, xo.nd, by rw [← xo.eS]; rfl, hk, xo.gs, fun z => ⟨(xo.lam z).ex⟩⟩
theorem rel_kind {sc : Scope} {x : Str} {kk : NameKind} (hk : kk ≠ .free) : ∀ {l : List (Str × NameKind)}, l.lookup x = some kk → (l.map fun (n, k) => if (k == NameKind.free && sc.kind == .function && sc.names.lookup n == some .cell) then (n, NameKind.cell) else (n, k)).lookup x = some kk
  | [], h => by simp at h
  | (n, k) :: r, h => by
    have ih := @rel_kind sc x kk hk r
    show List.lookup x ((if (k == NameKind.free && sc.kind == .function && sc.names.lookup n == some .cell) = true then (n, NameKind.cell) else (n, k)) :: _) = _
    cases hx : x == n with
    | true =>
      simp only [List.lookup_cons, hx] at h
      have hkk : k = kk := Option.some.inj h
      subst hkk
      have hb : (k == NameKind.free) = false := beq_eq_false_iff_ne.mpr hk
      simp only [hb, Bool.false_and, Bool.false_eq_true, if_false, List.lookup_cons, hx]
    | false =>
      simp only [List.lookup_cons, hx] at h
      split
      · simp only [List.lookup_cons, hx]; exact ih h
      · simp only [List.lookup_cons, hx]; exact ih h
theorem fc_blk (xo : XOk T P C N sc X) {s : Shared} {H : Hp} {scope : Scope} {CC : Addr} {cl : List (Str × Addr)} {fp : List Addr} : FnC (X.blk s H scope (compEnvC scope cl CC X.env) fp) scope := by
  have e : (X.blk s H scope (compEnvC scope cl CC X.env) fp).env.scope = relS sc scope := by rw [← xo.eS]; rfl
  intro x h
  rw [e]
  unfold locC at h
  unfold L2.Loc
  cases el : scope.names.lookup x with
  | none => rw [el] at h; cases h
  | some kk =>
    rw [el] at h
    cases kk with
    | «local» => exact ⟨.inl (rel_kind (by decide) el), .inr (rel_kind (by decide) el)⟩
    | cell => exact ⟨.inr (rel_kind (by decide) el), .inl (by show (scope.names.lookup x == some .cell) = true; rw [el]; rfl)⟩
    | _ => cases h
theorem cn_blk (cn : Cn T P k Wx X) {s : Shared} {H : Hp} {scope : Scope} {ce : Env} {fp : List Addr} : Cn T P k noX (X.blk s H scope ce fp) :=
  ⟨cn.K, cn.calm, fun u s' ⟨_, _, _, _, _, _, _, _, _, _, _, _, _, _, _, _, w⟩ => w, cn.room, cn.lv, cn.lw, cn.lw2, cn.low, cn.ko⟩
theorem args_cons {e : Expr} {es : List Expr} {me : Mir} {mr : MirL} (h1 : PE X e (tE T Wx me)) (h2 : PA X es (tL T Wx mr)) (hn : noStar (e :: es) = true) : PA X (e :: es) (tL T Wx fun fr S => (me fr S).bindL fun d S1 => (mr fr S1).bindL fun ds S2 => .ok (d :: ds) S2) := a_cons h1 h2 hn
theorem EOk.bad {e : Expr} {m : Mir} (hK : X.K = T.K) (h : ∀ fr S, m fr S = .bad) (hp : plainT e = true) : EOk T P k Wx X e m :=
  EOk.val hK ⟨fun pins s σ H Q I q => by
    obtain ⟨w, fr, S, f, st, p⟩ := q
    rw [h fr S] at p
    exact p.elim⟩ hp
def lenEs : MEs → Nat
  | .nil => 0
  | .cons _ r => lenEs r + 1
theorem evEs_len {cl : Call} : ∀ {es : MEs} {fr : Fr} {S S' : Store} {ds : List D}, evEs P cl es fr S = .ok ds S' → ds.length = lenEs es
  | .nil, fr, S, S', ds, h => by simp only [evEs] at h; cases h; rfl
  | .cons e r, fr, S, S', ds, h => by
    simp only [evEs] at h
    cases e1 : evE P cl e fr S with
    | exc _ _ _ => rw [e1] at h; cases h
    | bad => rw [e1] at h; cases h
    | ok d S1 =>
      rw [e1] at h
      simp only [Res.bindL] at h
      cases e2 : evEs P cl r fr S1 with
      | exc _ _ _ => rw [e2] at h; cases h
      | bad => rw [e2] at h; cases h
      | ok ds2 S2 =>
        rw [e2] at h
        simp only [ResL.bindL] at h
        cases h
        rw [List.length_cons, evEs_len e2]; rfl
theorem ckEs_len : ∀ {es : MEs} {xs : List Expr}, ckEs P C N sc es xs = true → lenEs es = xs.length
  | .nil, xs, h => by
    simp only [ckEs] at h
    cases xs with
    | nil => rfl
    | cons _ _ => cases h
  | .cons e r, xs, h => by
    simp only [ckEs] at h
    cases xs with
    | nil => cases h
    | cons x xs =>
      have := ckEs_len (bt h).2
      simp [lenEs, this]
theorem kw_ok (gs : GsOk T P C X.mg) {f n : Nat} {kws : List Keyword} (h : kwC C f n kws = true) : KwOk (T.pn f) n kws := by
  unfold kwC at h
  cases e : C.pns[f]? with
  | none => rw [e] at h; cases h
  | some l =>
    rw [e] at h
    obtain ⟨h1, h2⟩ := bt h
    rw [gs.pn f l e]
    exact ⟨of_decide_eq_true h1, of_decide_eq_true h2⟩
theorem all_some : ∀ {kws : List Keyword}, (kws.all fun q => q.arg.isSome) = true → kws.map (·.arg) = (kws.filterMap (·.arg)).map some
  | [], _ => rfl
  | q :: kws, h => by
    obtain ⟨h1, h2⟩ := bt (show (q.arg.isSome && kws.all fun q => q.arg.isSome) = true from h)
    obtain ⟨y, hy⟩ := Option.isSome_iff_exists.mp h1
    rw [List.map_cons, List.filterMap_cons, hy, all_some h2]; rfl
theorem methI_mem {c : Nat} {fs : List (Nat × D)} {m g : Nat} (h : methI P c fs m = some g) : ∃ ci, ci ∈ P.cs ∧ ci.meth.lookup m = some g := by
  unfold methI at h
  cases e : P.cs[c]? with
  | none => rw [e] at h; cases h
  | some ci =>
    rw [e] at h
    dsimp only at h
    cases e2 : ci.meth.lookup m with
    | none => rw [e2] at h; cases h
    | some g2 =>
      rw [e2] at h
      dsimp only at h
      split at h
      · cases h
      · cases h; exact ⟨ci, List.mem_of_getElem? e, e2⟩
theorem methF_mem {x : D} {m g : Nat} {S : Store} (h : methF P x m S = some g) : ∃ ci, ci ∈ P.cs ∧ ci.meth.lookup m = some g := by
  unfold methF at h
  split at h
  · exact methI_mem h
  · split at h
    · exact methI_mem h
    · cases h
  · cases h
theorem cn_lam (cn : Cn T P (k + 2) Wx X) {A : Around} {outer : List Env} {s : Shared} {H : Hp} {E : XK} {scope : Scope} {f c' : Addr} (hr : Room k (A.deeper (LamX.lamEnv X scope s.heap.objs.size f c'))) :
    Cn T P k (fun c d _ H' => E c d H') (LamX.lamCx X A outer s H E scope f c') :=
  ⟨cn.K, rfl, takes_of rfl rfl rfl rfl, hr, cn.low k (by omega), fun j h => cn.low j (by omega), fun j h => cn.low j (by omega), fun j h => cn.low j (by omega), cn.ko⟩
mutual
theorem soundE : ∀ (me : ME) {k : Nat} {C : Ctx} {Wx : WX} {X : Cx} {sc : Scope} {e : Expr}, Cn T P k Wx X → XOk T P C N sc X → ckE P C N sc me e = true → EOk T P k Wx X e (evE P (run P k) me)
  | .var i, k, C, Wx, X, sc, e, cn, xo, h => by
    simp only [ckE] at h
    split at h
    · obtain ⟨h, h3⟩ := bt h
      obtain ⟨h1, h2⟩ := bt h
      exact EOk.val cn.K (m_var (by rw [xo.eN]; exact slot_of h1) (vis_of xo h2) (okN_of h3).1 (okN_of h3).2.1) rfl
    · cases h
  | .con d, k, C, Wx, X, sc, e, cn, xo, h => by
    simp only [ckE] at h
    split at h
    · exact EOk.val cn.K (con_of h) rfl
    · rename_i x p
      obtain ⟨h, h3⟩ := bt h
      obtain ⟨h1, h2⟩ := bt h
      cases e1 : C.gt.lookup x with
      | none => rw [e1] at h3; cases h3
      | some gv =>
        rw [e1] at h3
        cases gv with
        | fn f =>
          cases d with
          | fn g =>
            have hd := of_decide_eq_true (show decide (f = g) = true from h3)
            subst hd
            exact EOk.val cn.K (m_con (v := .ref (T.fa f)) (pe_glob (gl_of xo h1) (xo.gs.gl _ _ e1).1 rfl (okN_of h2).1) fun _ _ => .fn _) rfl
          | _ => cases h3
        | cls f =>
          cases d with
          | cls g =>
            have hd := of_decide_eq_true (show decide (f = g) = true from h3)
            subst hd
            exact EOk.val cn.K (m_con (v := .ref (T.ca f)) (pe_glob (gl_of xo h1) (xo.gs.gl _ _ e1).1 rfl (okN_of h2).1) fun _ _ => .cls _) rfl
          | _ => cases h3
        | _ => cases d <;> cases h3
    · cases h
  | .glo i, k, C, Wx, X, sc, e, cn, xo, h => by
    simp only [ckE] at h
    split at h
    · obtain ⟨h, h3⟩ := bt h
      obtain ⟨h1, h2⟩ := bt h
      split at h3
      · rename_i j e1
        have hd := of_decide_eq_true h3
        subst hd
        obtain ⟨v, u, d, q1, q2, q3, q4⟩ := xo.gs.gl _ _ e1
        have e2 : evE P (run P k) (.glo i) = fun _ S => .ok d S := by funext fr S; simp only [evE, q3]
        rw [e2]
        exact EOk.val cn.K (m_con (pe_glob (gl_of xo h1) q1 q2 (okN_of h2).1) q4) rfl
      · cases h3
    · cases h
  | .bin op a b, k, C, Wx, X, sc, e, cn, xo, h => by
    simp only [ckE] at h
    split at h
    · obtain ⟨h, h3⟩ := bt h
      obtain ⟨h1, h2⟩ := bt h
      have ho := of_decide_eq_true h1
      subst ho
      exact EOk.val cn.K (m_bin (op_bin cn op) (soundE a cn xo h2).pe (soundE b cn xo h3).pe) rfl
    · cases h
  | .neg a, k, C, Wx, X, sc, e, cn, xo, h => by
    simp only [ckE] at h
    split at h
    · exact EOk.val cn.K (m_neg (op_negS cn) (soundE a cn xo h).pe) rfl
    · cases h
  | .not a, k, C, Wx, X, sc, e, cn, xo, h => by
    simp only [ckE] at h
    split at h
    · have q := soundE a cn xo h
      exact ⟨m_notV cn.K q.pe, m_not q.pt, fun z => by cases z⟩
    · cases h
  | .one a, k, C, Wx, X, sc, e, cn, xo, h => by
    simp only [ckE] at h
    split at h
    · rename_i op x p
      have q := soundE a cn xo h
      have pw : PW X (.BoolOp op [x] p) (tT T Wx (evE P (run P k) (.one a))) := by
        cases op with
        | And => exact pw_and1 q.pt
        | Or => exact pw_or1 q.pt
      exact ⟨pe_one q.pe, pw.pt, fun _ => pw⟩
    · cases h
  | .and a b, k, C, Wx, X, sc, e, cn, xo, h => by
    simp only [ckE] at h
    split at h
    · obtain ⟨h1, h2⟩ := bt h
      have q1 := soundE a cn xo h1
      have q2 := soundE b cn xo h2
      have pw := w_and q1.pt (q2.pw rfl)
      exact ⟨m_and cn.K q1.pe q2.pe, pw.pt, fun _ => pw⟩
    · cases h
  | .or a b, k, C, Wx, X, sc, e, cn, xo, h => by
    simp only [ckE] at h
    split at h
    · obtain ⟨h1, h2⟩ := bt h
      have q1 := soundE a cn xo h1
      have q2 := soundE b cn xo h2
      have pw := w_or q1.pt (q2.pw rfl)
      exact ⟨m_or cn.K q1.pe q2.pe, pw.pt, fun _ => pw⟩
    · cases h
  | .cmp op a b, k, C, Wx, X, sc, e, cn, xo, h => by
    simp only [ckE] at h
    split at h
    · obtain ⟨h, h4⟩ := bt h
      obtain ⟨h, h3⟩ := bt h
      obtain ⟨h1, h2⟩ := bt h
      have ho := of_decide_eq_true h1
      subst ho
      have q1 := soundE a cn xo h3
      have q2 := soundE b cn xo h4
      exact ⟨m_cmp (op_cmp cn op) q1.pe q2.pe h2, m_tcmp (op_cmp cn op) (fun _ _ _ _ _ z => cmp_bl z) q1.pe q2.pe h2, fun z => by cases z⟩
    · cases h
  | .isN a, k, C, Wx, X, sc, e, cn, xo, h => by
    simp only [ckE] at h
    split at h
    · have q := soundE a cn xo h
      exact ⟨m_isN q.pe, m_tisN q.pe, fun z => by cases z⟩
    · cases h
  | .notN a, k, C, Wx, X, sc, e, cn, xo, h => by
    simp only [ckE] at h
    split at h
    · have q := soundE a cn xo h
      exact ⟨m_notN q.pe, m_tnotN q.pe, fun z => by cases z⟩
    · cases h
  | .chain o1 o2 a b c, k, C, Wx, X, sc, e, cn, xo, h => by
    simp only [ckE] at h
    split at h
    · obtain ⟨h, h6⟩ := bt h
      obtain ⟨h, h5⟩ := bt h
      obtain ⟨h, h4⟩ := bt h
      obtain ⟨h, h3⟩ := bt h
      obtain ⟨h1, h2⟩ := bt h
      have e1 := of_decide_eq_true h1
      have e2 := of_decide_eq_true h2
      subst e1; subst e2
      have q1 := soundE a cn xo h4
      have q2 := soundE b cn xo h5
      have q3 := soundE c cn xo h6
      exact ⟨m_chain (op_cmp cn o1) (op_cmp cn o2) q1.pe q2.pe q3.pe h3, m_tchain (op_cmp cn o1) (op_cmp cn o2) (fun _ _ _ _ _ z => cmp_bl z) q1.pe q2.pe q3.pe h3, fun z => by cases z⟩
    · cases h
  | .ife c a b, k, C, Wx, X, sc, e, cn, xo, h => by
    simp only [ckE] at h
    split at h
    · obtain ⟨h, h3⟩ := bt h
      obtain ⟨h1, h2⟩ := bt h
      have q1 := soundE c cn xo h1
      have q2 := soundE a cn xo h2
      have q3 := soundE b cn xo h3
      exact ⟨m_if q1.pt q2.pe q3.pe, m_tif q1.pt q2.pt q3.pt, fun z => by cases z⟩
    · cases h
  | .call f es, k, C, Wx, X, sc, e, cn, xo, h => by
    simp only [ckE] at h
    split at h
    · rename_i x p xs p2
      obtain ⟨h, h5⟩ := bt h
      obtain ⟨h, h4⟩ := bt h
      obtain ⟨h, h3⟩ := bt h
      obtain ⟨h1, h2⟩ := bt h
      split at h3
      · rename_i g e1
        have hd := of_decide_eq_true h3
        subst hd
        obtain ⟨q1, q2⟩ := xo.gs.gl _ _ e1
        rw [← cn.K] at q2
        have qa := soundEs es cn xo h5 h4
        cases xs with
        | nil =>
          cases es with
          | nil => exact EOk.val cn.K (m_callK0 (gl_of xo h1) q1 q2 (c_fn cn f) (okN_of h2).1) rfl
          | cons _ _ => simp only [ckEs] at h5; cases h5
        | cons y ys => exact EOk.val cn.K (m_callK (gl_of xo h1) q1 q2 (c_fn cn f) qa h4 (okN_of h2).1) rfl
      · cases h3
    · cases h
  | .new c es, k, C, Wx, X, sc, e, cn, xo, h => by
    simp only [ckE] at h
    split at h
    · rename_i x p xs p2
      obtain ⟨h, h5⟩ := bt h
      obtain ⟨h, h4⟩ := bt h
      obtain ⟨h, h3⟩ := bt h
      obtain ⟨h1, h2⟩ := bt h
      split at h3
      · rename_i g e1
        have hd := of_decide_eq_true h3
        subst hd
        obtain ⟨q1, q2⟩ := xo.gs.gl _ _ e1
        rw [← cn.K] at q2
        have qa := soundEs es cn xo h5 h4
        cases xs with
        | nil =>
          cases es with
          | nil => exact EOk.val cn.K (m_callK0 (gl_of xo h1) q1 q2 (c_new cn c) (okN_of h2).1) rfl
          | cons _ _ => simp only [ckEs] at h5; cases h5
        | cons y ys => exact EOk.val cn.K (m_callK (gl_of xo h1) q1 q2 (c_new cn c) qa h4 (okN_of h2).1) rfl
      · cases h3
    · cases h
  | .meth o m es, k, C, Wx, X, sc, e, cn, xo, h => by
    simp only [ckE] at h
    split at h
    · rename_i x name ap xs p
      obtain ⟨h, h7⟩ := bt h
      obtain ⟨h, h6⟩ := bt h
      obtain ⟨h, h5⟩ := bt h
      obtain ⟨h, h4⟩ := bt h
      obtain ⟨h, h3⟩ := bt h
      obtain ⟨h1, h2⟩ := bt h
      have qo := soundE o cn xo h6
      have qa := soundEs es cn xo h7 h3
      have hm := name_of xo.gs.nm h1
      cases xs with
      | nil =>
        cases es with
        | nil => exact EOk.val cn.K (m_meth0 cn hm qo.pe h2 h5) rfl
        | cons _ _ => simp only [ckEs] at h7; cases h7
      | cons y ys => exact EOk.val cn.K (m_meth cn hm qo.pe qa h2 h3 (of_decide_eq_true h4) h5) rfl
    · cases h
  | .stat c m es, k, C, Wx, X, sc, e, cn, xo, h => by
    simp only [ckE] at h
    split at h
    · rename_i x p name ap xs p2
      obtain ⟨h, h9⟩ := bt h
      obtain ⟨h, h8⟩ := bt h
      obtain ⟨h, h7⟩ := bt h
      obtain ⟨h, h6⟩ := bt h
      obtain ⟨h, h5⟩ := bt h
      obtain ⟨h, h4⟩ := bt h
      obtain ⟨h, h3⟩ := bt h
      obtain ⟨h1, h2⟩ := bt h
      split at h3
      · rename_i g e1
        have hd := of_decide_eq_true h3
        subst hd
        obtain ⟨q1, q2⟩ := xo.gs.gl _ _ e1
        obtain ⟨g, hg⟩ := Option.isSome_iff_exists.mp h4
        cases hci : P.cs[c]? with
        | none => rw [hci] at hg; cases hg
        | some ci =>
          rw [hci] at hg
          have qa := soundEs es cn xo h9 h6
          cases xs with
          | nil =>
            cases es with
            | nil => exact EOk.val cn.K (m_stat0 cn (gl_of xo h1) q1 hci hg (name_of xo.gs.nm h5) h8 (okN_of h2).1) rfl
            | cons _ _ => simp only [ckEs] at h9; cases h9
          | cons y ys => exact EOk.val cn.K (m_stat cn (gl_of xo h1) q1 hci hg (name_of xo.gs.nm h5) qa h6 (of_decide_eq_true h7) h8 (okN_of h2).1) rfl
      · cases h3
    · cases h
  | .attr o f, k, C, Wx, X, sc, e, cn, xo, h => by
    simp only [ckE] at h
    split at h
    · obtain ⟨h, h3⟩ := bt h
      obtain ⟨h1, h2⟩ := bt h
      exact EOk.val cn.K (m_attr cn (name_of xo.gs.nm h1) (soundE o cn xo h3).pe h2) rfl
    · cases h
  | .self f, k, C, Wx, X, sc, e, cn, xo, h => by
    simp only [ckE] at h
    split at h
    · obtain ⟨h, h4⟩ := bt h
      obtain ⟨h, h3⟩ := bt h
      obtain ⟨h1, h2⟩ := bt h
      exact EOk.val cn.K (m_self cn (name_of xo.gs.nm h1) (by rw [xo.eN]; exact slot_of h2) (vis_of xo h3) (okN_of h4).1 (okN_of h4).2.1) rfl
    · cases h
  | .bi b es, k, C, Wx, X, sc, e, cn, xo, h => by
    simp only [ckE] at h
    split at h
    · rename_i x p y xs p2
      obtain ⟨h, h3⟩ := bt h
      obtain ⟨h1, h2⟩ := bt h
      have qa := soundEs es cn xo h3 h2
      cases b with
      | gcd =>
        obtain ⟨h1, h5⟩ := bt h1
        obtain ⟨h1, h4⟩ := bt h1
        split at h5
        · rename_i id e1
          have hd := of_decide_eq_true h5
          subst hd
          exact EOk.val cn.K (m_callG (gl_of xo h1) (xo.gs.gl _ _ e1) c_gcd qa h2 (okN_of h4).1) rfl
        · cases h5
      | len =>
        obtain ⟨a1, a2, a3, a4, a5⟩ := blt_of (y := "len") xo h1
        subst a3
        exact EOk.val cn.K (m_callB a1 a2 (by rfl) (c_len cn) qa h2 a5 a4) rfl
      | abs =>
        obtain ⟨a1, a2, a3, a4, a5⟩ := blt_of (y := "abs") xo h1
        subst a3
        exact EOk.val cn.K (m_callB a1 a2 (by rfl) (c_abs cn) qa h2 a5 a4) rfl
      | all =>
        obtain ⟨a1, a2, a3, a4, a5⟩ := blt_of (y := "all") xo h1
        subst a3
        exact EOk.val cn.K (m_callB a1 a2 (by rfl) (c_all cn.calm cn.K) qa h2 a5 a4) rfl
      | int =>
        obtain ⟨a1, a2, a3, a4, a5⟩ := blt_of (y := "int") xo h1
        subst a3
        exact EOk.val cn.K (m_callT a1 a2 (by rfl) c_int qa h2 a5 a4) rfl
      | str =>
        obtain ⟨a1, a2, a3, a4, a5⟩ := blt_of (y := "str") xo h1
        subst a3
        exact EOk.val cn.K (m_callT a1 a2 (by rfl) c_str qa h2 a5 a4) rfl
      | bool =>
        obtain ⟨a1, a2, a3, a4, a5⟩ := blt_of (y := "bool") xo h1
        subst a3
        exact EOk.val cn.K (m_callT a1 a2 (by rfl) c_bool qa h2 a5 a4) rfl
      | tuple =>
        obtain ⟨a1, a2, a3, a4, a5⟩ := blt_of (y := "tuple") xo h1
        subst a3
        exact EOk.val cn.K (m_callT a1 a2 (by rfl) (c_tuple cn.K) qa h2 a5 a4) rfl
      | list =>
        obtain ⟨a1, a2, a3, a4, a5⟩ := blt_of (y := "list") xo h1
        subst a3
        exact EOk.val cn.K (m_callT a1 a2 (by rfl) (c_list cn.K) qa h2 a5 a4) rfl
      | any => cases h1
    · cases h
  | .isi a ks, k, C, Wx, X, sc, e, cn, xo, h => by
    simp only [ckE] at h
    split at h
    · rename_i x p y z p2
      obtain ⟨h, h4⟩ := bt h
      obtain ⟨h, h3⟩ := bt h
      obtain ⟨h1, h2⟩ := bt h
      obtain ⟨a1, a2, a3, a4, a5⟩ := blt_of xo h1
      subst a3
      have qa := soundE a cn xo h3
      split at h4
      · rename_i cs k1 p3
        obtain ⟨h4, h8⟩ := bt h4
        obtain ⟨h4, h7⟩ := bt h4
        obtain ⟨h5, h6⟩ := bt h4
        cases ks with
        | nil => cases h5
        | cons i ks => exact EOk.val cn.K (m_isiT cn a1 a2 (by rfl) qa.pe (clss_of xo h8 h7) (of_decide_eq_true h6) h2 a5 a4) rfl
      · split at h4
        · exact EOk.val cn.K (m_isi1 cn a1 a2 (by rfl) qa.pe (cls_of xo h4) h2 a5 a4) rfl
        · cases h4
    · cases h
  | .idx a i, k, C, Wx, X, sc, e, cn, xo, h => by
    simp only [ckE] at h
    split at h
    · obtain ⟨h, h3⟩ := bt h
      obtain ⟨h1, h2⟩ := bt h
      exact EOk.val cn.K (m_idx cn (soundE a cn xo h2).pe (soundE i cn xo h3).pe h1) rfl
    · cases h
  | .slice a lo hi, k, C, Wx, X, sc, e, cn, xo, h => by
    simp only [ckE] at h
    split at h
    · obtain ⟨h, h3⟩ := bt h
      obtain ⟨h1, h2⟩ := bt h
      exact EOk.val cn.K (m_slice cn.K (soundE a cn xo h1).pe (soundO lo cn xo h2) (soundO hi cn xo h3)) rfl
    · cases h
  | .tup es, k, C, Wx, X, sc, e, cn, xo, h => by
    simp only [ckE] at h
    split at h
    · obtain ⟨h1, h2⟩ := bt h
      exact EOk.val cn.K (m_tup (soundEs es cn xo h2 h1)) rfl
    · cases h
  | .lst c es, k, C, Wx, X, sc, e, cn, xo, h => by
    simp only [ckE] at h
    split at h
    · obtain ⟨h1, h2⟩ := bt h
      exact EOk.val cn.K (m_lst (cell := c) (soundEs es cn xo h2 h1)) rfl
    · cases h
  | .comp elt p own it test, k, C, Wx, X, sc, e, cn, xo, h => by
    simp only [ckE] at h
    split at h
    · rename_i x tg iter ifs scope p2
      obtain ⟨h, h7⟩ := bt h
      obtain ⟨h, h6⟩ := bt h
      obtain ⟨h, h5⟩ := bt h
      obtain ⟨h, h4⟩ := bt h
      obtain ⟨h, h3⟩ := bt h
      obtain ⟨h1, h2⟩ := bt h
      have bo := blkOk_by h1
      have om := own_map (N := N) own
      have hsub : ∀ j, j ∈ patSlots p → j ∈ (ownL N own).map (·.2) := by
        rw [om]
        intro j hj
        have := List.all_eq_true.mp h4 j hj
        simpa using this
      have bo' : BlkOk X.N X.env.scope scope (ownL N own) := by rw [xo.eN, xo.eS]; exact bo
      have hv := m_comp cn.calm (by rw [xo.eN]; exact xo.nd) (soundI it cn xo h5) bo' (fun s H CC cl fp => pat_of (X := X.blk s H scope (compEnvC scope cl CC X.env) fp) cn.calm cn.K xo.eN xo.nd (fc_blk xo) p tg h3) (fun s H CC cl fp => soundT test (cn_blk cn) (xo_blk xo bo.kind) h6)
        (fun s H CC cl fp => (soundE elt (cn_blk cn) (xo_blk xo bo.kind) h7).pe) (fold_of h2) hsub (pos := p2)
      rw [om] at hv
      exact EOk.val cn.K hv rfl
    · cases h
  | .app o a, k, C, Wx, X, sc, e, cn, xo, h => by
    simp only [ckE] at h
    split at h
    · rename_i x name ap y p
      obtain ⟨h, h6⟩ := bt h
      obtain ⟨h, h5⟩ := bt h
      obtain ⟨h, h4⟩ := bt h
      obtain ⟨h, h3⟩ := bt h
      obtain ⟨h1, h2⟩ := bt h
      have hn := eq_of_beq h1
      subst hn
      exact EOk.val cn.K (m_app cn.K (soundE o cn xo h5).pe (soundE a cn xo h6).pe h2 h3 h4) rfl
    · cases h
  | .frz a, k, C, Wx, X, sc, e, cn, xo, h => by
    simp only [ckE] at h
    obtain ⟨h, h3⟩ := bt h
    obtain ⟨h1, h2⟩ := bt h
    exact EOk.val cn.K (m_frz (soundE a cn xo h2).pe) h3
  | .heard i a, k, C, Wx, X, sc, e, cn, xo, h => by
    simp only [ckE] at h
    obtain ⟨hl, h⟩ := bt h
    split at h
    · rename_i hh hi
      split at h
      · rename_i x p ps body scope lpos pos _
        obtain ⟨h, h7⟩ := bt h
        obtain ⟨h, h6⟩ := bt h
        obtain ⟨h, h5⟩ := bt h
        obtain ⟨h, h4⟩ := bt h
        obtain ⟨h, h3⟩ := bt h
        obtain ⟨h1, h2⟩ := bt h
        split at h4
        · rename_i g hg
          have e4 := of_decide_eq_true h4
          subst e4
          obtain ⟨q1, q2⟩ := xo.gs.gl _ _ hg
          match k, cn with
          | 0, cn => exact EOk.bad cn.K (fun fr S => by simp only [evE, run, isOk]; rfl) rfl
          | 1, cn => exact EOk.bad cn.K (fun fr S => by simp only [evE, run, isOk]; rfl) rfl
          | k + 2, cn =>
            refine EOk.val cn.K (m_heard cn xo hl hi (gl_of xo h1) (eq_of_beq h3) q1 q2 (okN_of h2).1 h5 h6 fun A outer s H E f c' hr => ?_) rfl
            exact (soundE a (cn_lam cn hr) (C := C.off) (sc := scope) ⟨xo.eN, xo.nd, rfl, (LamX.lamS_by h6).kind, xo.gs.on false, fun z => nomatch z⟩ h7).pe
        · cases h4
      · cases h
    · cases h
  | .kcall f es ks, k, C, Wx, X, sc, e, cn, xo, h => by
    simp only [ckE] at h
    split at h
    · rename_i x p xs kws p2
      obtain ⟨h, h7⟩ := bt h
      obtain ⟨h, h6⟩ := bt h
      obtain ⟨h, h5⟩ := bt h
      obtain ⟨h, h4⟩ := bt h
      obtain ⟨h, h3⟩ := bt h
      obtain ⟨h1, h2⟩ := bt h
      split at h3
      · rename_i g e1
        have hd := of_decide_eq_true h3
        subst hd
        obtain ⟨q1, q2⟩ := xo.gs.gl _ _ e1
        rw [← cn.K] at q2
        have qa := soundEs es cn xo h6 h4
        have qk := soundKs ks cn xo h7
        have hw := kw_ok xo.gs h5
        have l1 := ckEs_len h6
        have l2 := ckEs_len h7
        have g2 : ∀ fr S zs S', evEs P (run P k) ks fr S = .ok zs S' → zs.length = kws.length := fun fr S zs S' z => by rw [evEs_len z, l2, List.length_map]
        cases xs with
        | nil =>
          cases es with
          | nil => exact EOk.val cn.K (m_kcall0 cn (gl_of xo h1) q1 q2 rfl hw qk g2 (okN_of h2).1) rfl
          | cons _ _ => simp only [ckEs] at h6; cases h6
        | cons y ys => exact EOk.val cn.K (m_kcall cn (gl_of xo h1) q1 q2 rfl hw qa qk (fun fr S zs S' z => by rw [evEs_len z, l1]) g2 h4 (okN_of h2).1) rfl
      · cases h3
    · cases h
  | .kmeth o m es ks, k, C, Wx, X, sc, e, cn, xo, h => by
    simp only [ckE] at h
    split at h
    · rename_i x name ap xs kws p
      obtain ⟨h, h10⟩ := bt h
      obtain ⟨h, h9⟩ := bt h
      obtain ⟨h, h8⟩ := bt h
      obtain ⟨h, h7⟩ := bt h
      obtain ⟨h, h6⟩ := bt h
      obtain ⟨h, h5⟩ := bt h
      obtain ⟨h, h4⟩ := bt h
      obtain ⟨h, h3⟩ := bt h
      obtain ⟨h1, h2⟩ := bt h
      have qo := soundE o cn xo h8
      have qa := soundEs es cn xo h9 h3
      have qk := soundKs ks cn xo h10
      have hm := name_of xo.gs.nm h1
      have hw : ∀ (x : D) (S : Store) (g : Nat), methF P x m S = some g → KwOk (T.pn g) (xs.length + 1) kws := fun x S g z => by
        obtain ⟨ci, c1, c2⟩ := methF_mem z
        have q := List.all_eq_true.mp h7 ci c1
        rw [c2] at q
        exact kw_ok xo.gs q
      have l1 := ckEs_len h9
      have l2 := ckEs_len h10
      have g2 : ∀ fr S zs S', evEs P (run P k) ks fr S = .ok zs S' → zs.length = kws.length := fun fr S zs S' z => by rw [evEs_len z, l2, List.length_map]
      cases xs with
      | nil =>
        cases es with
        | nil => exact EOk.val cn.K (m_kmeth0 cn hm qo.pe qk hw (all_some h6) g2 h2 (by have := of_decide_eq_true h4; simpa using this) h5) rfl
        | cons _ _ => simp only [ckEs] at h9; cases h9
      | cons y ys => exact EOk.val cn.K (m_kmeth cn hm qo.pe qa qk hw (all_some h6) (fun fr S zs S' z => by rw [evEs_len z, l1]) g2 h2 h3 (of_decide_eq_true h4) h5) rfl
    · cases h
theorem soundEs : ∀ (ms : MEs) {k : Nat} {C : Ctx} {Wx : WX} {X : Cx} {sc : Scope} {es : List Expr}, Cn T P k Wx X → XOk T P C N sc X → ckEs P C N sc ms es = true → noStar es = true → PA X es (tL T Wx (evEs P (run P k) ms))
  | .nil, k, C, Wx, X, sc, es, cn, xo, h, hn => by
    simp only [ckEs] at h
    cases es with
    | nil => exact a_nil
    | cons _ _ => cases h
  | .cons a r, k, C, Wx, X, sc, es, cn, xo, h, hn => by
    simp only [ckEs] at h
    cases es with
    | nil => cases h
    | cons x xs =>
      obtain ⟨h1, h2⟩ := bt h
      exact a_cons (soundE a cn xo h1).pe (soundEs r cn xo h2 (star_cons (env := X.env) hn).2) hn
theorem soundKs : ∀ (ms : MEs) {k : Nat} {C : Ctx} {Wx : WX} {X : Cx} {sc : Scope} {kws : List Keyword}, Cn T P k Wx X → XOk T P C N sc X → ckEs P C N sc ms (kws.map (·.value)) = true → PK X kws (tL T Wx (evEs P (run P k) ms))
  | .nil, k, C, Wx, X, sc, kws, cn, xo, h => by
    simp only [ckEs] at h
    cases kws with
    | nil => exact k_nil
    | cons _ _ => cases h
  | .cons a r, k, C, Wx, X, sc, kws, cn, xo, h => by
    simp only [ckEs] at h
    cases kws with
    | nil => cases h
    | cons q kws =>
      obtain ⟨n, v, p⟩ := q
      obtain ⟨h1, h2⟩ := bt h
      exact k_cons (soundE a cn xo h1).pe (soundKs r cn xo h2)
theorem soundO : ∀ (m : MO) {k : Nat} {C : Ctx} {Wx : WX} {X : Cx} {sc : Scope} {e : Option Expr}, Cn T P k Wx X → XOk T P C N sc X → ckO P C N sc m e = true → PO X e (tO T Wx (evO P (run P k) m))
  | .none, k, C, Wx, X, sc, e, cn, xo, h => by
    simp only [ckO] at h
    cases e with
    | none => exact o_none
    | some _ => cases h
  | .some a, k, C, Wx, X, sc, e, cn, xo, h => by
    simp only [ckO] at h
    cases e with
    | none => cases h
    | some x => exact o_some (soundE a cn xo h).pe
theorem soundT : ∀ (m : MO) {k : Nat} {C : Ctx} {Wx : WX} {X : Cx} {sc : Scope} {es : List Expr}, Cn T P k Wx X → XOk T P C N sc X → ckT P C N sc m es = true → PTs X es (tTs T Wx (evT P (run P k) m))
  | .none, k, C, Wx, X, sc, es, cn, xo, h => by
    simp only [ckT] at h
    cases es with
    | nil => exact ts_nil
    | cons _ _ => cases h
  | .some a, k, C, Wx, X, sc, es, cn, xo, h => by
    simp only [ckT] at h
    split at h
    · exact ts_one (soundE a cn xo h).pt
    · cases h
theorem soundI : ∀ (m : MI) {k : Nat} {C : Ctx} {Wx : WX} {X : Cx} {sc : Scope} {e tg : Expr}, Cn T P k Wx X → XOk T P C N sc X → ckI P C N sc m e tg = true → PI X tg e (tI T Wx (evI P (run P k) m))
  | .ex a, k, C, Wx, X, sc, e, tg, cn, xo, h => by
    simp only [ckI] at h
    exact i_ex cn (soundE a cn xo h).pe
  | .rng1 a, k, C, Wx, X, sc, e, tg, cn, xo, h => by
    simp only [ckI] at h
    split at h
    · obtain ⟨h, h3⟩ := bt h
      obtain ⟨h1, h2⟩ := bt h
      obtain ⟨a1, a2, a3, a4, a5⟩ := blt_of xo h1
      subst a3
      exact i_rng1 a1 a2 (soundE a cn xo h3).pe h2
    · cases h
  | .rng2 a b, k, C, Wx, X, sc, e, tg, cn, xo, h => by
    simp only [ckI] at h
    split at h
    · obtain ⟨h, h4⟩ := bt h
      obtain ⟨h, h3⟩ := bt h
      obtain ⟨h1, h2⟩ := bt h
      obtain ⟨a1, a2, a3, a4, a5⟩ := blt_of xo h1
      subst a3
      exact i_rng2 a1 a2 (soundE a cn xo h3).pe (soundE b cn xo h4).pe h2
    · cases h
  | .enum a, k, C, Wx, X, sc, e, tg, cn, xo, h => by
    simp only [ckI] at h
    split at h
    · obtain ⟨h, h3⟩ := bt h
      obtain ⟨h, h2⟩ := bt h
      obtain ⟨h0, h1⟩ := bt h
      obtain ⟨a1, a2, a3, a4, a5⟩ := blt_of xo h1
      subst a3
      cases tg <;> first | exact i_enum cn.K a1 a2 (soundE a cn xo h3).pe h2 | cases h0
    · cases h
  | .zip a b, k, C, Wx, X, sc, e, tg, cn, xo, h => by
    simp only [ckI] at h
    split at h
    · obtain ⟨h, h4⟩ := bt h
      obtain ⟨h, h3⟩ := bt h
      obtain ⟨h, h2⟩ := bt h
      obtain ⟨h0, h1⟩ := bt h
      obtain ⟨a1, a2, a3, a4, a5⟩ := blt_of xo h1
      subst a3
      cases tg <;> first | exact i_zip cn.K a1 a2 (soundE a cn xo h3).pe (soundE b cn xo h4).pe h2 | cases h0
    · cases h
end
end
end Mi
end

section
set_option maxRecDepth 100000
set_option maxHeartbeats 1000000
/-! Mi: raise C(..) of an exception's class of one's own. -/
namespace Mi
open PySem PySem.Spec L2 PyProof.Rows
/-- the exception at a while its __init__ runs -/
def HX (H0 : Hp) (a C : Addr) (o : Option Addr) (fs : List (Str × V)) : Hp := match o with
  | none => upd H0 a (exo a C none)
  | some d => upd (upd H0 d (exd d fs)) a (exo a C (some d))
theorem hx_a {H0 : Hp} {a C : Addr} {o : Option Addr} {fs : List (Str × V)} : HX H0 a C o fs a = some (exo a C o) := by cases o <;> exact upd_same
theorem hx_d {H0 : Hp} {a C d : Addr} {fs : List (Str × V)} (h : d ≠ a) : HX H0 a C (some d) fs d = some (exd d fs) := by
  show upd (upd H0 d (exd d fs)) a _ d = _
  rw [upd_ne h, upd_same]
theorem hx_first {H0 : Hp} {a C d : Addr} {fs : List (Str × V)} (h : d ≠ a) : upd (upd (HX H0 a C none []) d (exd d fs)) a (exo a C (some d)) = HX H0 a C (some d) fs := by
  funext b
  show upd (upd (upd H0 a (exo a C none)) d (exd d fs)) a (exo a C (some d)) b = upd (upd H0 d (exd d fs)) a (exo a C (some d)) b
  by_cases ha : b = a
  · rw [ha, upd_same, upd_same]
  · rw [upd_ne ha, upd_ne ha]
    by_cases hd : b = d
    · rw [hd, upd_same, upd_same]
    · rw [upd_ne hd, upd_ne hd, upd_ne ha]
theorem hx_next {H0 : Hp} {a C d : Addr} {fs gs : List (Str × V)} (h : d ≠ a) : upd (HX H0 a C (some d) fs) d (exd d gs) = HX H0 a C (some d) gs := by
  funext b
  show upd (upd (upd H0 d (exd d fs)) a (exo a C (some d))) d (exd d gs) b = upd (upd H0 d (exd d gs)) a (exo a C (some d)) b
  by_cases hd : b = d
  · subst hd
    rw [upd_same, upd_ne h, upd_same]
  · rw [upd_ne hd]
    by_cases ha : b = a
    · rw [ha, upd_same, upd_same]
    · rw [upd_ne ha, upd_ne ha, upd_ne hd, upd_ne hd]
theorem hx_end {H0 : Hp} {a C d : Addr} {fs : List (Str × V)} (h : d ≠ a) (ha0 : H0 a = none) : upd (del (HX H0 a C (some d) fs) a) d (.xd fs) = upd H0 d (.xd fs) := by
  funext b
  by_cases hd : b = d
  · rw [hd, upd_same, upd_same]
  · rw [upd_ne hd, upd_ne hd]
    by_cases ha : b = a
    · rw [ha, del_same, ha0]
    · rw [del_ne ha]
      show upd (upd H0 d (exd d fs)) a (exo a C (some d)) b = _
      rw [upd_ne ha, upd_ne hd]
section
variable {T : Tb} {P : Pg} {k : Nat} {C : Ctx} {N nm : List Str} {Wx : WX} {X : Cx} {sc : Scope} {w : Wl} {H : Hp} {S : Store}
def nmz (nm : List Str) (flds : List Nat) : List Str := flds.map fun f => nm.getD f Str.empty
/-- .. its fields from the i-th parameter on -/
def tX (nm : List Str) (K : PySem.W.Frag) (i : Nat) (flds : List Nat) : TS := fun D σ H => ∃ (a Ca : Addr) (H0 : Hp) (o : Option Addr) (fs : List (Str × V)) (ys : List V),
  σ[0]? = some (some (.ref a)) ∧ ys.length = flds.length ∧ (∀ (j : Nat) (y : V), ys[j]? = some y → σ[i + j]? = some (some y)) ∧ OexC K Ca ∧ (∀ f, f ∈ flds → ∃ x, nm[f]? = some x ∧ PySem.W.findIn K (.ref Ca) x = some none) ∧
  (o = none → fs = [] ∧ flds ≠ []) ∧ (∀ d, o = some d → d ≠ a) ∧ H = HX H0 a Ca o fs ∧ fs.length + flds.length ≤ 900 ∧
  ∀ d, (∀ d', o = some d' → d = d') → (o = none → H0 d = none) → d ≠ a → D.nx σ (HX H0 a Ca (some d) (((nmz nm flds).zip ys).reverse ++ fs))
theorem xb_ok (eN : X.N = N) (eS : X.env.scope = sc) : ∀ {flds : List Nat} {i : Nat} {ss : List Stmt}, xbC nm N sc i flds ss = true → PSs X ss (tX nm X.K i flds)
  | [], i, ss, h => by
    cases ss with
    | cons _ _ => simp [xbC] at h
    | nil =>
      refine PSs.imp pss_nil fun D σ H q => ?_
      obtain ⟨a, Ca, H0, o, fs, ys, q1, q2, q3, q4, q5, q6, q7, q8, q9, q10⟩ := q
      cases o with
      | none => exact absurd rfl (q6 rfl).2
      | some d =>
        have := q10 d (fun d' e => by cases e; rfl) (fun z => nomatch z) (q7 d rfl)
        rw [q8]
        exact this
  | f :: fl, i, ss, h => by
    cases ss with
    | nil => simp [xbC] at h
    | cons s ss =>
      simp only [xbC] at h
      split at h
      · rename_i x px name pa y py pp _ heq
        cases heq
        obtain ⟨h, h8⟩ := bt h
        obtain ⟨h, h7⟩ := bt h
        obtain ⟨h, h6⟩ := bt h
        obtain ⟨h, h5⟩ := bt h
        obtain ⟨h, h4⟩ := bt h
        obtain ⟨h, h3⟩ := bt h
        obtain ⟨h1, h2⟩ := bt h
        have vis : ∀ {z : Str}, visC sc z = true → Vis X.env.scope z := fun {z} hz => by
          rw [eS]
          unfold visC at hz
          unfold Vis
          cases e : sc.names.lookup z with
          | none => rw [e] at hz; cases hz
          | some kk => rw [e] at hz; cases kk <;> simp_all
        have hnm : nm[f]? = some name := by
          cases q : nm[f]? with
          | none => rw [q] at h7; cases h7
          | some z => rw [q] at h7; exact congrArg some (eq_of_beq h7)
        have p0 : PE X (.Name x px) (tVar 0) := pe_var (by rw [eN]; exact slot_of h1) (vis h2) (okN_of h3).1 (okN_of h3).2.1
        have p1 : PE X (.Name y py) (tVar i) := pe_var (by rw [eN]; exact slot_of h4) (vis h5) (okN_of h6).1 (okN_of h6).2.1
        refine PSs.imp (pss_cons (ps_ost (f := name) (p' := pa) (pos := pp) p0 p1 (by rfl)) (xb_ok eN eS h8)) fun D σ H q => ?_
        obtain ⟨a, Ca, H0, o, fs, ys, q1, q2, q3, q4, q5, q6, q7, q8, q9, q10⟩ := q
        cases ys with
        | nil => cases q2
        | cons v ys =>
          obtain ⟨x', hx', hno⟩ := q5 f List.mem_cons_self
          rw [hnm] at hx'; cases hx'
          have hname : (nmz nm (f :: fl)).zip (v :: ys) = (name, v) :: (nmz nm fl).zip ys := by
            show (nm.getD f Str.empty, v) :: _ = _
            rw [List.getD_eq_getElem?_getD, hnm]; rfl
          have rest : ∀ d, (∀ d', o = some d' → d = d') → (o = none → H0 d = none) → d ≠ a → tX nm X.K (i + 1) fl D σ (HX H0 a Ca (some d) ((name, v) :: fs)) := fun d e1 e2 e3 => by
            refine ⟨a, Ca, H0, some d, (name, v) :: fs, ys, q1, by simpa using q2, fun j y hy => ?_, q4, fun f' hf => q5 f' (List.mem_cons_of_mem _ hf), (fun z => nomatch z), (fun d' z => by cases z; exact e3), rfl, ?_, fun d2 g1 _ g3 => ?_⟩
            · have := q3 (j + 1) y (by simpa using hy)
              rw [show i + 1 + j = i + (j + 1) by omega]; exact this
            · simp at q9 ⊢; omega
            · have ed := g1 d rfl
              subst ed
              have := q10 d2 e1 e2 e3
              rw [hname, List.reverse_cons, List.append_assoc] at this
              exact this
          refine ⟨v, q3 0 v rfl, .ref a, q1, a, Ca, rfl, q4, hno, ?_⟩
          cases o with
          | none =>
            obtain ⟨e1, _⟩ := q6 rfl
            subst e1
            refine .inl ⟨by rw [q8]; exact hx_a, fun dx hn ne => ?_⟩
            have h0 : H0 dx = none := by
              rw [q8] at hn
              have := hn
              rw [show HX H0 a Ca none [] = upd H0 a (exo a Ca none) from rfl, upd_ne ne] at this
              exact this
            have := rest dx (fun d' z => nomatch z) (fun _ => h0) ne
            rw [q8, hx_first ne]
            exact this
          | some d =>
            have ne := q7 d rfl
            refine .inr ⟨d, fs, by rw [q8]; exact hx_a, by rw [q8]; exact hx_d ne, by simp at q9; omega, ?_⟩
            have := rest d (fun d' z => by cases z; rfl) (fun z => nomatch z) ne
            rw [q8, hx_next ne]
            exact this
      · cases h
/-- what an exception's __init__ promises -/
def spX (T : Tb) (flds : List Nat) : Sp := fun vs H Q E => ∃ (a Ca : Addr) (H0 : Hp) (ys : List V), vs = .ref a :: ys ∧ ys.length = flds.length ∧ H = HX H0 a Ca none [] ∧ flds ≠ [] ∧ flds.length ≤ 900 ∧ OexC T.K Ca ∧
  (∀ f, f ∈ flds → ∃ x, T.nm[f]? = some x ∧ PySem.W.findIn T.K (.ref Ca) x = some none) ∧ ∀ d, H0 d = none → d ≠ a → Q .non (HX H0 a Ca (some d) ((nmz T.nm flds).zip ys).reverse)
theorem xini_ok {prog : Program} {wd : World} {mg : Str → Option Value} {base : Heap} {fI : Addr} {oc : Value} {od : Option Addr} {dV kV doc pm cdv ct : Value} {an : Option Addr} {osl : Array (Option Value)} {name qual : Str} {pa : Arguments} {body : List Stmt} {scope : Scope} {ps : List Str} {flds : List Nat}
    (lk : T.K.lookup fI = some ⟨oc, od, .func (PySem.W.fnOf name qual pa body scope dV kV doc pm an cdv ct), osl⟩) (hcd : PySem.W.codeIn T.K cdv qual = true) (Sc : FnScope N ps scope) (hp : ps.length = flds.length + 1) (hb : xbC T.nm N scope 1 flds (unDoc body) = true) :
    FnOk prog wd T.K mg base (CX prog wd) (k + 1) fI (PySem.W.fnOf name qual pa body scope dV kV doc pm an cdv ct) ps (spX T flds) := by
  refine fn_of lk hcd Sc (fun vs H Q E ⟨a, Ca, H0, ys, e, hl, _⟩ => by rw [e, hp, ← hl]; rfl) fun A outer s H vs Q E hr hq => ?_
  refine pss_undoc (R := fun t => t { nx := fun _ H' => Q .non H', rt := Q } (L2.start N vs) H) ⟨_, xb_ok (X := cxOf (CX prog wd) prog wd T.K mg base N qual scope fI cdv A outer s H E) rfl rfl hb, ?_⟩ (fun t u hu q => hu _ _ _ q)
  obtain ⟨a, Ca, H0, ys, e, hl, eH, hne, h9, hoe, hno, hQ⟩ := hq
  subst e
  refine ⟨a, Ca, H0, none, [], ys, rfl, hl, fun j y hy => ?_, hoe, hno, fun _ => ⟨rfl, hne⟩, (fun d z => nomatch z), eH, by simpa using h9, fun d _ h0 ne => ?_⟩
  · unfold L2.start
    rw [List.getElem?_append_left (by have := (List.getElem?_eq_some_iff.mp hy).1; simp; omega), List.getElem?_map, show 1 + j = j + 1 by omega, List.getElem?_cons_succ, hy]; rfl
  · rw [List.append_nil]
    exact hQ d (h0 rfl) ne
theorem repF_app {vs us : List (Str × V)} {fs gs : List (Nat × D)} : RepF T w H vs fs → RepF T w H us gs → RepF T w H (vs ++ us) (fs ++ gs)
  | .nil, q => q
  | .cons e r rs, q => .cons e r (repF_app rs q)
theorem repF_zip : ∀ {flds : List Nat} {vs : List V} {ds : List D}, Reps T w H vs ds → flds.length = ds.length → (∀ f, f ∈ flds → ∃ x, T.nm[f]? = some x) → RepF T w H ((nmz T.nm flds).zip vs).reverse (flds.zip ds).reverse
  | [], _, _, .nil, _, _ => .nil
  | [], _, _, .cons _ _, h, _ => by cases h
  | f :: fl, _, _, .nil, h, _ => by cases h
  | f :: fl, v :: vs, d :: ds, .cons r rs, h, hn => by
    obtain ⟨x, hx⟩ := hn f List.mem_cons_self
    have e : (nmz T.nm (f :: fl)).zip (v :: vs) = (x, v) :: (nmz T.nm fl).zip vs := by
      show (T.nm.getD f Str.empty, v) :: _ = _
      rw [List.getD_eq_getElem?_getD, hx]; rfl
    rw [e, List.zip_cons_cons, List.reverse_cons, List.reverse_cons]
    exact repF_app (repF_zip rs (by simpa using h) fun f' hf => hn f' (List.mem_cons_of_mem _ hf)) (.cons hx r .nil)
theorem s_rais {x : Nat} {y : Str} {p pos pos2 : Pos} {e : Expr} {es : List Expr} {ml : MirL} (cn : Cn T P k Wx X) (gs : GsOk T P C X.mg) (hg : Gl X y) (hm : X.mg y = some (.ref (T.xa x))) (hdb : (y == ("__debug__" : Str)) = false) (ha : PA X (e :: es) (tL T Wx ml)) (hn : noStar (e :: es) = true) :
    PS X (.Raise (some (.Call (.Name y p) (e :: es) [] pos)) none pos2) (tS T Wx fun fr S => if isOk (run P k (.dn .lv) S) && decide (x < P.xs.length) then (ml fr S).bindO fr fun ds S1 => raisM P x ds fr S1 else .bad) := by
  by_cases hk : ∃ j, k = j + 2
  · obtain ⟨j, hj⟩ := hk
    subst hj
    by_cases hxl : x < P.xs.length
    · have hx : P.xs[x]? = some P.xs[x] := by simp [hxl]
      generalize hxi : P.xs[x] = xi at hx
      have xc := gs.xc x xi hx
      obtain ⟨fI, oc, od, kV, doc, pm, cdv, ct, an, osl, name, qual, as, kwd, df, body, scope, ps, N, i1, i2, lk, hcd, Sc, hps, hpl, hb⟩ := xc.ini
      have F := xini_ok (T := T) (prog := X.prog) (wd := X.w) (mg := X.mg) (base := X.base) (k := j) (flds := xi.flds) lk hcd Sc hpl hb
      have ndP : ps.Nodup := by rw [← Sc.pre]; exact Sc.nd.sublist (List.take_sublist _ _)
      have hB : L2.Binds X.K (PySem.W.fnOf name qual { posonlyargs := [], args := as, vararg := none, kwonlyargs := [], kw_defaults := kwd, kwarg := none, defaults := df } body scope .none kV doc pm an cdv ct) ps [] := by
        intro s us kI hlen
        have hlen' : us.length = ps.length := by simpa using hlen
        obtain ⟨kk, b1, _, b3⟩ := bind_gen (fd := PySem.W.fnOf name qual { posonlyargs := [], args := as, vararg := none, kwonlyargs := [], kw_defaults := kwd, kwarg := none, defaults := df } body scope .none kV doc pm an cdv ct) rfl hps ndP us [] (by omega) (Nat.zero_le _) (by simp; omega)
        rw [List.append_nil]
        refine BindsTo.of_eq ?_
        rw [b1]
        show (pure none >>= kk) = _
        rw [pure_bind]
        exact b3 rfl
      rw [← cn.K] at F
      have hmk := pmk_oex (X := X) (CX := CX X.prog X.w) (dvs := []) (ds := []) (p := p) (pos := pos) (by rw [cn.K]; exact xc.oe) (by rw [cn.K]; exact i1) (by rw [cn.K]; exact i2) F cn.room hB .nil (passes_call cn.tk fun _ _ _ _ z => z.elim) hg hm ha hdb (star_cons hn).1 (star_any (star_cons (env := X.env) hn).2)
      refine PS.imp (ps_raise cn.calm cn.tk hmk) fun D0 σ H ⟨w, fr, S, f, st, h⟩ => ?_
      dsimp only at h
      rw [if_pos (by simp only [run, isOk, hxl]; rfl)] at h
      refine ⟨w, fr, S, f, st, (post_bindOL f st h).imp fun vs H1 ⟨w1, ds, S1, e, r, st1, q⟩ => ?_⟩
      have q' : PostO T Wx w1 H1 D0 (raisM P x ds fr S1) := q
      unfold raisM at q'
      rw [hx] at q'
      dsimp only at q'
      split at q'
      · rename_i hc
        obtain ⟨hc, c3⟩ := bt hc
        obtain ⟨c1, c2⟩ := bt hc
        have c3 := of_decide_eq_true c3
        have c1 := of_decide_eq_true c1
        have c2 := of_decide_eq_true c2
        have hvl := r.length
        have hno : ∀ f, f ∈ xi.flds → ∃ n, T.nm[f]? = some n := fun f hf => by
          obtain ⟨n, h1, _⟩ := xc.no f hf
          exact ⟨n, h1⟩
        have hne : xi.flds ≠ [] := fun z => by
          rw [z] at c1
          simp at c1; omega
        refine ⟨by omega, fun a ha0 => ⟨a, T.xa x, H1, vs, by rw [List.append_nil], by omega, rfl, hne, by omega, xc.oe, xc.no, fun d hd0 hda => ⟨rfl, d, _, hx_a, hx_d hda, hd0, ?_⟩⟩⟩
        rw [hx_end hda ha0]
        have ex : Ext none w1 H1 w1 (upd H1 d (.xd ((nmz T.nm xi.flds).zip vs).reverse)) := ext_new hd0
        exact q' _ _ σ w1 _ ex.weak ((f.mono e st).mono ex st1) ⟨rfl, .inr ⟨d, _, rfl, upd_same, st1.fz_new hd0, repF_zip (r.mono (ex.mono (.inl rfl))) c1 hno⟩⟩ (st1.new hd0)
      · exact q'.elim
    · refine PS.imp ps_never fun D0 σ H ⟨w, fr, S, f, st, h⟩ => ?_
      dsimp only at h
      rw [if_neg (by simp [hxl])] at h
      exact h.elim
  · refine PS.imp ps_never fun D0 σ H ⟨w, fr, S, f, st, h⟩ => ?_
    have hb : isOk (run P k (.dn .lv) S) = false := by
      match k, hk with
      | 0, _ => rfl
      | 1, _ => rfl
      | k + 2, hk => exact absurd ⟨k, rfl⟩ hk
    dsimp only at h
    rw [if_neg (by simp [hb])] at h
    exact h.elim
end
end Mi
end

section
set_option maxRecDepth 100000
set_option maxHeartbeats 4000000
/-! Mi: what is laid beside the mirror does as the mirror does: statements. -/
namespace Mi
open PySem PySem.Spec L2 PyProof.Rows
def isLocal (sc : Scope) (x : Str) : Bool := match sc.names.lookup x with
  | some .local => true | _ => false
/-- one store, nothing swapped -/
def swNone (sc : Scope) : Expr → Expr → Bool
  | .Tuple ts _ _, .Tuple vs _ _ => (!(ts.length == 2 || ts.length == 3) || ts.any fun t => match t with
    | .Name id _ => !isLocal sc id
    | _ => true) || vs.all (foldedForSure 8)
  | .List _ _, _ => false
  | _, _ => true
/-- name = [..] on one line -/
def setLcC (sc : Scope) : Expr → Expr → Bool
  | .Name y py, .ListComp _ _ scope pos => isLocal sc y && (py.line == pos.line) && !(scope.names.any fun (n, k) => n == y && (k == .local || k == .cell))
  | _, _ => false
/-- the value is made ahead of the store -/
def swC (sc : Scope) : Expr → Expr → Bool
  | .Name y py, e => noComp e || (match e with
    | .ListComp _ _ scope pos => !isLocal sc y || !(py.line == pos.line) || (scope.names.any fun (n, k) => n == y && (k == .local || k == .cell))
    | _ => false)
  | _, _ => true
def parC (N : List Str) (sc : Scope) (is : List Nat) : Expr → Expr → Bool
  | .Tuple [.Name x px, .Name y py] _ _, .Tuple [a, b] _ _ => (match is with
    | [i, j] => slotC N i x && slotC N j y && decide (i ≠ j) && isLocal sc x && isLocal sc y && (py.line == px.line) && decide (x ≠ y) && noStar [a, b] && !([a, b].all (foldedForSure 8)) && !([a, b].all (constantsAlone 8))
    | _ => false)
  | .Tuple [.Name x px, .Name y py, .Name z pz] _ _, .Tuple [a, b, c] _ _ => (match is with
    | [i, j, l] => slotC N i x && slotC N j y && slotC N l z && decide (i ≠ j) && decide (i ≠ l) && decide (j ≠ l) && isLocal sc x && isLocal sc y && isLocal sc z && (py.line == px.line) && (pz.line == px.line) && decide (x ≠ y) && decide (x ≠ z) && decide (y ≠ z) && noStar [a, b, c] && !([a, b, c].all (foldedForSure 8)) && !([a, b, c].all (constantsAlone 8))
    | _ => false)
  | _, _ => false
def fldsC (C : Ctx) (N : List Str) (sc : Scope) : List Nat → List Expr → Bool
  | [], [] => true
  | f :: fs, e :: es => (match e with
    | .Attribute (.Name x _) name _ => nameC C f name && slotC N 0 x && visC sc x && okN x
    | _ => false) && fldsC C N sc fs es
  | _, _ => false
def isComp : ME → Bool
  | .comp _ _ _ _ _ => true
  | _ => false
mutual
def ckS (P : Pg) (C : Ctx) (N : List Str) (sc : Scope) : MS → Stmt → Bool
  | .asg p e, s => (match s with
    | .Assign [tg] v _ => patC N sc p tg && plainG tg && ckE P C N sc e v && (swC sc tg v || (isComp e && setLcC sc tg v)) && swNone sc tg v
    | _ => false)
  | .par is es, s => (match s with
    | .Assign [.Tuple ts k1 p1] (.Tuple vs k2 p2) _ => parC N sc is (.Tuple ts k1 p1) (.Tuple vs k2 p2) && ckEs P C N sc es vs
    | _ => false)
  | .setSelf f e, s => (match s with
    | .Assign [.Attribute (.Name x _) name _] v _ => nameC C f name && slotC N 0 x && visC sc x && okN x && ckE P C N sc e v
    | _ => false)
  | .setSelfs fs e, s => (match s with
    | .Assign [.Tuple ts k1 p1] v _ => fldsC C N sc fs ts && swNone sc (.Tuple ts k1 p1) v && ckE P C N sc e v
    | _ => false)
  | .setAttr _ _ _, _ => false
  | .setIdx o i e, s => (match s with
    | .Assign [.Subscript x y _] v _ => plainIx y && ckE P C N sc e v && ckE P C N sc o x && ckE P C N sc i y
    | _ => false)
  | .expr e, s => (match s with
    | .Expr v _ => noComp v && ckE P C N sc e v
    | _ => false)
  | .ini c m es, s => (match s with
    | .Expr (.Call (.Attribute (.Name x _) name ap) (.Name sx q :: xs) [] p) _ => glC sc x && okN x && (match C.gt.lookup x with
      | some (.cls g) => decide (c = g)
      | _ => false) && (P.cs[c]?.bind fun ci => ci.stat.lookup m).isSome && nameC C m name && slotC N 0 sx && visC sc sx && okN sx && noStar (.Name sx q :: xs) && decide ((Expr.Name sx q :: xs).length < 30) && (ap.endLine == p.line) && ckEs P C N sc es xs
    | _ => false)
  | .ret e, s => (match s with
    | .Return (some v) _ => ckE P C N sc e v
    | _ => false)
  | .retN, s => (match s with
    | .Return none _ => true
    | _ => false)
  | .pass, s => (match s with
    | .Pass _ => true
    | s => isDoc s)
  | .brk, s => (match s with
    | .Break _ => true
    | _ => false)
  | .cont, s => (match s with
    | .Continue _ => true
    | _ => false)
  | .ife c a b, s => (match s with
    | .If t x y _ => ckE P C N sc c t && ckSs P C N sc a x && ckSs P C N sc b y
    | _ => false)
  | .forr p it b, s => (match s with
    | .For tg iter body [] _ => plainSet iter && patC N sc p tg && ckI P C N sc it iter tg && ckSs P C N sc b body
    | _ => false)
  | .whl c b, s => (match s with
    | .While t body [] _ => ckE P C N sc c t && ckSs P C N sc b body
    | _ => false)
  | .retIt f, s => (match s with
    | .Return (some (.Call (.Name x _) [y] [] _)) _ => bltC C sc x "iter" && noStar [y] && ckE P C N sc (.attr (.var 0) f) y
    | _ => false)
  | .rais x es, s => (match s with
    | .Raise (some (.Call (.Name y _) (z :: xs) [] _)) none _ => glC sc y && okN y && (match C.gt.lookup y with
      | some (.xcl c) => decide (c = x)
      | _ => false) && noStar (z :: xs) && ckEs P C N sc es (z :: xs)
    | _ => false)
  | .never, _ => true
def ckSs (P : Pg) (C : Ctx) (N : List Str) (sc : Scope) : MSs → List Stmt → Bool
  | .nil, ss => ss.isEmpty
  | .cons s r, ss => (match ss with
    | x :: xs => ckS P C N sc s x && ckSs P C N sc r xs
    | [] => false)
end
section
variable {T : Tb} {P : Pg} {k : Nat} {Wx : WX} {X : Cx} {C : Ctx} {N : List Str} {sc : Scope}
theorem isLocal_of {x : Str} (h : isLocal sc x = true) : sc.names.lookup x = some .local := by
  unfold isLocal at h
  cases e : sc.names.lookup x with
  | none => rw [e] at h; cases h
  | some kk => rw [e] at h; cases kk <;> first | rfl | cases h
theorem not_local {x : Str} (h : isLocal sc x = false) : (sc.names.lookup x == some .local) = false := by
  unfold isLocal at h
  cases e : sc.names.lookup x with
  | none => rfl
  | some kk => rw [e] at h; cases kk <;> first | rfl | cases h
theorem bk_fn {env : Env} (h : env.scope.kind = .function) : env.blockKind = .function := by unfold Env.blockKind; rw [h]; rfl
theorem filter_lt {α β : Type} {f : α → Option β} : ∀ {l : List α}, (∃ a ∈ l, f a = none) → (l.filterMap f).length < l.length
  | [], h => by obtain ⟨a, ha, _⟩ := h; cases ha
  | x :: l, h => by
    obtain ⟨a, ha, e⟩ := h
    rw [List.filterMap_cons]
    rcases List.mem_cons.mp ha with z | z
    · subst z
      rw [e]
      exact Nat.lt_succ_of_le (List.length_filterMap_le _ _)
    · have := filter_lt (f := f) (l := l) ⟨a, z, e⟩
      cases f x with
      | none => exact Nat.lt_succ_of_lt this
      | some b => exact Nat.succ_lt_succ this
theorem sw_none {tg v : Expr} {env : Env} (hs : env.scope = sc) (h : swNone sc tg v = true) : swappedStores [tg] v env = pure none := by
  unfold swappedStores
  cases tg with
  | Tuple ts k1 p1 =>
    cases v with
    | Tuple vs k2 p2 =>
      simp only
      have h0 : ((!(ts.length == 2 || ts.length == 3) || ts.any fun t => match t with
        | .Name id _ => !isLocal sc id
        | _ => true) || vs.all (foldedForSure 8)) = true := h
      rcases Bool.or_eq_true_iff.mp h0 with h' | hf
      case inr =>
        split
        · rfl
        · split
          · rfl
          · split
            · rfl
            · first
              | rfl
              | (rw [if_pos hf]; try rfl)
      split
      · rfl
      · rename_i c1
        split
        · rfl
        · rename_i c2
          have ha : ∃ a ∈ ts, (match a with
            | .Name id pos => if (env.kindOf id == some .local && pos.line == (ts.head?.map (·.pos.line)).getD 0) = true then some id else none
            | _ => none) = none := by
            rcases Bool.or_eq_true_iff.mp h' with q | q
            · exact absurd (show _ = true from by rw [q]; simp) c1
            · obtain ⟨a, ha, hb⟩ := List.any_eq_true.mp q
              refine ⟨a, ha, ?_⟩
              cases a <;> try rfl
              rename_i id pos
              have hb' : (!isLocal sc id) = true := hb
              have nl := not_local (sc := sc) (x := id) (by simpa using hb')
              have e1 : (env.kindOf id == some .local) = false := by show (env.scope.names.lookup id == some .local) = false; rw [hs]; exact nl
              simp only [e1, Bool.false_and, Bool.false_eq_true, if_false]
          have hlt := filter_lt ha
          rw [if_pos]
          · have : (List.filterMap (fun a => match a with
              | Expr.Name id pos => if (env.kindOf id == some .local && pos.line == (ts.head?.map (·.pos.line)).getD 0) = true then some id else none
              | _ => none) ts).length ≠ ts.length := Nat.ne_of_lt hlt
            simp only [Bool.or_eq_true, bne_iff_ne, ne_eq]
            exact .inl this
    | _ => rfl
  | List ts p => cases h
  | _ => rfl
theorem sw_of {tg v : Expr} {l : Nat} {env : Env} (hs : env.scope = sc) (h : swC sc tg v = true) : swapsWith v (some tg) l env = pure false := by
  cases tg with
  | Name y py =>
    have h' : (noComp v || (match (generalizing := false) v with
      | .ListComp _ _ scope pos => !isLocal sc y || !(py.line == pos.line) || (scope.names.any fun (n, k) => n == y && (k == .local || k == .cell))
      | _ => false)) = true := h
    rcases Bool.or_eq_true_iff.mp h' with q | q
    · exact no_swap q
    · cases v <;> first | exact absurd (show false = true from q) Bool.false_ne_true | skip
      rename_i elt gs scope pos
      unfold swapsWith
      simp only [Expr.pos]
      have q' : (!isLocal sc y || !(py.line == pos.line) || (scope.names.any fun (n, k) => n == y && (k == .local || k == .cell))) = true := q
      rcases Bool.or_eq_true_iff.mp q' with q' | z
      case inr => simp only [z, Bool.not_true, Bool.and_false]; try rfl
      rcases Bool.or_eq_true_iff.mp q' with z | z
      · have nl := not_local (sc := sc) (x := y) (by simpa using z)
        have e1 : (env.kindOf y == some .local) = false := by show (env.scope.names.lookup y == some .local) = false; rw [hs]; exact nl
        simp only [e1, Bool.and_false, Bool.false_and]
        try rfl
      · have e1 : (py.line == pos.line) = false := by simpa using z
        simp only [e1, Bool.and_false, Bool.false_and]
        try rfl
  | _ => cases v <;> rfl
theorem flds_of (cn : Cn T P k Wx X) (xo : XOk T P C N sc X) : ∀ {fs : List Nat} {es : List Expr}, fldsC C N sc fs es = true → PGs X es (gFs T P fs) ∧ plainGs es = true ∧ es.length = fs.length
  | [], [], _ => ⟨gfs_nil, rfl, rfl⟩
  | [], _ :: _, h => by cases h
  | _ :: _, [], h => by cases h
  | f :: fs, e :: es, h => by
    obtain ⟨h1, h2⟩ := bt h
    obtain ⟨a1, a2, a3⟩ := flds_of cn xo h2
    split at h1
    · obtain ⟨h1, h6⟩ := bt h1
      obtain ⟨h1, h5⟩ := bt h1
      obtain ⟨h1, h4⟩ := bt h1
      exact ⟨gfs_cons (g_fld cn (name_of xo.gs.nm h1) (by rw [xo.eN]; exact slot_of h4) (vis_of xo h5) (okN_of h6).1 (okN_of h6).2.1) a1 rfl, a2, congrArg (· + 1) a3⟩
    · cases h1
theorem ns_any : ∀ {es : List Expr}, noStar es = true → (es.any fun | .Starred .. => true | _ => false) = false
  | [], _ => rfl
  | e :: es, h => by
    have h2 : noStar es = true := by cases e <;> first | exact absurd (show false = true from h) Bool.false_ne_true | exact h
    rw [List.any_cons, ns_any h2]
    cases e <;> first | exact absurd (show false = true from h) Bool.false_ne_true | rfl
theorem swap2 {x y : Str} {px py pt p2 : Pos} {k1 k2 : Nat} {a b : Expr} {env : Env} (hb : env.blockKind = .function) (hx : env.kindOf x = some .local) (hy : env.kindOf y = some .local) (hl : (py.line == px.line) = true) (hxy : x ≠ y) (hn : noStar [a, b] = true) (h1 : ([a, b].all (foldedForSure 8)) = false) (h2 : ([a, b].all (constantsAlone 8)) = false) :
    swappedStores [.Tuple [.Name x px, .Name y py] k1 pt] (.Tuple [a, b] k2 p2) env = pure (some [x, y]) := by
  have ns := ns_any hn
  have ed : ([x, y] : List Str).eraseDups.length = 2 := by
    have : (y == x) = false := beq_eq_false_iff_ne.mpr fun z => hxy z.symm
    simp [List.eraseDups_cons, this]
  unfold swappedStores
  simp only [List.length_cons, List.length_nil, hb, ns, Bool.false_eq_true, if_false, List.filterMap_cons, List.filterMap_nil, hx, hy, Expr.pos, List.head?_cons, Option.map_some, Option.getD_some, hl, beq_self_eq_true, Bool.and_true, if_true, h1, h2, ed]
  exact (if_neg (by decide)).trans ((if_neg (fun z => Bool.false_ne_true (ns.symm.trans z))).trans (if_neg (by decide)))
theorem swap3 {x y z : Str} {px py pz pt p2 : Pos} {k1 k2 : Nat} {a b c : Expr} {env : Env} (hb : env.blockKind = .function) (hx : env.kindOf x = some .local) (hy : env.kindOf y = some .local) (hz : env.kindOf z = some .local) (hl : (py.line == px.line) = true) (hl2 : (pz.line == px.line) = true) (hxy : x ≠ y) (hxz : x ≠ z) (hyz : y ≠ z) (hn : noStar [a, b, c] = true) (h1 : ([a, b, c].all (foldedForSure 8)) = false) (h2 : ([a, b, c].all (constantsAlone 8)) = false) :
    swappedStores [.Tuple [.Name x px, .Name y py, .Name z pz] k1 pt] (.Tuple [a, b, c] k2 p2) env = pure (some [x, y, z]) := by
  have ns := ns_any hn
  have ed : ([x, y, z] : List Str).eraseDups.length = 3 := by
    have e1 : (y == x) = false := beq_eq_false_iff_ne.mpr fun q => hxy q.symm
    have e2 : (z == x) = false := beq_eq_false_iff_ne.mpr fun q => hxz q.symm
    have e3 : (z == y) = false := beq_eq_false_iff_ne.mpr fun q => hyz q.symm
    simp [List.eraseDups_cons, e1, e2, e3]
  unfold swappedStores
  simp only [List.length_cons, List.length_nil, hb, ns, Bool.false_eq_true, if_false, List.filterMap_cons, List.filterMap_nil, hx, hy, hz, Expr.pos, List.head?_cons, Option.map_some, Option.getD_some, hl, hl2, beq_self_eq_true, Bool.and_true, if_true, h1, h2, ed]
  exact (if_neg (by decide)).trans ((if_neg (fun z => Bool.false_ne_true (ns.symm.trans z))).trans (if_neg (by decide)))
end
end Mi
end

section
set_option maxRecDepth 100000
set_option maxHeartbeats 4000000
/-! Mi: what is laid beside the mirror does as the mirror does: statements. -/
namespace Mi
open PySem PySem.Spec L2 PyProof.Rows
section
variable {T : Tb} {P : Pg} {k : Nat} {C : Ctx} {N : List Str} {Wx : WX} {X : Cx} {sc : Scope}
theorem nb {b : Bool} (h : (!b) = true) : b = false := by cases b <;> simp_all
theorem kd_of (xo : XOk T P C N sc X) : X.env.scope.kind = .function := by rw [xo.eS]; exact xo.kd
theorem k_local (xo : XOk T P C N sc X) {x : Str} (h : isLocal sc x = true) : X.env.scope.names.lookup x = some .local := by rw [xo.eS]; exact isLocal_of h
theorem s_par (cn : Cn T P k Wx X) (xo : XOk T P C N sc X) {is : List Nat} {ts vs : List Expr} {k1 k2 : Nat} {p1 p2 pos : Pos} {ml : MirL} (h : parC N sc is (.Tuple ts k1 p1) (.Tuple vs k2 p2) = true) (ha : noStar vs = true → PA X vs (tL T Wx ml)) :
    PS X (.Assign [.Tuple ts k1 p1] (.Tuple vs k2 p2) pos) (tS T Wx (parM is ml)) := by
  have nd : X.N.Nodup := by rw [xo.eN]; exact xo.nd
  unfold parC at h
  split at h
  · rename_i x px y py k1' p1' a b k2' p2' e1 e2
    injection e1 with e1 e1b e1c
    injection e2 with e2 e2b e2c
    subst e1; subst e1b; subst e1c; subst e2; subst e2b; subst e2c
    split at h
    · rename_i i j
      obtain ⟨h, h10⟩ := bt h
      obtain ⟨h, h9⟩ := bt h
      obtain ⟨h, h8⟩ := bt h
      obtain ⟨h, h7⟩ := bt h
      obtain ⟨h, h6⟩ := bt h
      obtain ⟨h, h5⟩ := bt h
      obtain ⟨h, h4⟩ := bt h
      obtain ⟨h, h3⟩ := bt h
      obtain ⟨h1, h2⟩ := bt h
      exact s_par2 cn.calm nd (by rw [xo.eN]; exact slot_of h1) (by rw [xo.eN]; exact slot_of h2) (of_decide_eq_true h3) (k_local xo h4) (k_local xo h5) (ha h8) (swap2 (bk_fn (kd_of xo)) (k_local xo h4) (k_local xo h5) h6 (of_decide_eq_true h7) h8 (nb h9) (nb h10))
    · cases h
  · rename_i x px y py z pz k1' p1' a b c k2' p2' e1 e2
    injection e1 with e1 e1b e1c
    injection e2 with e2 e2b e2c
    subst e1; subst e1b; subst e1c; subst e2; subst e2b; subst e2c
    split at h
    · rename_i i j l
      obtain ⟨h, h17⟩ := bt h
      obtain ⟨h, h16⟩ := bt h
      obtain ⟨h, h15⟩ := bt h
      obtain ⟨h, h14⟩ := bt h
      obtain ⟨h, h13⟩ := bt h
      obtain ⟨h, h12⟩ := bt h
      obtain ⟨h, h11⟩ := bt h
      obtain ⟨h, h10⟩ := bt h
      obtain ⟨h, h9⟩ := bt h
      obtain ⟨h, h8⟩ := bt h
      obtain ⟨h, h7⟩ := bt h
      obtain ⟨h, h6⟩ := bt h
      obtain ⟨h, h5⟩ := bt h
      obtain ⟨h, h4⟩ := bt h
      obtain ⟨h, h3⟩ := bt h
      obtain ⟨h1, h2⟩ := bt h
      exact s_par3 cn.calm nd (by rw [xo.eN]; exact slot_of h1) (by rw [xo.eN]; exact slot_of h2) (by rw [xo.eN]; exact slot_of h3) (of_decide_eq_true h4) (of_decide_eq_true h5) (of_decide_eq_true h6) (k_local xo h7) (k_local xo h8) (k_local xo h9) (ha h15)
        (swap3 (bk_fn (kd_of xo)) (k_local xo h7) (k_local xo h8) (k_local xo h9) h10 h11 (of_decide_eq_true h12) (of_decide_eq_true h13) (of_decide_eq_true h14) h15 (nb h16) (nb h17))
    · cases h
  · cases h
theorem par_ns {is : List Nat} {ts vs : List Expr} {k1 k2 : Nat} {p1 p2 : Pos} (h : parC N sc is (.Tuple ts k1 p1) (.Tuple vs k2 p2) = true) : noStar vs = true := by
  unfold parC at h
  split at h
  · rename_i x px y py k1' p1' a b k2' p2' e1 e2
    injection e2 with e2 e2b e2c
    subst e2
    split at h
    · obtain ⟨h, h10⟩ := bt h
      obtain ⟨h, h9⟩ := bt h
      obtain ⟨h, h8⟩ := bt h
      exact h8
    · cases h
  · rename_i x px y py z pz k1' p1' a b c k2' p2' e1 e2
    injection e2 with e2 e2b e2c
    subst e2
    split at h
    · obtain ⟨h, h17⟩ := bt h
      obtain ⟨h, h16⟩ := bt h
      obtain ⟨h, h15⟩ := bt h
      exact h15
    · cases h
  · cases h
theorem s_lc1 (cn : Cn T P k Wx X) (xo : XOk T P C N sc X) {p : Pat} {elt : ME} {q : Pat} {own : List Nat} {it : MI} {test : MO} {tg v : Expr} {pos : Pos} (h1 : patC N sc p tg = true) (h : ckE P C N sc (.comp elt q own it test) v = true) (h3 : setLcC sc tg v = true) :
    PS X (.Assign [tg] v pos) (tS T Wx (asgM p (evE P (run P k) (.comp elt q own it test)))) := by
  unfold setLcC at h3
  split at h3
  · rename_i y py x gs scope vp
    obtain ⟨h3, h5⟩ := bt h3
    obtain ⟨h3, h4⟩ := bt h3
    cases p with
    | slot i =>
      simp only [patC] at h1
      obtain ⟨h1, hl⟩ := bt h1
      simp only [ckE] at h
      split at h
      · rename_i x' tg' iter ifs scope' p2 e0
        injection e0 with e1 e2 e3 e4
        subst e1; subst e2; subst e3; subst e4
        obtain ⟨h, g7⟩ := bt h
        obtain ⟨h, g6⟩ := bt h
        obtain ⟨h, g5⟩ := bt h
        obtain ⟨h, g4⟩ := bt h
        obtain ⟨h, g3⟩ := bt h
        obtain ⟨g1, g2⟩ := bt h
        have bo := blkOk_by g1
        have om := own_map (N := N) own
        have hsub : ∀ j, j ∈ patSlots q → j ∈ (ownL N own).map (·.2) := by
          rw [om]
          intro j hj
          have := List.all_eq_true.mp g4 j hj
          simpa using this
        have bo' : BlkOk X.N X.env.scope scope (ownL N own) := by rw [xo.eN, xo.eS]; exact bo
        have hv := s_setLc (i := i) (y := y) (py := py) (spos := pos) (pos := vp) cn.calm (by rw [xo.eN]; exact xo.nd) (by rw [xo.eN]; exact slot_of h1) (k_local xo h3) (sw_true (kd_of xo) (k_local xo h3) h4 (by simpa using h5)) (soundI it cn xo g5) bo'
          (fun s H CC cl fp => pat_of (X := X.blk s H scope (compEnvC scope cl CC X.env) fp) cn.calm cn.K xo.eN xo.nd (fc_blk xo) q tg' g3) (fun s H CC cl fp => soundT test (cn_blk cn) (xo_blk xo bo.kind) g6)
          (fun s H CC cl fp => (soundE elt (cn_blk cn) (xo_blk xo bo.kind) g7).pe) (fold_of g2) hsub
        rw [om] at hv
        exact hv
      · cases h
    | nil => simp only [patC] at h1; cases h1
    | cons _ _ => simp only [patC] at h1; cases h1
  · cases h3
theorem s_asgC (cn : Cn T P k Wx X) (xo : XOk T P C N sc X) (fc : FnC X sc) {p : Pat} {e : ME} {tg v : Expr} {pos : Pos} (h1 : patC N sc p tg = true) (h2 : plainG tg = true) (h3 : ckE P C N sc e v = true) (h4 : swC sc tg v = true ∨ (isComp e && setLcC sc tg v) = true) (h5 : swNone sc tg v = true) :
    PS X (.Assign [tg] v pos) (tS T Wx (asgM p (evE P (run P k) e))) := by
  rcases h4 with h4 | h4
  · exact s_asg (soundE e cn xo h3).pe (pat_of cn.calm cn.K xo.eN xo.nd fc p tg h1) h2 (sw_of xo.eS h4) (sw_none xo.eS h5)
  · obtain ⟨hcomp, h4⟩ := bt h4
    cases e with
    | comp elt q own it test => exact s_lc1 cn xo h1 h3 h4
    | _ => exact absurd hcomp (by simp [isComp])
end
section
variable {T : Tb} {P : Pg} {k : Nat} {C : Ctx} {N : List Str} {Wx : WX} {X : Cx} {sc : Scope}
mutual
theorem soundS (cn : Cn T P k Wx X) (xo : XOk T P C N sc X) (fc : FnC X sc) (hp : PassesOwn (model X.prog X.w) X.A X.env X.xe) : ∀ (ms : MS) {st : Stmt}, ckS P C N sc ms st = true → PS X st (tS T Wx (evS P (run P k) ms))
  | .asg p e, st, h => by
    simp only [ckS] at h
    split at h
    · obtain ⟨h, h5⟩ := bt h
      obtain ⟨h, h4⟩ := bt h
      obtain ⟨h, h3⟩ := bt h
      obtain ⟨h1, h2⟩ := bt h
      exact s_asgC cn xo fc h1 h2 h3 (Bool.or_eq_true_iff.mp h4) h5
    · cases h
  | .par is es, st, h => by
    simp only [ckS] at h
    split at h
    · obtain ⟨h1, h2⟩ := bt h
      exact s_par cn xo h1 fun hn => soundEs es cn xo h2 hn
    · cases h
  | .setSelf f e, st, h => by
    simp only [ckS] at h
    split at h
    · obtain ⟨h, h5⟩ := bt h
      obtain ⟨h, h4⟩ := bt h
      obtain ⟨h, h3⟩ := bt h
      obtain ⟨h1, h2⟩ := bt h
      exact s_setSelf cn (name_of xo.gs.nm h1) (by rw [xo.eN]; exact slot_of h2) (vis_of xo h3) (okN_of h4).1 (okN_of h4).2.1 (soundE e cn xo h5).pe (sw_of xo.eS rfl)
    · cases h
  | .setSelfs fs e, st, h => by
    simp only [ckS] at h
    split at h
    · obtain ⟨h, h3⟩ := bt h
      obtain ⟨h1, h2⟩ := bt h
      obtain ⟨a1, a2, a3⟩ := flds_of cn xo h1
      exact s_setSelfs cn (soundE e cn xo h3).pe a1 a2 a3 (sw_of xo.eS rfl) (sw_none xo.eS h2)
    · cases h
  | .setAttr _ _ _, st, h => by simp only [ckS] at h; cases h
  | .setIdx o i e, st, h => by
    simp only [ckS] at h
    split at h
    · obtain ⟨h, h4⟩ := bt h
      obtain ⟨h, h3⟩ := bt h
      obtain ⟨h1, h2⟩ := bt h
      exact s_setIdx cn.K (soundE e cn xo h2).pe (soundE o cn xo h3).pe (soundE i cn xo h4).pe h1 (sw_of xo.eS rfl) (sw_none xo.eS rfl)
    · cases h
  | .expr e, st, h => by
    simp only [ckS] at h
    split at h
    · obtain ⟨h1, h2⟩ := bt h
      exact s_expr (soundE e cn xo h2).pe h1
    · cases h
  | .ini c m es, st, h => by
    simp only [ckS] at h
    split at h
    · rename_i x p0 name ap sx q xs p p3
      obtain ⟨h, h12⟩ := bt h
      obtain ⟨h, h11⟩ := bt h
      obtain ⟨h, h10⟩ := bt h
      obtain ⟨h, h9⟩ := bt h
      obtain ⟨h, h8⟩ := bt h
      obtain ⟨h, h7⟩ := bt h
      obtain ⟨h, h6⟩ := bt h
      obtain ⟨h, h5⟩ := bt h
      obtain ⟨h, h4⟩ := bt h
      obtain ⟨h, h3⟩ := bt h
      obtain ⟨h1, h2⟩ := bt h
      split at h3
      · rename_i g e1
        have hd := of_decide_eq_true h3
        subst hd
        obtain ⟨q1, q2⟩ := xo.gs.gl _ _ e1
        obtain ⟨g, hg⟩ := Option.isSome_iff_exists.mp h4
        cases hci : P.cs[c]? with
        | none => rw [hci] at hg; cases hg
        | some ci =>
          rw [hci] at hg
          exact s_ini cn (gl_of xo h1) q1 hci hg (name_of xo.gs.nm h5) (by rw [xo.eN]; exact slot_of h6) (vis_of xo h7) (soundEs es cn xo h12 (star_cons (env := X.env) h9).2) h9 (of_decide_eq_true h10) h11 (okN_of h2).1 (okN_of h8).1 (okN_of h8).2.1
      · cases h3
    · cases h
  | .ret e, st, h => by
    simp only [ckS] at h
    split at h
    · exact s_ret (soundE e cn xo h).pe
    · cases h
  | .retN, st, h => by
    simp only [ckS] at h
    split at h
    · exact s_retN
    · cases h
  | .pass, st, h => by
    simp only [ckS] at h
    split at h
    · exact s_pass
    · unfold isDoc at h
      split at h
      · exact s_doc
      · cases h
  | .brk, st, h => by
    simp only [ckS] at h
    split at h
    · exact s_brk
    · cases h
  | .cont, st, h => by
    simp only [ckS] at h
    split at h
    · exact s_cont
    · cases h
  | .ife c a b, st, h => by
    simp only [ckS] at h
    split at h
    · obtain ⟨h, h3⟩ := bt h
      obtain ⟨h1, h2⟩ := bt h
      exact s_if (soundE c cn xo h1).pt (soundSs cn xo fc hp a h2) (soundSs cn xo fc hp b h3)
    · cases h
  | .forr p it b, st, h => by
    simp only [ckS] at h
    split at h
    · obtain ⟨h, h4⟩ := bt h
      obtain ⟨h, h3⟩ := bt h
      obtain ⟨h1, h2⟩ := bt h
      exact s_for hp cn.calm (soundI it cn xo h3) (pat_of cn.calm cn.K xo.eN xo.nd fc p _ h2) (soundSs cn xo fc hp b h4) (fold_of h1)
    · cases h
  | .whl c b, st, h => by
    simp only [ckS] at h
    split at h
    · obtain ⟨h1, h2⟩ := bt h
      exact s_whl hp (soundE c cn xo h1).pt (soundSs cn xo fc hp b h2)
    · cases h
  | .retIt _, st, h => s_never
  | .rais x es, st, h => by
    simp only [ckS] at h
    split at h
    · obtain ⟨h, h5⟩ := bt h
      obtain ⟨h, h4⟩ := bt h
      obtain ⟨h, h3⟩ := bt h
      obtain ⟨h1, h2⟩ := bt h
      split at h3
      · rename_i c hc
        have e3 := of_decide_eq_true h3
        rw [e3] at hc
        exact s_rais cn xo.gs (gl_of xo h1) (xo.gs.gl _ _ hc).1 (okN_of h2).1 (soundEs es cn xo h5 h4) h4
      · cases h3
    · cases h
  | .never, st, h => s_never
theorem soundSs (cn : Cn T P k Wx X) (xo : XOk T P C N sc X) (fc : FnC X sc) (hp : PassesOwn (model X.prog X.w) X.A X.env X.xe) : ∀ (ms : MSs) {ss : List Stmt}, ckSs P C N sc ms ss = true → PSs X ss (tS T Wx (evSs P (run P k) ms))
  | .nil, ss, h => by
    simp only [ckSs] at h
    cases ss with
    | nil => exact s_nil
    | cons _ _ => cases h
  | .cons s r, ss, h => by
    simp only [ckSs] at h
    cases ss with
    | nil => cases h
    | cons x xs =>
      obtain ⟨h1, h2⟩ := bt h
      exact s_cons (soundS cn xo fc hp s h1) (soundSs cn xo fc hp r h2)
end
end
end Mi
end

section
set_option maxRecDepth 100000
set_option maxHeartbeats 4000000
/-! Mi: values by keyword, in the parameters' order. -/
namespace Mi
open PySem PySem.Spec L2 PyProof.Rows
theorem kw_loop {ε : Type} (normal : List Str) (f : Str × Value → List (Str × Value) × ε → Sem (ForInStep (List (Str × Value) × ε)))
    (h : ∀ (ex : ε) (sl : List (Str × Value)) (k : Str) (v : Value), k ∈ normal → sl.lookup k = none → f (k, v) (sl, ex) = pure (.yield (sl ++ [(k, v)], ex))) : ∀ (l : List (Str × Value)) (ex : ε) (sl : List (Str × Value)),
      (l.map (·.1)).Nodup → (∀ p ∈ l, p.1 ∈ normal ∧ sl.lookup p.1 = none) → (forIn l (sl, ex) f : Sem _) = pure (sl ++ l, ex)
  | [], ex, sl, _, _ => by rw [List.forIn_nil, List.append_nil]
  | (k, v) :: l, ex, sl, nd, hs => by
    obtain ⟨n1, n2⟩ := List.nodup_cons.mp (show (k :: l.map (·.1)).Nodup from nd)
    obtain ⟨q1, q2⟩ := hs (k, v) List.mem_cons_self
    rw [List.forIn_cons, h ex sl k v q1 q2, pure_bind]
    show forIn l (sl ++ [(k, v)], ex) f = _
    rw [kw_loop normal f h l ex (sl ++ [(k, v)]) n2 fun p hp => ⟨(hs p (List.mem_cons_of_mem _ hp)).1, ?_⟩, List.append_assoc]
    · rfl
    · have hne : p.1 ≠ k := fun z => n1 (by rw [← z]; exact List.mem_map.mpr ⟨p, hp, rfl⟩)
      rw [List.lookup_append, (hs p (List.mem_cons_of_mem _ hp)).2]
      simp [List.lookup, beq_eq_false_iff_ne.mpr hne]
theorem zip_drop : ∀ (ps : List Str) (us ws : List Value), us.length ≤ ps.length → ps.zip us ++ ((ps.drop us.length).take ws.length).zip ws = ps.zip (us ++ ws)
  | [], [], ws, _ => by simp
  | [], _ :: _, _, h => by simp at h
  | p :: ps, [], ws, _ => by
    simp only [List.zip_nil_right, List.nil_append, List.length_nil, List.drop_zero]
    induction ws generalizing p ps with
    | nil => simp
    | cons w ws ih =>
      cases ps with
      | nil => simp
      | cons q ps =>
        have := ih q ps (by simp)
        simp only [List.length_cons, List.take_succ_cons, List.zip_cons_cons] at this ⊢
        rw [this]
  | p :: ps, u :: us, ws, h => by
    have := zip_drop ps us ws (by simpa using h)
    simp only [List.zip_cons_cons, List.length_cons, List.drop_succ_cons, List.cons_append]
    rw [this]
theorem bind_genK {fd : FuncData} {as : List Arg} {kwd : List (Option Expr)} {df : List Expr} {ps : List Str} (hf : fd.params = { posonlyargs := [], args := as, vararg := none, kwonlyargs := [], kw_defaults := kwd, kwarg := none, defaults := df }) (hps : as.map (·.arg) = ps) (nd : ps.Nodup) (us ws its : List Value)
    (h1 : us.length + ws.length ≤ ps.length) (h2 : its.length ≤ ps.length) (h3 : ps.length ≤ us.length + ws.length + its.length) :
    ∃ k, bindArgs fd ⟨us, ((ps.drop us.length).take ws.length).zip ws⟩ = seqItems? fd.defaults >>= k ∧ k (some its.toArray) = pure (ps.zip (us ++ ws ++ its.drop (its.length - (ps.length - (us.length + ws.length))))) ∧ (its = [] → k none = pure (ps.zip (us ++ ws))) := by
  have hkl : ((ps.drop us.length).take ws.length).length = ws.length := by rw [List.length_take, List.length_drop]; omega
  have hmem : ∀ p ∈ ((ps.drop us.length).take ws.length).zip ws, p.1 ∈ ps ∧ (ps.zip us).lookup p.1 = none := by
    intro p hp
    have hk := (List.of_mem_zip (show (p.1, p.2) ∈ _ from hp)).1
    obtain ⟨i, hi⟩ := List.mem_iff_getElem?.mp (List.mem_of_mem_take hk)
    rw [List.getElem?_drop] at hi
    refine ⟨List.mem_of_getElem? hi, ?_⟩
    rw [zip_lookup nd hi, List.getElem?_eq_none (by omega)]
  have hnd : ((((ps.drop us.length).take ws.length).zip ws).map (·.1)).Nodup := by
    rw [List.map_fst_zip (by omega)]
    exact (nd.sublist (List.drop_sublist _ _)).sublist (List.take_sublist _ _)
  unfold bindArgs
  rw [hf]
  simp only [List.map_nil, List.nil_append, hps, List.append_nil]
  have zd : ps.zip us ++ ((ps.drop us.length).take ws.length).zip ws = ps.zip (us ++ ws) := zip_drop ps us ws (by omega)
  rw [kw_loop ps _ (fun ex sl k v q1 q2 => ?_) _ _ _ hnd hmem, pure_bind, zd]
  · have c1 : (decide (us.length > ps.length) && true) = false := by simp; omega
    have e0 : its.length - ps.length = 0 := by omega
    have c2 : (ps.take (ps.length - its.length)).filter (fun n => ((ps.zip (us ++ ws)).lookup n).isNone) = [] := by
      rw [List.filter_eq_nil_iff]
      intro n hn
      obtain ⟨i, hi⟩ := List.mem_iff_getElem?.mp hn
      rw [List.getElem?_take] at hi
      split at hi
      · rename_i hlt
        rw [zip_lookup nd hi, List.getElem?_eq_getElem (by rw [List.length_append]; omega)]
        simp
      · cases hi
    have hl : (us ++ ws).length = us.length + ws.length := List.length_append
    have fld := dfl_fold ps (us ++ ws) its (us.length + ws.length) nd hl h3 h1 h2
    have zs : ps.filterMap (fun n => ((ps.zip (us ++ ws ++ its.drop (its.length - (ps.length - (us.length + ws.length))))).lookup n).map (n, ·)) = ps.zip (us ++ ws ++ its.drop (its.length - (ps.length - (us.length + ws.length)))) :=
      zip_self nd (by rw [List.length_append, List.length_drop, hl]; omega)
    refine ⟨_, rfl, ?_, ?_⟩
    · simp only [Option.getD_some, Option.isNone_none, c1, Bool.false_eq_true, if_false, pure_bind, e0, List.drop_zero]
      rw [c2]
      simp only [List.isEmpty_nil, Bool.not_true, Bool.false_eq_true, if_false]
      rw [forIn_fold _ addDfl (fun a b => by unfold addDfl; split <;> rfl), pure_bind, fld]
      simp only [List.forIn_nil, pure_bind, List.isEmpty_nil, Bool.not_true, Bool.false_eq_true, if_false]
      rw [zs]
    · intro hi
      subst hi
      simp only [Option.getD_none, Option.isNone_none, c1, Bool.false_eq_true, if_false, pure_bind, List.length_nil, Nat.zero_sub, List.drop_nil, List.append_nil, Nat.sub_zero] at c2 zs ⊢
      rw [c2]
      simp only [List.isEmpty_nil, Bool.not_true, Bool.false_eq_true, if_false, List.zip_nil_right, List.forIn_nil, pure_bind]
      rw [zs]
  · have e1 : ps.contains k = true := by simpa using q1
    simp only [e1, Bool.true_or, if_true, q2, Option.isSome_none, Bool.false_eq_true, if_false]
end Mi
end

section
set_option maxRecDepth 100000
set_option maxHeartbeats 4000000
/-! Mi: the program's levels. -/
namespace Mi
open PySem PySem.Spec L2 PyProof.Rows
/-- a def that makes lambdas: its code object and its table -/
def LamF (T : Tb) (cdv : Value) (qual : Str) : Prop := ∃ c Pa : Addr, cdv = .ref c ∧ (c, Pa) ∈ T.cs ∧ (Pa, (qual ++ ".<locals>.") ++ "<lambda>") ∈ T.tbs ∧ ∀ p ∈ T.tbs, p.1 = Pa → p.2 = (qual ++ ".<locals>.") ++ "<lambda>"
def TbOk (T : Tb) (mg : Str → Option Value) (base : Heap) : Prop := ∀ p ∈ T.cs, LamX.TabB base mg p.1 p.2
/-- a def as the written part has it -/
def FKN (T : Tb) (P : Pg) (C : Ctx) (f : Nat) (fi : FI) (N : List Str) : Prop :=
  ∃ (oc : Value) (od : Option Addr) (dV kV doc pm cdv ct : Value) (an : Option Addr) (osl : Array (Option Value)) (name qual : Str) (as : List Arg) (kwd : List (Option Expr)) (df : List Expr) (body : List Stmt) (scope : Scope) (ps : List Str),
    T.K.lookup (T.fa f) = some ⟨oc, od, .func (PySem.W.fnOf name qual { posonlyargs := [], args := as, vararg := none, kwonlyargs := [], kw_defaults := kwd, kwarg := none, defaults := df } body scope dV kV doc pm an cdv ct), osl⟩ ∧
    PySem.W.codeIn T.K cdv qual = true ∧ FnScope N ps scope ∧ ps.length = fi.np ∧ N.length = fi.ns ∧ (∃ b, ckSs P (C.on b) N scope fi.body body = true ∧ (b = true → LamF T cdv qual)) ∧ as.map (·.arg) = ps ∧ ps = T.pn f ∧ fi.dfl.length ≤ fi.np ∧
    ((dV = .none ∧ fi.dfl = []) ∨ ∃ (Tt : Addr) (o : Obj) (its : Array Value) (m : Nat) (dvs : List V), dV = .ref Tt ∧ T.K.lookup Tt = some o ∧ o.data = .seq its m ∧ Vals dvs its.toList ∧ ∀ w H, Reps T w H dvs fi.dfl)
structure FKOk (T : Tb) (P : Pg) (C : Ctx) (f : Nat) (fi : FI) : Prop where
  ex : ∃ N, FKN T P C f fi N
section
variable {T : Tb} {P : Pg} {C : Ctx} {prog : Program} {wd : World} {mg : Str → Option Value} {base : Heap} {k : Nat}
def spF1 (T : Tb) (P : Pg) (k f np : Nat) : Sp := fun vs H Q E => ∃ w S ds, w.own = none ∧ StOk T w H S ∧ Reps T w H vs ds ∧ ds.length = np ∧ PostF T w H (run P k (.fn f ds) S) Q E
def spI1 (T : Tb) (P : Pg) (k f np : Nat) : Sp := fun vs H Q E => ∃ w S x us ds c fs dx fv, vs = .ref x :: us ∧ w.own = some x ∧ StOk T w H S ∧ Reps T w H us ds ∧ ds.length + 1 = np ∧
  H x = some (.ins (T.ca c) dx fv) ∧ RepF T w H fv fs ∧ PostI T w H x (run P k (.ini f c fs ds) S) Q E
theorem start_ok {w : Wl} {H : Hp} {N : List Str} {vs : List V} {ds : List D} {ns : Nat} (hN : N.length = ns) (r : Reps T w H vs ds) (hl : vs.length ≤ N.length) : (start ns (ds.map some)).length = (L2.start N vs).length ∧ ∀ (i : Nat) (d : D), (start ns (ds.map some))[i]? = some (some d) → ∃ v, (L2.start N vs)[i]? = some (some v) ∧ Rep T w H v d := by
  have hr := r.length
  constructor
  · unfold start L2.start
    simp only [List.length_append, List.length_map, List.length_replicate]
    omega
  · intro i d h
    unfold start at h
    by_cases hi : i < ds.length
    · rw [List.getElem?_append_left (by simpa using hi), List.getElem?_map] at h
      cases e : ds[i]? with
      | none => rw [e] at h; cases h
      | some d' =>
        rw [e] at h; cases h
        obtain ⟨v, h1, h2⟩ := r.get e
        refine ⟨v, ?_, h2⟩
        unfold L2.start
        rw [List.getElem?_append_left (by simp; omega), List.getElem?_map, h1]; rfl
    · rw [List.getElem?_append_right (by simp; omega), List.getElem?_replicate] at h
      split at h <;> cases h
theorem start_ok1 {w : Wl} {H : Hp} {N : List Str} {x : V} {vs : List V} {ds : List D} {ns : Nat} (hN : N.length = ns) (r : Reps T w H vs ds) (hl : vs.length + 1 ≤ N.length) : (start ns (none :: ds.map some)).length = (L2.start N (x :: vs)).length ∧ ∀ (i : Nat) (d : D), (start ns (none :: ds.map some))[i]? = some (some d) → ∃ v, (L2.start N (x :: vs))[i]? = some (some v) ∧ Rep T w H v d := by
  have hr := r.length
  constructor
  · unfold start L2.start
    simp only [List.length_append, List.length_map, List.length_replicate, List.length_cons]
    omega
  · intro i d h
    unfold start at h
    cases i with
    | zero => simp at h
    | succ i =>
      rw [List.cons_append, List.getElem?_cons_succ] at h
      by_cases hi : i < ds.length
      · rw [List.getElem?_append_left (by simpa using hi), List.getElem?_map] at h
        cases e : ds[i]? with
        | none => rw [e] at h; cases h
        | some d' =>
          rw [e] at h; cases h
          obtain ⟨v, h1, h2⟩ := r.get e
          refine ⟨v, ?_, h2⟩
          unfold L2.start
          rw [List.map_cons, List.cons_append, List.getElem?_cons_succ, List.getElem?_append_left (by simp; omega), List.getElem?_map, h1]; rfl
      · rw [List.getElem?_append_right (by simp; omega), List.getElem?_replicate] at h
        split at h <;> cases h
/-- the body's context -/
theorem body_cn (ko : KOk T P) (lv : Lv T P prog wd mg base k) (lw : ∀ j, k = j + 1 → Lv T P prog wd mg base j) (lw2 : ∀ j, k = j + 2 → Lv T P prog wd mg base j) (low : ∀ j, j < k → Lv T P prog wd mg base j) {N : List Str} {qual : Str} {scope : Scope} {fa : Addr} {cdv : Value} {A : Around} {outer : List Env} {s : Shared} {H : Hp} {E : XK} (hr : Room k (A.deeper (envOfC qual scope s.heap.objs.size fa cdv))) :
    Cn T P k (fun cls d _ H => E cls d H) (cxOf (CX prog wd) prog wd T.K mg base N qual scope fa cdv A outer s H E) :=
  ⟨rfl, rfl, takes_of rfl rfl rfl rfl, hr, lv, lw, lw2, low, ko⟩
theorem lam_ok (tk : TbOk T mg base) {N : List Str} {qual : Str} {scope : Scope} {fa : Addr} {cdv : Value} {A : Around} {outer : List Env} {s : Shared} {H : Hp} {E : XK} (h : LamF T cdv qual) :
    LamOk T (cxOf (CX prog wd) prog wd T.K mg base N qual scope fa cdv A outer s H E) := by
  obtain ⟨c, Pa, h1, h2, h3, h4⟩ := h
  have e1 : (cxOf (CX prog wd) prog wd T.K mg base N qual scope fa cdv A outer s H E).env.qual = qual ++ ".<locals>." := rfl
  have e2 : (cxOf (CX prog wd) prog wd T.K mg base N qual scope fa cdv A outer s H E).env.code = cdv := rfl
  have e3 : (cxOf (CX prog wd) prog wd T.K mg base N qual scope fa cdv A outer s H E).base = base := rfl
  have e4 : (cxOf (CX prog wd) prog wd T.K mg base N qual scope fa cdv A outer s H E).mg = mg := rfl
  refine LamOk.mk (Exists.intro c (Exists.intro Pa ?_))
  rw [e1, e2, e3, e4]
  exact And.intro h1 (And.intro (tk (c, Pa) h2) (And.intro h3 h4))
theorem body_xo (gs : GsOk T P C mg) (tk : TbOk T mg base) {b : Bool} {N ps : List Str} {scope : Scope} (S : FnScope N ps scope) {qual : Str} {fa : Addr} {cdv : Value} {A : Around} {outer : List Env} {s : Shared} {H : Hp} {E : XK}
    (hl : b = true → LamF T cdv qual) : XOk T P (C.on b) N scope (cxOf (CX prog wd) prog wd T.K mg base N qual scope fa cdv A outer s H E) := ⟨rfl, S.nd, rfl, S.kind, gs.on b, fun z => lam_ok tk (hl z)⟩
theorem fn_body (ko : KOk T P) (gs : GsOk T P C mg) (tk : TbOk T mg base) (lv : Lv T P prog wd mg base k) (lw : ∀ j, k = j + 1 → Lv T P prog wd mg base j) (lw2 : ∀ j, k = j + 2 → Lv T P prog wd mg base j) (low : ∀ j, j < k → Lv T P prog wd mg base j) {f : Nat} {fi : FI} {N ps : List Str} {scope : Scope} {body : List Stmt} (hfi : P.fs[f]? = some fi) (S : FnScope N ps scope) (hp : ps.length = fi.np) (hN : N.length = fi.ns) {b : Bool} (ck : ckSs P (C.on b) N scope fi.body body = true)
    {qual : Str} {fa : Addr} {cdv : Value} {A : Around} {outer : List Env} {s : Shared} {H : Hp} {E : XK} {vs : List V} {Q : VK} (hlm : b = true → LamF T cdv qual) (hr : Room k (A.deeper (envOfC qual scope s.heap.objs.size fa cdv))) (h : spF1 T P (k + 1) f fi.np vs H Q E) :
    ∃ t, PSs (cxOf (CX prog wd) prog wd T.K mg base N qual scope fa cdv A outer s H E) body t ∧ t { nx := fun _ H' => Q .non H', rt := Q } (L2.start N vs) H := by
  have cn := body_cn (outer := outer) (E := E) (H := H) (N := N) ko lv lw lw2 low hr
  refine ⟨_, soundSs cn (body_xo gs tk S hlm) (fun x hx => loc_of (body_xo gs tk S hlm) (fun _ _ => rfl) hx) (passes_of rfl) fi.body ck, ?_⟩
  obtain ⟨w, S0, ds, ho, st, rs, hl, post⟩ := h
  have hpl : ps.length ≤ N.length := by have := congrArg List.length S.pre; rw [List.length_take] at this; omega
  obtain ⟨a1, a2⟩ := start_ok hN rs (by rw [rs.length]; omega)
  refine ⟨w, ⟨start fi.ns (ds.map some), none⟩, S0, ⟨a1, a2, ho⟩, st, ?_⟩
  have hrun : run P (k + 1) (.fn f ds) S0 = (match evSs P (run P k) fi.body ⟨start fi.ns (ds.map some), none⟩ S0 with
      | .nx _ S' => .ok .non S'
      | .ret d _ S' => .ok d S'
      | .exc c fs _ S' => .exc c fs S'
      | _ => .bad) := by
    simp only [run, hfi, hl, if_true]
    try rfl
  rw [hrun] at post
  cases e : evSs P (run P k) fi.body ⟨start fi.ns (ds.map some), none⟩ S0 with
  | nx fr S' => rw [e] at post; exact fun σ' w' H' ex f' st' => post .non w' H' (ho ▸ ex) .non st'
  | ret d fr S' => rw [e] at post; exact fun v σ' w' H' ex f' r' st' => post v w' H' (ho ▸ ex) r' st'
  | exc c fs fr S' => rw [e] at post; exact fun cls dd σ' w' H' ex f' r' st' => post cls dd w' H' (ho ▸ ex) r' st'
  | brk _ _ => rw [e] at post; exact post.elim
  | cont _ _ => rw [e] at post; exact post.elim
  | bad => rw [e] at post; exact post.elim
theorem ini_body (ko : KOk T P) (gs : GsOk T P C mg) (tk : TbOk T mg base) (lv : Lv T P prog wd mg base k) (lw : ∀ j, k = j + 1 → Lv T P prog wd mg base j) (lw2 : ∀ j, k = j + 2 → Lv T P prog wd mg base j) (low : ∀ j, j < k → Lv T P prog wd mg base j) {f : Nat} {fi : FI} {N ps : List Str} {scope : Scope} {body : List Stmt} (hfi : P.fs[f]? = some fi) (S : FnScope N ps scope) (hp : ps.length = fi.np) (hN : N.length = fi.ns) {b : Bool} (ck : ckSs P (C.on b) N scope fi.body body = true)
    {qual : Str} {fa : Addr} {cdv : Value} {A : Around} {outer : List Env} {s : Shared} {H : Hp} {E : XK} {vs : List V} {Q : VK} (hlm : b = true → LamF T cdv qual) (hr : Room k (A.deeper (envOfC qual scope s.heap.objs.size fa cdv))) (h : spI1 T P (k + 1) f fi.np vs H Q E) :
    ∃ t, PSs (cxOf (CX prog wd) prog wd T.K mg base N qual scope fa cdv A outer s H E) body t ∧ t { nx := fun _ H' => Q .non H', rt := Q } (L2.start N vs) H := by
  have cn := body_cn (outer := outer) (E := E) (H := H) (N := N) ko lv lw lw2 low hr
  refine ⟨_, soundSs cn (body_xo gs tk S hlm) (fun x hx => loc_of (body_xo gs tk S hlm) (fun _ _ => rfl) hx) (passes_of rfl) fi.body ck, ?_⟩
  obtain ⟨w, S0, x, us, ds, c, fs, dx, fv, rfl, ho, st, rs, hl, hx, rf, post⟩ := h
  have hpl : ps.length ≤ N.length := by have := congrArg List.length S.pre; rw [List.length_take] at this; omega
  have hr := rs.length
  obtain ⟨a1, a2⟩ := start_ok1 (x := V.ref x) hN rs (by omega)
  have hself : SelfOk T w H (L2.start N (V.ref x :: us)) (some (c, fs)) := ⟨x, dx, fv, ho, rfl, hx, rf⟩
  refine ⟨w, ⟨start fi.ns (none :: ds.map some), some (c, fs)⟩, S0, ⟨a1, a2, hself⟩, st, ?_⟩
  have hrun : run P (k + 1) (.ini f c fs ds) S0 = (match evSs P (run P k) fi.body ⟨start fi.ns (none :: ds.map some), some (c, fs)⟩ S0 with
      | .nx fr S' => (match fr.self with
        | some (c', fs') => .ok (.obj c' fs') S'
        | none => .bad)
      | .ret .non fr S' => (match fr.self with
        | some (c', fs') => .ok (.obj c' fs') S'
        | none => .bad)
      | .exc c fs _ S' => .exc c fs S'
      | _ => .bad) := by
    simp only [run, hfi, hl, if_true]
    try rfl
  rw [hrun] at post
  have fin : ∀ (fr : Fr) (S' : Store), PostI T w H x (match fr.self with
        | some (c', fs') => .ok (.obj c' fs') S'
        | none => .bad) Q E → ∀ σ' w' H', Ext w.own w H w' H' → FrOk T w' H' σ' fr → StOk T w' H' S' → Q .non H' := by
    intro fr S' hp σ' w' H' ex f' st'
    have sf := f'.self
    cases hs : fr.self with
    | none => rw [hs] at hp; exact hp.elim
    | some pr =>
      obtain ⟨c', fs'⟩ := pr
      rw [hs] at hp sf
      obtain ⟨x', dx', vs', b1, b2, b3, b4⟩ := sf
      have hxx : x' = x := by
        have := ex.own
        rw [b1, ho] at this
        exact Option.some.inj this
      subst hxx
      exact hp.1 w' H' c' fs' dx' vs' rfl (ho ▸ ex) b3 b4 st'
  cases e : evSs P (run P k) fi.body ⟨start fi.ns (none :: ds.map some), some (c, fs)⟩ S0 with
  | nx fr S' => rw [e] at post; exact fin fr S' post
  | ret d fr S' =>
    rw [e] at post
    cases d with
    | non =>
      intro v σ' w' H' ex f' r' st'
      cases r'
      exact fin fr S' post σ' w' H' ex f' st'
    | _ => exact post.elim
  | exc c fs fr S' => rw [e] at post; exact fun cls dd σ' w' H' ex f' r' st' => post cls dd w' H' (ho ▸ ex) r' st'
  | brk _ _ => rw [e] at post; exact post.elim
  | cont _ _ => rw [e] at post; exact post.elim
  | bad => rw [e] at post; exact post.elim
/-- what is bound -/
theorem bind_dfl {f : Nat} {fi : FI} {dV : Value} {fd : FuncData} {as : List Arg} {kwd : List (Option Expr)} {df : List Expr} {ps : List Str} {s : Shared} {us : List Value} (kI : T.K.In s.heap) (hf : fd.params = { posonlyargs := [], args := as, vararg := none, kwonlyargs := [], kw_defaults := kwd, kwarg := none, defaults := df }) (hd : fd.defaults = dV) (hps : as.map (·.arg) = ps) (nd : ps.Nodup) (hp : ps.length = fi.np) (hdl : fi.dfl.length ≤ fi.np)
    (hdf : (dV = .none ∧ fi.dfl = []) ∨ ∃ (Tt : Addr) (o : Obj) (its : Array Value) (m : Nat) (dvs : List V), dV = .ref Tt ∧ T.K.lookup Tt = some o ∧ o.data = .seq its m ∧ Vals dvs its.toList ∧ ∀ w H, Reps T w H dvs fi.dfl)
    (h1 : us.length ≤ fi.np) (h2 : fi.np ≤ us.length + fi.dfl.length) :
    ∃ tl tv, BindsTo s fd ⟨us, []⟩ (ps.zip (us ++ tl)) ∧ Vals tv tl ∧ (us ++ tl).length = ps.length ∧ ∀ w H, Reps T w H tv (fi.dfl.drop (fi.dfl.length - (fi.np - us.length))) := by
  rcases hdf with ⟨e1, e2⟩ | ⟨Tt, o, its, m, dvs, e1, lT, oT, rT, rd⟩
  · rw [e2] at h2 ⊢
    obtain ⟨kk, b1, _, b3⟩ := bind_gen hf hps nd us [] (by omega) (Nat.zero_le _) (by simp at h2 ⊢; omega)
    refine ⟨[], [], ?_, .nil, by simp at h2 ⊢; omega, fun w H => by simp; exact .nil⟩
    rw [List.append_nil]
    refine BindsTo.of_eq ?_
    rw [b1, hd, e1]
    show (pure none >>= kk) = _
    rw [pure_bind]
    exact b3 rfl
  · have hlen : its.toList.length = fi.dfl.length := by rw [← rT.length]; exact (rd ⟨[], [], none⟩ (fun _ => none)).length
    obtain ⟨kk, b1, b2, _⟩ := bind_gen hf hps nd us its.toList (by omega) (by omega) (by omega)
    refine ⟨its.toList.drop (fi.dfl.length - (fi.np - us.length)), dvs.drop (fi.dfl.length - (fi.np - us.length)), ?_, rT.drop _, ?_, fun w H => (rd w H).drop _⟩
    · refine BindsTo.of_looks fun M => ?_
      rw [b1, hd, e1]
      rw [hlen, hp] at b2
      exact looks_items kI lT oT (by simp at b2; exact .of_pure b2)
    · rw [List.length_append, List.length_drop, hlen]; omega
theorem bind_dflK {f : Nat} {fi : FI} {dV : Value} {fd : FuncData} {as : List Arg} {kwd : List (Option Expr)} {df : List Expr} {ps : List Str} {s : Shared} {us ws : List Value} (kI : T.K.In s.heap) (hf : fd.params = { posonlyargs := [], args := as, vararg := none, kwonlyargs := [], kw_defaults := kwd, kwarg := none, defaults := df }) (hd : fd.defaults = dV) (hps : as.map (·.arg) = ps) (nd : ps.Nodup) (hp : ps.length = fi.np) (hdl : fi.dfl.length ≤ fi.np)
    (hdf : (dV = .none ∧ fi.dfl = []) ∨ ∃ (Tt : Addr) (o : Obj) (its : Array Value) (m : Nat) (dvs : List V), dV = .ref Tt ∧ T.K.lookup Tt = some o ∧ o.data = .seq its m ∧ Vals dvs its.toList ∧ ∀ w H, Reps T w H dvs fi.dfl)
    (h1 : us.length + ws.length ≤ fi.np) (h2 : fi.np ≤ us.length + ws.length + fi.dfl.length) :
    ∃ tl tv, BindsTo s fd ⟨us, ((ps.drop us.length).take ws.length).zip ws⟩ (ps.zip (us ++ ws ++ tl)) ∧ Vals tv tl ∧ (us ++ ws ++ tl).length = ps.length ∧ ∀ w H, Reps T w H tv (fi.dfl.drop (fi.dfl.length - (fi.np - (us.length + ws.length)))) := by
  rcases hdf with ⟨e1, e2⟩ | ⟨Tt, o, its, m, dvs, e1, lT, oT, rT, rd⟩
  · rw [e2] at h2 ⊢
    obtain ⟨kk, b1, _, b3⟩ := bind_genK hf hps nd us ws [] (by omega) (Nat.zero_le _) (by simp at h2 ⊢; omega)
    refine ⟨[], [], ?_, .nil, by simp at h2 ⊢; omega, fun w H => by simp; exact .nil⟩
    rw [List.append_nil]
    refine BindsTo.of_eq ?_
    rw [b1, hd, e1]
    show (pure none >>= kk) = _
    rw [pure_bind]
    exact b3 rfl
  · have hlen : its.toList.length = fi.dfl.length := by rw [← rT.length]; exact (rd ⟨[], [], none⟩ (fun _ => none)).length
    obtain ⟨kk, b1, b2, _⟩ := bind_genK hf hps nd us ws its.toList (by omega) (by omega) (by omega)
    refine ⟨its.toList.drop (fi.dfl.length - (fi.np - (us.length + ws.length))), dvs.drop (fi.dfl.length - (fi.np - (us.length + ws.length))), ?_, rT.drop _, ?_, fun w H => (rd w H).drop _⟩
    · refine BindsTo.of_looks fun M => ?_
      rw [b1, hd, e1]
      rw [hlen, hp] at b2
      exact looks_items kI lT oT (by simp at b2; simpa using PySem.W.Looks.of_pure b2)
    · rw [List.length_append, List.length_append, List.length_drop, hlen]; omega
/-- a def run from a state on: its body from its start -/
theorem run_body {cx : CXT} {f : Addr} {name qual : Str} {pa : Arguments} {body : List Stmt} {sc : Scope} {dV kV doc pm cdv ct oc : Value} {an od : Option Addr} {osl : Array (Option Value)} {N ps : List Str} {K : PySem.W.Frag}
    (lk : K.lookup f = some ⟨oc, od, .func (PySem.W.fnOf name qual pa body sc dV kV doc pm an cdv ct), osl⟩) (hcd : PySem.W.codeIn K cdv qual = true) (S : FnScope N ps sc) {A : Around} {outer : List Env} {s : Shared} {H : Hp} {args : Args} {us : List Value} {vs : List V} {Q : VK} {E : XK}
    (hr : Room (k + 1) A) (e0 : Env0 prog wd K mg base A outer s H) (hb : BindsTo s (PySem.W.fnOf name qual pa body sc dV kV doc pm an cdv ct) args (ps.zip us)) (r : Vals vs us) (hl : vs.length = ps.length)
    (go : Room k (A.deeper (envOfC qual sc s.heap.objs.size f cdv)) → ∃ t, PSs (cxOf cx prog wd K mg base N qual sc f cdv A outer s H E) body t ∧ t { nx := fun _ H' => Q .non H', rt := Q } (L2.start N vs) H) :
    codeAny (model prog wd) A (.call (.ref f) args) (CR cx outer prog wd H s Q E) s := by
  have kI : K.In s.heap := e0.mod.kin.keeps fun b o e => (e0.bs b o e).1
  have nl : s.heap.NoLimit := e0.mod.nolimit.keeps fun b o e => (e0.bs b o e).1
  refine codeAny_call_function hr.depth (kI _ _ lk) rfl S.co S.gen rfl (PySem.W.codeRec_of kI hcd) (hb _ _ _ _ (wpAny_newFunctionEnv_cells S.kind ?_ fun env he s1 x => ?_))
  · intro y hy
    obtain ⟨n, v⟩ := y
    exact (S.par n (List.of_mem_zip hy).1).imp id fun q => ⟨q, PySem.W.cellsFrom_some _ _ _ (.inl q)⟩
  · subst he
    obtain ⟨t, ht, hq⟩ := go (hr.deeper _)
    refine ⟨nl.keeps x.toInCall.keep, codeAny_func (wpAny_mono (ht.run [] s1 (L2.start N vs) H _ (inv_start S hr.hd e0 hl r x) hq) (fun fl s' hs => ?_) fun _ _ hs => hs)⟩
    cases fl with
    | ret u => obtain ⟨v, σ', H', J, rv, q⟩ := hs; exact ⟨v, H', J.os, J.bare, J.base, J.hok, rv, q⟩
    | next => obtain ⟨σ', H', J, q⟩ := hs; exact ⟨.non, H', J.os, J.bare, J.base, J.hok, rfl, q⟩
    | brk => obtain ⟨_, _, _, q⟩ := hs; exact q.elim
    | cont => obtain ⟨_, _, _, q⟩ := hs; exact q.elim
/-! ### iter of a tuple -/
theorem tiO_ok {P : Program} {w : World} {H : Hp} {h : Heap} {a it : Addr} (e : h.get? it = some (tiObj a)) : ObjOk P w H h it (ItOt a it) := ⟨e, ⟨_, e⟩, fun h1 h2 q k => k _ q⟩
def rIterT (K : PySem.W.Frag) (n : Nat) : List V → Hp → VK → Prop := fun xs H Q => ∃ (l : Addr) (zs : List V), xs = [.ref l] ∧ SqT K H l zs ∧ ∀ it, H it = none → n ≤ it → Q (.ref it) (upd H it (ItOt l it))
theorem call_iterT {X : Cx} : CallR X (.builtin "iter") (rIterT X.K X.s_0.heap.objs.size) := by
  intro pins s σ H xs us Q I r ⟨l, zs, e, hq, q⟩
  subst e
  obtain rfl := Vals.ref1 r
  obtain ⟨its, rv, pl, hz⟩ := I.tuple hq
  refine PySem.Calls.call_function_entry (by decide +kernel) (by decide +kernel) PySem.W.kdk_entry_iter (PySem.W.kdk_args_iter _) ?_
  show wpAny _ _ ((someArgs "iter" 1 2 _) >>= _) _ _ _
  refine wpAny_bind (wpAny_of_eq (a := [Value.ref l]) (by first | rfl | kernel_rfl!) (wpAny_bind (wpAny_pyIter_tuple (show s.heap.IsTuple l its.toArray from pl) (wpAny_pure ⟨_, rfl, ?_⟩))))
  exact ⟨.ref s.heap.objs.size, _, I.laid (t' := s.toks) (fun b u e => Heap.get?_push_of_some _ e) (Nat.le_refl _) (tiO_ok (Heap.get?_push_size _ rfl)), rfl, q _ (I.hok.fresh (Nat.le_refl _)) I.sz⟩
theorem itF_of {g f : Nat} (h : itF P g = some f) : ∃ fi, P.fs[g]? = some fi ∧ fi.body = .cons (.retIt f) .nil ∧ fi.np = 1 := by
  unfold itF at h
  cases e : P.fs[g]? with
  | none => rw [e] at h; cases h
  | some fi =>
    rw [e] at h
    dsimp only at h
    split at h
    · rename_i f' hb
      split at h
      · rename_i hn
        cases h
        exact ⟨fi, rfl, hb, hn⟩
      · cases h
    · cases h
theorem attr_any {c : Nat} {fs : List (Nat × D)} {f : Nat} {S S' : Store} {d : D} {call : Call} (h : attrI P (fun _ _ => .bad) (.obj c fs) c fs f S = .ok d S') : attrI P call (.obj c fs) c fs f S = .ok d S' := by
  unfold attrI at h ⊢
  cases e : P.cs[c]? with
  | none => rw [e] at h; cases h
  | some ci =>
    rw [e] at h
    dsimp only at h ⊢
    cases e2 : ci.prop.lookup f with
    | some g => rw [e2] at h; cases h
    | none => rw [e2] at h; exact h
theorem itr_of (ko : KOk T P) (gs : GsOk T P C mg) (tk : TbOk T mg base) (fk : ∀ f fi, P.fs[f]? = some fi → FKOk T P C f fi) (lv : Lv T P prog wd mg base k) (lw : ∀ j, k = j + 1 → Lv T P prog wd mg base j) (lw2 : ∀ j, k = j + 2 → Lv T P prog wd mg base j) (low : ∀ j, j < k → Lv T P prog wd mg base j) {g f : Nat} (hit : itF P g = some f) : ItR T P prog wd mg base (k + 1) g f := by
  obtain ⟨fi, hfi, hbody, hnp⟩ := itF_of hit
  intro A outer s H x u w S S' c fs l hr e0 rx ho st r ha
  obtain ⟨N, oc, od, dV, kV, doc, pm, cdv, ct, an, osl, name, qual, as, kwd, df, body, scope, ps, lk, hcd, Sc, hp, hN, ⟨bl, ck, hlm⟩, hps, hpn, hdl, hdf⟩ := (fk g _ hfi).ex
  have kI : T.K.In s.heap := e0.mod.kin.keeps fun b o e => (e0.bs b o e).1
  have ndP : ps.Nodup := by rw [← Sc.pre]; exact Sc.nd.sublist (List.take_sublist _ _)
  obtain ⟨tl, tv, hb, rt, hlen, _⟩ := bind_dfl (f := g) (fi := fi) (us := [u]) (dV := dV) (fd := PySem.W.fnOf name qual { posonlyargs := [], args := as, vararg := none, kwonlyargs := [], kw_defaults := kwd, kwarg := none, defaults := df } body scope dV kV doc pm an cdv ct) kI rfl rfl hps ndP hp hdl hdf (by simp; omega) (by simp; omega)
  have htl : tl = [] := by
    have : (u :: tl).length = ps.length := hlen
    rw [hp, hnp] at this
    exact List.length_eq_zero_iff.mp (by simpa using this)
  subst htl
  refine run_body lk hcd Sc hr e0 hb (.cons rx .nil) (by rw [hp, hnp]; rfl) fun hrm => ?_
  rw [hbody] at ck
  simp only [ckSs] at ck
  cases body with
  | nil => cases ck
  | cons s0 rest =>
    obtain ⟨q1, q2⟩ := bt ck
    clear ck
    have hrest : rest = [] := by cases rest with
      | nil => rfl
      | cons _ _ => cases q2
    subst hrest
    simp only [ckS] at q1
    split at q1
    · rename_i x0 p0 y p1 p2
      obtain ⟨q1, c3⟩ := bt q1
      obtain ⟨c1, c2⟩ := bt q1
      have cn := body_cn (outer := outer) (E := fun _ _ _ => False) (H := H) (N := N) (qual := qual) (scope := scope) (fa := T.fa g) (cdv := cdv) (A := A) (s := s) ko lv lw lw2 low hrm
      have xo : XOk T P (C.on bl) N scope (cxOf (CX prog wd) prog wd T.K mg base N qual scope (T.fa g) cdv A outer s H fun _ _ _ => False) := body_xo gs tk Sc hlm
      obtain ⟨a1, a2, a3, a4, a5⟩ := blt_of xo c1
      subst a3
      have hes : ckEs P (C.on bl) N scope (.cons (.attr (.var 0) f) .nil) [y] = true := by
        simp only [ckEs, c3]; rfl
      have pa := soundEs _ cn xo hes c2
      refine ⟨_, pss_one (ps_ret (pe_callB call_iterT a1 a2 (by rfl) pa a5 a4 (by exact (star_cons c2).1) (star_any (star_cons (env := (cxOf (CX prog wd) prog wd T.K mg base N qual scope (T.fa g) cdv A outer s H fun _ _ _ => False).env) c2).2))), ?_⟩
      have hpl : 1 ≤ N.length := by
        have := congrArg List.length Sc.pre
        rw [List.length_take, hp, hnp] at this; omega
      obtain ⟨b1, b2⟩ := start_ok (w := w) (H := H) hN (.cons r .nil) (by simpa using hpl)
      have h0 : (start fi.ns [some (.obj c fs)])[0]? = some (some (.obj c fs)) := rfl
      have hev : evEs P (run P k) (.cons (.attr (.var 0) f) .nil) ⟨start fi.ns [some (.obj c fs)], none⟩ S = .ok [.tup l] S' := by
        simp only [evEs, evE, h0, Res.bind, attrM, attr_any ha, Res.bindL, ResL.bindL]
      refine ⟨w, ⟨start fi.ns [some (.obj c fs)], none⟩, S, ⟨b1, b2, ho⟩, st, ?_⟩
      rw [hev]
      intro vs w1 H1 ex rs st1
      cases rs with
      | cons r1 rs =>
        cases rs
        obtain ⟨a, us, rfl, hq, hr2⟩ := r1.tupF
        refine ⟨a, us, rfl, st_stay hq mono_refl, fun it hn hsz => ⟨it, a, us, w1, H1, rfl, hsz, ex, st1, rfl, hn, hq, hr2⟩⟩
    · cases q1
theorem lv_zero : Lv T P prog wd mg base 0 := by
  refine ⟨fun f hf A outer s H us vs Q E hr e0 r h => ?_, fun f hf A outer s H us vs Q E hr e0 r h => ?_, fun f hf A outer s H us ws vs Q E hr e0 hle r h => ?_, fun g f h => absurd h (Nat.lt_irrefl 0)⟩
  · obtain ⟨w, S, ds, es, _, _, _, _, p⟩ := h
    exact (show False from p).elim
  · obtain ⟨w, S, x, us, ds, es, c, fs, dx, fv, _, _, _, _, _, _, _, p⟩ := h
    exact (show False from p).elim
  · obtain ⟨w, S, ds, es, _, _, _, _, p⟩ := h
    exact (show False from p).elim
theorem fill_eq {f n : Nat} {fi : FI} {ds es : List D} (hfi : P.fs[f]? = some fi) (h : fill P f n ds = some es) : n + ds.length ≤ fi.np ∧ fi.np ≤ n + ds.length + fi.dfl.length ∧ es = ds ++ fi.dfl.drop (fi.dfl.length - (fi.np - (n + ds.length))) := by
  unfold fill at h
  rw [hfi] at h
  dsimp only at h
  split at h
  · rename_i q
    obtain ⟨q1, q2⟩ := bt q
    cases h
    exact ⟨of_decide_eq_true q1, of_decide_eq_true q2, rfl⟩
  · cases h
theorem lv_succ (ko : KOk T P) (gs : GsOk T P C mg) (tk : TbOk T mg base) (fk : ∀ f fi, P.fs[f]? = some fi → FKOk T P C f fi) (lv : Lv T P prog wd mg base k) (lw : ∀ j, k = j + 1 → Lv T P prog wd mg base j) (lw2 : ∀ j, k = j + 2 → Lv T P prog wd mg base j) (low : ∀ j, j < k → Lv T P prog wd mg base j) : Lv T P prog wd mg base (k + 1) := by
  refine ⟨fun f hf => ?_, fun f hf => ?_, fun f hf => ?_, fun g f _ h => itr_of ko gs tk fk lv lw lw2 low h⟩
  · have hfi : P.fs[f]? = some P.fs[f] := by simp [hf]
    obtain ⟨N, oc, od, dV, kV, doc, pm, cdv, ct, an, osl, name, qual, as, kwd, df, body, scope, ps, lk, hcd, S, hp, hN, ⟨bl, ck, hlm⟩, hps, hpn, hdl, hdf⟩ := (fk f _ hfi).ex
    have F : FnOk prog wd T.K mg base (CX prog wd) (k + 1) (T.fa f) _ ps (spF1 T P (k + 1) f P.fs[f].np) := fn_of lk hcd S (fun vs H Q E h => by obtain ⟨w, S0, ds, _, _, rs, hl, _⟩ := h; rw [rs.length, hl, hp]) (fun A outer s H vs Q E hr h => fn_body ko gs tk lv lw lw2 low hfi S hp hN ck hlm hr h)
    intro A outer s H us vs Q E hr e0 r h
    obtain ⟨w, S0, ds, es, ho, st, rs, hfl, post⟩ := h
    obtain ⟨g1, g2, g3⟩ := fill_eq hfi hfl
    have hlu : us.length = ds.length := by rw [← r.length, rs.length]
    have kI : T.K.In s.heap := e0.mod.kin.keeps fun b o e => (e0.bs b o e).1
    have ndP : ps.Nodup := by rw [← S.pre]; exact S.nd.sublist (List.take_sublist _ _)
    obtain ⟨tl, tv, hb, rt, hlen, rr⟩ := bind_dfl (f := f) (fi := P.fs[f]) (us := us) (dV := dV) (fd := PySem.W.fnOf name qual { posonlyargs := [], args := as, vararg := none, kwonlyargs := [], kw_defaults := kwd, kwarg := none, defaults := df } body scope dV kV doc pm an cdv ct) kI rfl rfl hps ndP hp hdl hdf (by omega) (by omega)
    refine F.run A outer s H ⟨us, []⟩ (us ++ tl) (vs ++ tv) Q E hr e0 hb (r.append rt) ⟨w, S0, es, ho, st, ?_, ?_, post⟩
    · rw [g3]
      have := rr w H
      rw [hlu] at this
      rw [Nat.zero_add]
      exact rs.append this
    · rw [g3, List.length_append, List.length_drop]; omega
  · have hfi : P.fs[f]? = some P.fs[f] := by simp [hf]
    obtain ⟨N, oc, od, dV, kV, doc, pm, cdv, ct, an, osl, name, qual, as, kwd, df, body, scope, ps, lk, hcd, S, hp, hN, ⟨bl, ck, hlm⟩, hps, hpn, hdl, hdf⟩ := (fk f _ hfi).ex
    have F : FnOk prog wd T.K mg base (CX prog wd) (k + 1) (T.fa f) _ ps (spI1 T P (k + 1) f P.fs[f].np) := fn_of lk hcd S (fun vs H Q E h => by obtain ⟨w, S0, x, us, ds, c, fs, dx, fv, rfl, _, _, rs, hl, _⟩ := h; rw [List.length_cons, rs.length, hl, hp]) (fun A outer s H vs Q E hr h => ini_body ko gs tk lv lw lw2 low hfi S hp hN ck hlm hr h)
    intro A outer s H us vs Q E hr e0 r h
    obtain ⟨w, S0, x, us', ds, es, c, fs, dx, fv, rfl, ho, st, rs, hfl, hx, rf, post⟩ := h
    obtain ⟨g1, g2, g3⟩ := fill_eq hfi hfl
    have hlu : us.length = ds.length + 1 := by rw [← r.length, List.length_cons, rs.length]
    have kI : T.K.In s.heap := e0.mod.kin.keeps fun b o e => (e0.bs b o e).1
    have ndP : ps.Nodup := by rw [← S.pre]; exact S.nd.sublist (List.take_sublist _ _)
    obtain ⟨tl, tv, hb, rt, hlen, rr⟩ := bind_dfl (f := f) (fi := P.fs[f]) (us := us) (dV := dV) (fd := PySem.W.fnOf name qual { posonlyargs := [], args := as, vararg := none, kwonlyargs := [], kw_defaults := kwd, kwarg := none, defaults := df } body scope dV kV doc pm an cdv ct) kI rfl rfl hps ndP hp hdl hdf (by omega) (by omega)
    refine F.run A outer s H ⟨us, []⟩ (us ++ tl) (.ref x :: us' ++ tv) Q E hr e0 hb (r.append rt) ⟨w, S0, x, us' ++ tv, es, c, fs, dx, fv, rfl, ho, st, ?_, ?_, hx, rf, post⟩
    · rw [g3]
      have := rr w H
      rw [hlu, Nat.add_comm ds.length 1] at this
      exact rs.append this
    · rw [g3, List.length_append, List.length_drop]; omega
  · have hfi : P.fs[f]? = some P.fs[f] := by simp [hf]
    obtain ⟨N, oc, od, dV, kV, doc, pm, cdv, ct, an, osl, name, qual, as, kwd, df, body, scope, ps, lk, hcd, S, hp, hN, ⟨bl, ck, hlm⟩, hps, hpn, hdl, hdf⟩ := (fk f _ hfi).ex
    have F : FnOk prog wd T.K mg base (CX prog wd) (k + 1) (T.fa f) _ ps (spF1 T P (k + 1) f P.fs[f].np) := fn_of lk hcd S (fun vs H Q E h => by obtain ⟨w, S0, ds, _, _, rs, hl, _⟩ := h; rw [rs.length, hl, hp]) (fun A outer s H vs Q E hr h => fn_body ko gs tk lv lw lw2 low hfi S hp hN ck hlm hr h)
    intro A outer s H us ws vs Q E hr e0 hle r h
    obtain ⟨w, S0, ds, es, ho, st, rs, hfl, post⟩ := h
    obtain ⟨g1, g2, g3⟩ := fill_eq hfi hfl
    have hlu : us.length + ws.length = ds.length := by rw [← List.length_append, ← r.length, rs.length]
    have kI : T.K.In s.heap := e0.mod.kin.keeps fun b o e => (e0.bs b o e).1
    have ndP : ps.Nodup := by rw [← S.pre]; exact S.nd.sublist (List.take_sublist _ _)
    obtain ⟨tl, tv, hb, rt, hlen, rr⟩ := bind_dflK (f := f) (fi := P.fs[f]) (us := us) (ws := ws) (dV := dV) (fd := PySem.W.fnOf name qual { posonlyargs := [], args := as, vararg := none, kwonlyargs := [], kw_defaults := kwd, kwarg := none, defaults := df } body scope dV kV doc pm an cdv ct) kI rfl rfl hps ndP hp hdl hdf (by omega) (by omega)
    rw [← hpn]
    refine F.run A outer s H ⟨us, ((ps.drop us.length).take ws.length).zip ws⟩ (us ++ ws ++ tl) (vs ++ tv) Q E hr e0 hb (r.append rt) ⟨w, S0, es, ho, st, ?_, ?_, post⟩
    · rw [g3]
      have := rr w H
      rw [hlu] at this
      rw [Nat.zero_add]
      exact rs.append this
    · rw [g3, List.length_append, List.length_drop]; omega
theorem lv_all (ko : KOk T P) (gs : GsOk T P C mg) (tk : TbOk T mg base) (fk : ∀ f fi, P.fs[f]? = some fi → FKOk T P C f fi) : ∀ k, Lv T P prog wd mg base k ∧ ∀ j, j < k → Lv T P prog wd mg base j
  | 0 => ⟨lv_zero, fun j h => absurd h (Nat.not_lt_zero j)⟩
  | k + 1 => by
    obtain ⟨h1, h2⟩ := lv_all ko gs tk fk k
    refine ⟨lv_succ ko gs tk fk h1 (fun j h => h2 j (by omega)) (fun j h => h2 j (by omega)) h2, fun j h => ?_⟩
    by_cases e : j = k
    · rw [e]; exact h1
    · exact h2 j (by omega)
end
end Mi
end

section
set_option maxRecDepth 100000
set_option maxHeartbeats 4000000
/-! Mi: what is checked of the written part; the law over the levels. -/
namespace Mi
open PySem PySem.Spec L2 PyProof.Rows
open He (ga ma fAd eqO eqO_ok)
/-- where a def stands: a global's name, or a class and a method; what it is wrapped in -/
structure Src where
  at_ : Str × Option Str
  wr : String
def srcA (K : PySem.W.Frag) (s : Src) : Addr := if s.wr = "" then fAd K s.at_ else match PySem.W.recIn K (fAd K s.at_) s.wr with
  | some (.ref g :: _) => g
  | _ => 0
/-- the tables of a program -/
structure Tab where
  srcs : List Src
  cns : List Str
  C : Ctx
  P : Pg
  gvs : List V
  N : List (List Str)
  xns : List Str := []
  xbs : List Str := []
  lams : List Nat := []
/-- a def's code object, its name; the code object's table -/
def codeAd (K : PySem.W.Frag) (f : Addr) : Addr := match K.lookup f with
  | some ⟨_, _, .func fd, _⟩ => (match fd.code with
    | .ref c => c
    | _ => 0)
  | _ => 0
def qualAd (K : PySem.W.Frag) (f : Addr) : Str := match K.lookup f with
  | some ⟨_, _, .func fd, _⟩ => fd.qualname
  | _ => Str.empty
def tabAd (K : PySem.W.Frag) (c : Addr) : Addr := match K.lookup c with
  | some ⟨_, _, .fields vs, _⟩ => (match (vs[11]? : Option Value) with
    | some (.ref P) => P
    | _ => 0)
  | _ => 0
def parAd (K : PySem.W.Frag) (f : Addr) : List Str := match K.lookup f with
  | some ⟨_, _, .func fd, _⟩ => fd.params.args.map (·.arg)
  | _ => []
def fAd0 (t : Tab) (K : PySem.W.Frag) (f : Nat) : Addr := srcA K (t.srcs.getD f ⟨("", none), ""⟩)
def Tab.tb (t : Tab) (K : PySem.W.Frag) : Tb := ⟨K, fun f => srcA K (t.srcs.getD f ⟨("", none), ""⟩), fun c => ga K (t.cns.getD c ""), t.C.nm, t.lams.map fun f => (tabAd K (codeAd K (fAd0 t K f)), (qualAd K (fAd0 t K f) ++ ".<locals>.") ++ "<lambda>"),
  fun x => ga K (t.xns.getD x ""), t.lams.map fun f => (codeAd K (fAd0 t K f), tabAd K (codeAd K (fAd0 t K f))), fun f => parAd K (fAd0 t K f)⟩
section
variable (t : Tab) (K : PySem.W.Frag)
abbrev fA (f : Nat) : Addr := (t.tb K).fa f
abbrev cA (c : Nat) : Addr := (t.tb K).ca c
abbrev xA (x : Nat) : Addr := (t.tb K).xa x
def all2 (f : CI → Nat → CI → Nat → Bool) : Bool := (List.range t.P.cs.length).all fun c => match t.P.cs[c]? with
  | some ci => (List.range t.P.cs.length).all fun d => match t.P.cs[d]? with
    | some di => f ci c di d
    | none => false
  | none => false
def all1 (f : CI → Nat → Bool) : Bool := (List.range t.P.cs.length).all fun c => match t.P.cs[c]? with
  | some ci => f ci c
  | none => false
def clsKB (C : Addr) : Bool := PySem.W.plainGet K C Str.empty && PySem.W.hasDictIn K C && PySem.W.plainOver K C && eqO (PySem.W.findIn K (.ref C) "__setattr__") (some (some (.builtin "object.__setattr__"))) &&
  eqO (PySem.W.findIn K (.ref C) "__class__") (some (some (.builtin "object.__class__"))) && eqO (PySem.W.specialIn K (.builtin "object.__class__") "__get__") (some (some (.builtin "getset_descriptor.__get__"))) &&
  decide (PySem.W.takesIn K (.builtin "object.__class__") = some true) && decide (PySem.W.mroIn K C (.type "object") = some true) && PySem.W.selfFirst K C
def dunB (C : Addr) (u : Dun) (f : Addr) : Bool := eqO (PySem.W.findIn K (.ref C) (dunS u)) (some (some (.ref f))) && PySem.W.isFn K (.ref f) && (match opOf u with
  | some op => eqO (PySem.W.findIn K (.ref C) (dunderR op.info.2)) (some none)
  | none => true) && (!decide (u = .eq) || eqO (PySem.W.findIn K (.ref C) "__ne__") (some (some (.builtin "object.__ne__"))))
def mcOf (C : Addr) : Value := (PySem.W.typeIn K (.ref C)).getD .none
def clsFnB (C : Addr) (m : Str) (g : Addr) : Bool := PySem.W.readsIn K C (mcOf K C) && eqO (PySem.W.specialIn K (.ref C) "__getattribute__") (some (some (.builtin "type.__getattribute__"))) && PySem.W.keepIn K (.ref g) &&
  (match PySem.W.findCls K (.ref C) (mcOf K C) m with
  | some (.val v) => decide (v = .ref g)
  | some (.get a b c d) => decide (a = .builtin "staticmethod.__get__") && decide (c = .none) && decide (d = .ref C) && (match b with
    | .ref p => (match PySem.W.recIn K p "staticmethod" with
      | some (v :: _) => decide (v = .ref g)
      | _ => false)
    | _ => false)
  | _ => false)
def propB (C : Addr) (f : Str) (g : Addr) : Bool := match PySem.W.findIn K (.ref C) f with
  | some (some (.ref p)) => eqO (PySem.W.specialIn K (.ref p) "__get__") (some (some (.builtin "property.__get__"))) && decide (PySem.W.takesIn K (.ref p) = some true) && (match PySem.W.recIn K p "property" with
    | some (v :: _) => decide (v = .ref g)
    | _ => false)
  | _ => false
def nmAt (i : Nat) (f : Str → Bool) : Bool := match t.C.nm[i]? with
  | some x => f x
  | none => false
def fnLt (g : Nat) : Bool := decide (g < t.P.fs.length)
def isSome2 {α β : Type} : Option (Option α) → Bool := Option.isSome
def koB : Bool := decide t.C.nm.Nodup &&
  all1 t (fun _ c => clsKB K (cA t K c)) &&
  all2 t (fun _ c _ d => decide (c = d) || !decide (cA t K c = cA t K d)) &&
  all1 t (fun ci c => ci.flds.all fun f => nmAt t f fun x => eqO (PySem.W.findIn K (.ref (cA t K c)) x) (some none)) &&
  all1 t (fun ci c => ci.meth.all fun q => fnLt t q.2 && nmAt t q.1 fun x => eqO (PySem.W.findIn K (.ref (cA t K c)) x) (some (some (.ref (fA t K q.2)))) && PySem.W.isFn K (.ref (fA t K q.2)) && PySem.W.keepIn K (.ref (fA t K q.2))) &&
  all1 t (fun ci c => ci.stat.all fun q => fnLt t q.2 && nmAt t q.1 fun x => clsFnB K (cA t K c) x (fA t K q.2)) &&
  all1 t (fun ci c => ci.prop.all fun q => fnLt t q.2 && nmAt t q.1 fun x => propB K (cA t K c) x (fA t K q.2)) &&
  all1 t (fun ci c => ci.dun.all fun q => fnLt t q.2 && dunB K (cA t K c) q.1 (fA t K q.2)) &&
  ([Operator.Add, Operator.Sub, Operator.Mult].all fun op => vtypes.all fun n => (PySem.W.findIn K (.type n) (PySem.dunder op.info.2)).isSome && (PySem.W.findIn K (.type n) (dunderR op.info.2)).isSome) &&
  ((List.range t.P.fs.length).all fun f => PySem.W.keepIn K (.ref (fA t K f))) &&
  all1 t (fun ci c => match ci.init with
    | some f => fnLt t f && PySem.W.makesIn K (cA t K c) && eqO (PySem.W.findIn K (.ref (cA t K c)) "__init__") (some (some (.ref (fA t K f)))) && PySem.W.isFn K (.ref (fA t K f)) && PySem.W.keepIn K (.ref (cA t K c))
    | none => true) &&
  all2 t (fun ci c _ d => decide (PySem.W.kitOne K (.ref (cA t K c)) (.ref (cA t K d)) = some (ci.anc.contains d))) &&
  all1 t (fun _ c => vtypes.all fun n => decide (PySem.W.kitOne K (.ref (cA t K c)) (.type n) = some false)) &&
  all1 t (fun _ d => vtypes.all fun n => decide (PySem.W.kitOne K (.type n) (.ref (cA t K d)) = some false) && decide (PySem.W.subIn K (.type n) (.ref (cA t K d)) = some false)) &&
  all2 t (fun _ c di d => !(!di.anc.contains c || decide (c = d)) || PySem.W.notFirst K (cA t K c) (.ref (cA t K d))) &&
  all2 t (fun _ c di d => di.anc.contains c || decide (PySem.W.subIn K (.ref (cA t K d)) (.ref (cA t K c)) = some false))
end
section
variable {t : Tab} {K : PySem.W.Frag}
theorem all1_of {f : CI → Nat → Bool} (h : all1 t f = true) {c : Nat} {ci : CI} (hc : t.P.cs[c]? = some ci) : f ci c = true := by
  have hl : c < t.P.cs.length := (List.getElem?_eq_some_iff.mp hc).1
  have q := List.all_eq_true.mp h c (List.mem_range.mpr hl)
  rw [hc] at q; exact q
theorem all1_lt {f : CI → Nat → Bool} (h : all1 t f = true) {c : Nat} (hl : c < t.P.cs.length) : ∃ ci, t.P.cs[c]? = some ci ∧ f ci c = true :=
  ⟨t.P.cs[c], by simp [hl], all1_of h (by simp [hl])⟩
theorem all2_of {f : CI → Nat → CI → Nat → Bool} (h : all2 t f = true) {c d : Nat} {ci di : CI} (hc : t.P.cs[c]? = some ci) (hd : t.P.cs[d]? = some di) : f ci c di d = true := by
  have hl : c < t.P.cs.length := (List.getElem?_eq_some_iff.mp hc).1
  have hl2 : d < t.P.cs.length := (List.getElem?_eq_some_iff.mp hd).1
  have q := List.all_eq_true.mp h c (List.mem_range.mpr hl)
  rw [hc] at q
  have q2 := List.all_eq_true.mp q d (List.mem_range.mpr hl2)
  rw [hd] at q2; exact q2
theorem nmAt_of {i : Nat} {f : Str → Bool} (h : nmAt t i f = true) : ∃ x, t.C.nm[i]? = some x ∧ f x = true := by
  unfold nmAt at h
  cases e : t.C.nm[i]? with
  | none => rw [e] at h; cases h
  | some x => rw [e] at h; exact ⟨x, rfl, h⟩
theorem look_mem {α β : Type} [BEq α] [LawfulBEq α] {l : List (α × β)} {a : α} {b : β} (h : l.lookup a = some b) : (a, b) ∈ l := by
  induction l with
  | nil => simp at h
  | cons p l ih =>
    obtain ⟨x, y⟩ := p
    rw [List.lookup_cons] at h
    cases e : a == x with
    | true => rw [e] at h; cases h; rw [eq_of_beq e]; exact List.mem_cons_self
    | false => rw [e] at h; exact List.mem_cons_of_mem _ (ih h)
theorem clsKB_of {C : Addr} (h : clsKB K C = true) : ClsK K C := by
  unfold clsKB at h
  obtain ⟨h, h9⟩ := bt h
  obtain ⟨h, h8⟩ := bt h
  obtain ⟨h, h7⟩ := bt h
  obtain ⟨h, h6⟩ := bt h
  obtain ⟨h, h5⟩ := bt h
  obtain ⟨h, h4⟩ := bt h
  obtain ⟨h, h3⟩ := bt h
  obtain ⟨h1, h2⟩ := bt h
  exact ⟨⟨h1, h2, h3, eqO_ok h4⟩, eqO_ok h5, eqO_ok h6, of_decide_eq_true h7, of_decide_eq_true h8, h9⟩
theorem dunB_of {C f : Addr} {u : Dun} (h : dunB K C u f = true) : DunK K C u f := by
  unfold dunB at h
  obtain ⟨h, h4⟩ := bt h
  obtain ⟨h, h3⟩ := bt h
  obtain ⟨h1, h2⟩ := bt h
  refine ⟨eqO_ok h1, h2, fun op ho => ?_, fun hu => ?_⟩
  · rw [ho] at h3; exact eqO_ok h3
  · subst hu; exact eqO_ok (by simpa using h4)
theorem clsFnB_of {C g : Addr} {m : Str} (h : clsFnB K C m g = true) : ClsFn K C m g := by
  unfold clsFnB at h
  obtain ⟨h, h4⟩ := bt h
  obtain ⟨h, h3⟩ := bt h
  obtain ⟨h1, h2⟩ := bt h
  refine ⟨⟨mcOf K C, ⟨h1, eqO_ok h2⟩, ?_⟩, h3⟩
  cases e : PySem.W.findCls K (.ref C) (mcOf K C) m with
  | none => rw [e] at h4; cases h4
  | some q =>
    rw [e] at h4
    cases q with
    | val v => exact .inl (by rw [of_decide_eq_true (show decide (v = .ref g) = true from h4)])
    | get a b c d =>
      obtain ⟨h4, h8⟩ := bt h4
      obtain ⟨h4, h7⟩ := bt h4
      obtain ⟨h5, h6⟩ := bt h4
      have e5 := of_decide_eq_true h5
      have e6 := of_decide_eq_true h6
      have e7 := of_decide_eq_true h7
      subst e5; subst e6; subst e7
      cases b with
      | ref p =>
        dsimp only at h8
        cases er : PySem.W.recIn K p "staticmethod" with
        | none => rw [er] at h8; cases h8
        | some l =>
          rw [er] at h8
          cases l with
          | nil => cases h8
          | cons v rest =>
            have ev := of_decide_eq_true (show decide (v = .ref g) = true from h8)
            subst ev
            exact .inr ⟨p, rest, rfl, er⟩
      | _ => cases h8
theorem propB_of {C g : Addr} {f : Str} (h : propB K C f g = true) : ∃ p, PropOf K C f p g := by
  unfold propB at h
  split at h
  · rename_i p e
    obtain ⟨h, h3⟩ := bt h
    obtain ⟨h1, h2⟩ := bt h
    cases er : PySem.W.recIn K p "property" with
    | none => rw [er] at h3; cases h3
    | some l =>
      rw [er] at h3
      cases l with
      | nil => cases h3
      | cons v rest =>
        have ev := of_decide_eq_true (show decide (v = .ref g) = true from h3)
        subst ev
        exact ⟨p, e, eqO_ok h1, of_decide_eq_true h2, rest, er⟩
  · cases h
theorem ko_of (h : koB t K = true) : KOk (t.tb K) t.P := by
  unfold koB at h
  obtain ⟨h, k16⟩ := bt h
  obtain ⟨h, k15⟩ := bt h
  obtain ⟨h, k14⟩ := bt h
  obtain ⟨h, k13⟩ := bt h
  obtain ⟨h, k12⟩ := bt h
  obtain ⟨h, k11⟩ := bt h
  obtain ⟨h, k10⟩ := bt h
  obtain ⟨h, k9⟩ := bt h
  obtain ⟨h, k8⟩ := bt h
  obtain ⟨h, k7⟩ := bt h
  obtain ⟨h, k6⟩ := bt h
  obtain ⟨h, k5⟩ := bt h
  obtain ⟨h, k4⟩ := bt h
  obtain ⟨h, k3⟩ := bt h
  obtain ⟨k1, k2⟩ := bt h
  constructor
  · exact of_decide_eq_true k1
  · intro c hc
    obtain ⟨ci, e, q⟩ := all1_lt k2 hc
    exact clsKB_of q
  · intro c d hc hd e
    have q := all2_of k3 (c := c) (d := d) (ci := t.P.cs[c]) (di := t.P.cs[d]) (by simp [hc]) (by simp [hd])
    rcases Bool.or_eq_true_iff.mp q with q | q
    · exact of_decide_eq_true q
    · have : cA t K c = cA t K d := e
      simp [this] at q
  · intro c ci f hc hf
    have q := List.all_eq_true.mp (all1_of k4 hc) f hf
    obtain ⟨x, e, q⟩ := nmAt_of q
    exact ⟨x, e, eqO_ok q⟩
  · intro c ci m g hc hl
    have q := List.all_eq_true.mp (all1_of k5 hc) _ (look_mem hl)
    obtain ⟨q1, q2⟩ := bt q
    obtain ⟨x, e, q2⟩ := nmAt_of q2
    obtain ⟨q2, q4⟩ := bt q2
    obtain ⟨q2, q3⟩ := bt q2
    exact ⟨of_decide_eq_true q1, x, e, eqO_ok q2, q3, q4⟩
  · intro c ci m g hc hl
    have q := List.all_eq_true.mp (all1_of k6 hc) _ (look_mem hl)
    obtain ⟨q1, q2⟩ := bt q
    obtain ⟨x, e, q2⟩ := nmAt_of q2
    exact ⟨of_decide_eq_true q1, x, e, clsFnB_of q2⟩
  · intro c ci m g hc hl
    have q := List.all_eq_true.mp (all1_of k7 hc) _ (look_mem hl)
    obtain ⟨q1, q2⟩ := bt q
    obtain ⟨x, e, q2⟩ := nmAt_of q2
    obtain ⟨p, q3⟩ := propB_of q2
    exact ⟨of_decide_eq_true q1, x, p, e, q3⟩
  · intro c ci u g hc hl
    have q := List.all_eq_true.mp (all1_of k8 hc) _ (look_mem hl)
    obtain ⟨q1, q2⟩ := bt q
    exact ⟨of_decide_eq_true q1, dunB_of q2⟩
  · intro c ci f hc hi
    have q := all1_of k11 hc
    rw [hi] at q
    obtain ⟨q, q5⟩ := bt q
    obtain ⟨q, q4⟩ := bt q
    obtain ⟨q, q3⟩ := bt q
    obtain ⟨q1, q2⟩ := bt q
    exact ⟨of_decide_eq_true q1, q2, eqO_ok q3, q4, q5⟩
  · intro u op n ho hn
    have hop : op ∈ [Operator.Add, Operator.Sub, Operator.Mult] := by cases u <;> cases ho <;> simp
    have q := List.all_eq_true.mp (List.all_eq_true.mp k9 op hop) n hn
    obtain ⟨q1, q2⟩ := bt q
    exact ⟨Option.isSome_iff_exists.mp q1, Option.isSome_iff_exists.mp q2⟩
  · intro f hf
    exact List.all_eq_true.mp k10 f (List.mem_range.mpr hf)
  · intro c ci d hc hd
    exact of_decide_eq_true (all2_of k12 hc (d := d) (di := t.P.cs[d]) (by simp [hd]))
  · intro c n hc hn
    obtain ⟨ci, e, q⟩ := all1_lt k13 hc
    exact of_decide_eq_true (List.all_eq_true.mp q n hn)
  · intro n d hn hd
    obtain ⟨ci, e, q⟩ := all1_lt k14 hd
    exact of_decide_eq_true (bt (List.all_eq_true.mp q n hn)).1
  · intro n d hn hd
    obtain ⟨ci, e, q⟩ := all1_lt k14 hd
    exact of_decide_eq_true (bt (List.all_eq_true.mp q n hn)).2
  · intro c ci d hc hd hq
    have e : t.P.cs[d]? = some t.P.cs[d] := by simp [hd]
    have q := all2_of k15 hc e
    rw [e] at hq
    have hq' : (!t.P.cs[d].anc.contains c || decide (c = d)) = true := hq
    simp only [hq', Bool.not_true, Bool.false_or] at q
    exact q
  · intro c ci d hc hd hq
    have e : t.P.cs[d]? = some t.P.cs[d] := by simp [hd]
    have q := all2_of k16 hc e
    rw [e] at hq
    have hq' : (!t.P.cs[d].anc.contains c) = true := hq
    have hq2 : t.P.cs[d].anc.contains c = false := by simpa using hq'
    simp only [hq2, Bool.false_or] at q
    exact of_decide_eq_true q
end
/-! ### exceptions' classes -/
def oexB (K : PySem.W.Frag) (C : Addr) : Bool := (match K.lookup C with
  | some ⟨t, _, .cls cd, sl⟩ => decide (t = .type "type") && cd.hasDict && !cd.hasDel && (match cd.mro with
    | .ref D :: bm => decide (D = C) && PySem.HandSPX.refsVE bm
    | _ => false) && (match sl.toList with
    | [_, _, _, _, some (.builtin n), _] => decide (n = "ValueError.__new__")
    | _ => false)
  | _ => false) && eqO (PySem.W.findIn K (.ref C) "__setattr__") (some (some (.builtin "object.__setattr__"))) && decide (PySem.W.subIn K (.ref C) (.type "BaseException") = some true) &&
  decide (PySem.W.typeIn K (.ref C) = some (.type "type")) && PySem.W.keepIn K (.ref C)
theorem oexB_of {K : PySem.W.Frag} {C : Addr} (h : oexB K C = true) : OexC K C := by
  unfold oexB at h
  obtain ⟨h, h5⟩ := bt h
  obtain ⟨h, h4⟩ := bt h
  obtain ⟨h, h3⟩ := bt h
  obtain ⟨h, h2⟩ := bt h
  refine ⟨?_, eqO_ok h2, of_decide_eq_true h3, of_decide_eq_true h4, h5⟩
  split at h
  · rename_i t od cd sl lk
    obtain ⟨h, g5⟩ := bt h
    obtain ⟨h, g4⟩ := bt h
    obtain ⟨h, g3⟩ := bt h
    obtain ⟨g1, g2⟩ := bt h
    obtain ⟨n1, n2, n3, n4, n5, n6, n7, n8, n9, n10, n11⟩ := cd
    dsimp only at g2 g3 g4
    have e1 := of_decide_eq_true g1
    subst e1
    split at g4
    · rename_i D bm _ _ _
      obtain ⟨q1, q2⟩ := bt g4
      have eD := of_decide_eq_true q1
      subst eD
      obtain ⟨l⟩ := sl
      dsimp only at g5
      split at g5
      · rename_i k0 k1 k2 k3 n k5
        have en := of_decide_eq_true g5
        subst en
        have e2 : n6 = true := g2
        have e3 : n11 = false := by simpa using g3
        subst e2; subst e3
        exact ⟨n1, n5, n4, n2, bm, n7, n8, n9, n10, od, k0, k1, k2, k3, k5, lk, q2⟩
      · cases g5
    · cases g4
  · cases h
end Mi
end

section
set_option maxRecDepth 100000
set_option maxHeartbeats 4000000
/-! Mi: defs and names as the written part has them; the Hook; the law. -/
namespace Mi
open PySem PySem.Spec L2 PyProof.Rows
open He (ga ma fAd eqO eqO_ok frG frG_in asD)
mutual
/-- a written value -/
def dVal (K : PySem.W.Frag) : D → Value → Bool
  | .non, v => decide (v = .none)
  | .bl b, v => decide (v = .bool b)
  | .int i, v => (match v with
    | .int j _ => decide (i = j)
    | _ => false)
  | .str x, v => (match v with
    | .str y _ => decide (x = y)
    | _ => false)
  | .tup l, v => (match v with
    | .ref a => (match K.lookup a with
      | some ⟨.type c, _, .seq its _, _⟩ => decide (c = "tuple") && decide (its.size ≤ sizeLine) && dVals K l its.toList
      | _ => false)
    | _ => false)
  | _, _ => false
def dVals (K : PySem.W.Frag) : List D → List Value → Bool
  | [], vs => vs.isEmpty
  | d :: ds, vs => (match vs with
    | v :: vs => dVal K d v && dVals K ds vs
    | [] => false)
end
mutual
theorem dVal_of {T : Tb} : ∀ {d : D} {v : Value}, dVal T.K d v = true → ∃ x, RelV x v ∧ ∀ w H, Rep T w H x d
  | .non, v, h => by
    have e := of_decide_eq_true (show decide (v = .none) = true from h)
    subst e; exact ⟨.non, rfl, fun _ _ => .non⟩
  | .bl b, v, h => by
    have e := of_decide_eq_true (show decide (v = .bool b) = true from h)
    subst e; exact ⟨.bl b, rfl, fun _ _ => .bl b⟩
  | .int i, v, h => by
    cases v <;> first | exact absurd (show false = true from h) Bool.false_ne_true | skip
    rename_i j tk
    have e := of_decide_eq_true (show decide (i = j) = true from h)
    subst e; exact ⟨.int i, ⟨tk, rfl⟩, fun _ _ => .int i⟩
  | .str i, v, h => by
    cases v <;> first | exact absurd (show false = true from h) Bool.false_ne_true | skip
    rename_i j tk
    have e := of_decide_eq_true (show decide (i = j) = true from h)
    subst e; exact ⟨.str i, ⟨tk, rfl⟩, fun _ _ => .str i⟩
  | .tup l, v, h => by
    simp only [dVal] at h
    split at h
    · rename_i a
      split at h
      · rename_i c od its n sl e
        obtain ⟨h, h3⟩ := bt h
        obtain ⟨h1, h2⟩ := bt h
        obtain ⟨xs, r, rr⟩ := dVals_of h3
        exact ⟨.ref a, rfl, fun w H => .tupK ⟨_, its, n, e, congrArg Value.type (of_decide_eq_true h1), rfl, of_decide_eq_true h2, r⟩ (rr w H)⟩
      · cases h
    · cases h
  | .lst _, v, h => by cases v <;> cases h
  | .obj _ _, v, h => by cases v <;> cases h
  | .cell _, v, h => by cases v <;> cases h
  | .fn _, v, h => by cases v <;> cases h
  | .cls _, v, h => by cases v <;> cases h
  | .ty _, v, h => by cases v <;> cases h
  | .scr _, v, h => by cases v <;> cases h
theorem dVals_of {T : Tb} : ∀ {ds : List D} {vs : List Value}, dVals T.K ds vs = true → ∃ xs, Vals xs vs ∧ ∀ w H, Reps T w H xs ds
  | [], vs, h => by
    cases vs with
    | nil => exact ⟨[], .nil, fun _ _ => .nil⟩
    | cons _ _ => cases h
  | d :: ds, vs, h => by
    cases vs with
    | nil => cases h
    | cons v vs =>
      obtain ⟨h1, h2⟩ := bt (show (dVal T.K d v && dVals T.K ds vs) = true from h)
      obtain ⟨x, r, rr⟩ := dVal_of h1
      obtain ⟨xs, rs, rrs⟩ := dVals_of h2
      exact ⟨x :: xs, .cons r rs, fun w H => .cons (rr w H) (rrs w H)⟩
end
/-! ### names -/
def gvB (t : Tab) (K : PySem.W.Frag) (x : Str) : GV → Bool
  | .fn f => eqO (PySem.W.nsIn K mainGlobals x) (some (some (.ref (fA t K f)))) && PySem.W.keepIn K (.ref (fA t K f))
  | .cls c => eqO (PySem.W.nsIn K mainGlobals x) (some (some (.ref (cA t K c)))) && PySem.W.keepIn K (.ref (cA t K c))
  | .val i => (match PySem.W.nsIn K mainGlobals x, t.P.gs[i]? with
    | some (some v), some d => dVal K d v
    | _, _ => false)
  | .bi id => eqO (PySem.W.nsIn K mainGlobals x) (some (some (.builtin id)))
  | .xcl c => eqO (PySem.W.nsIn K mainGlobals x) (some (some (.ref (xA t K c)))) && decide (c < t.P.xs.length)
def gsB (t : Tab) (K : PySem.W.Frag) : Bool := (t.C.gt.all fun p => gvB t K p.1 p.2) && t.C.nb.all fun x => eqO (PySem.W.nsIn K mainGlobals x) (some none)
/-! ### defs -/
def paB (p : Arguments) : Option (List Arg × List (Option Expr) × List Expr) := match p with
  | ⟨[], as, none, [], kwd, none, df⟩ => some (as, kwd, df)
  | _ => none
def scB (N ps : List Str) (sc : Scope) : Bool := (match sc.kind with | .function => true | _ => false) && !sc.isCoroutine && !sc.isGenerator && decide N.Nodup && decide (N.take ps.length = ps) && (ps.all fun x => locC sc x) && sc.names.all fun y => !decide (y.2 = .free)
theorem scB_of {N ps : List Str} {sc : Scope} (h : scB N ps sc = true) : FnScope N ps sc := by
  unfold scB at h
  obtain ⟨h, h7⟩ := bt h
  obtain ⟨h, h6⟩ := bt h
  obtain ⟨h, h5⟩ := bt h
  obtain ⟨h, h4⟩ := bt h
  obtain ⟨h, h3⟩ := bt h
  obtain ⟨h1, h2⟩ := bt h
  refine ⟨?_, by simpa using h2, by simpa using h3, of_decide_eq_true h4, of_decide_eq_true h5, fun x hx => ?_, fun y hy => ?_⟩
  · split at h1
    · assumption
    · cases h1
  · have q := List.all_eq_true.mp h6 x hx
    unfold locC at q
    cases e : sc.names.lookup x with
    | none => rw [e] at q; cases q
    | some kk => rw [e] at q; cases kk <;> first | exact .inl rfl | exact .inr rfl | cases q
  · have q := List.all_eq_true.mp h7 y hy
    simpa using q
/-- an exception's class -/
def xiB (t : Tab) (K : PySem.W.Frag) (C : Addr) (xi : XI) : Bool := match PySem.W.findIn K (.ref C) "__init__" with
  | some (some (.ref fI)) => decide (PySem.W.typeIn K (.ref fI) = some (.type "function")) && (match K.lookup fI with
    | some ⟨_, _, .func fd, _⟩ => (match paB fd.params, fd.body with
      | some (as, _, _), .stmts body => decide (fd.globals = mainGlobals) && fd.closure.isEmpty && decide (fd.builtins = builtinsNs) && PySem.W.codeIn K fd.code fd.qualname &&
        scB (as.map (·.arg)) (as.map (·.arg)) fd.scope && decide ((as.map (·.arg)).length = xi.flds.length + 1) && xbC t.C.nm (as.map (·.arg)) fd.scope 1 xi.flds (unDoc body) && decide (fd.defaults = .none)
      | _, _ => false)
    | _ => false)
  | _ => false
def xcB (t : Tab) (K : PySem.W.Frag) (x : Nat) (xi : XI) : Bool := xfB K (xA t K x) && oexB K (xA t K x) && (xi.flds.all fun f => nmAt t f fun n => eqO (PySem.W.findIn K (.ref (xA t K x)) n) (some none)) && xiB t K (xA t K x) xi
theorem xiB_of {t : Tab} {K : PySem.W.Frag} {C : Addr} {xi : XI} (h : xiB t K C xi = true) : ∃ (fI : Addr) (oc : Value) (od : Option Addr) (kV doc pm cdv ct : Value) (an : Option Addr) (osl : Array (Option Value)) (name qual : Str) (as : List Arg) (kwd : List (Option Expr)) (df : List Expr) (body : List Stmt) (scope : Scope) (ps N : List Str),
    PySem.W.findIn K (.ref C) "__init__" = some (some (.ref fI)) ∧ PySem.W.typeIn K (.ref fI) = some (.type "function") ∧
    K.lookup fI = some ⟨oc, od, .func (PySem.W.fnOf name qual { posonlyargs := [], args := as, vararg := none, kwonlyargs := [], kw_defaults := kwd, kwarg := none, defaults := df } body scope .none kV doc pm an cdv ct), osl⟩ ∧
    PySem.W.codeIn K cdv qual = true ∧ FnScope N ps scope ∧ as.map (·.arg) = ps ∧ ps.length = xi.flds.length + 1 ∧ xbC t.C.nm N scope 1 xi.flds (unDoc body) = true := by
  unfold xiB at h
  split at h
  · rename_i fI e0
    obtain ⟨h0, h⟩ := bt h
    split at h
    · rename_i oc od fd osl lk
      obtain ⟨n1, n2, n3, n4, n5, n6, n7, n8, n9, n10, n11, n12, n13, n14, n15⟩ := fd
      split at h
      · rename_i as kwd df body e1 e2
        dsimp only at e1 e2 h
        obtain ⟨h, q8⟩ := bt h
        obtain ⟨h, q7⟩ := bt h
        obtain ⟨h, q6⟩ := bt h
        obtain ⟨h, q5⟩ := bt h
        obtain ⟨h, q4⟩ := bt h
        obtain ⟨h, q3⟩ := bt h
        obtain ⟨q1, q2⟩ := bt h
        have e3 := of_decide_eq_true q1
        have e4 := of_decide_eq_true q3
        have e8 := of_decide_eq_true q8
        have e5 : n7 = [] := by cases n7 with
          | nil => rfl
          | cons _ _ => cases q2
        have e6 : n3 = { posonlyargs := [], args := as, vararg := none, kwonlyargs := [], kw_defaults := kwd, kwarg := none, defaults := df } := by
          unfold paB at e1
          split at e1
          · cases e1; rfl
          · cases e1
        subst e3 e4 e5 e6 e2 e8
        exact ⟨fI, oc, od, n9, n10, n11, n13, n14, n12, osl, n1, n2, as, kwd, df, body, n5, _, _, e0, of_decide_eq_true h0, lk, q4, scB_of q5, rfl, of_decide_eq_true q6, q7⟩
      · cases h
    · cases h
  · cases h
theorem xcB_of {t : Tab} {K : PySem.W.Frag} {x : Nat} {xi : XI} (h : xcB t K x xi = true) : XcK (t.tb K) x xi := by
  obtain ⟨h, h4⟩ := bt h
  obtain ⟨h, h3⟩ := bt h
  obtain ⟨h1, h2⟩ := bt h
  refine ⟨xfB_ok h1, oexB_of h2, fun f hf => ?_, xiB_of h4⟩
  obtain ⟨n, e, q⟩ := nmAt_of (List.all_eq_true.mp h3 f hf)
  exact ⟨n, e, eqO_ok q⟩
/-- a hearer -/
def hkB (t : Tab) (K : PySem.W.Frag) (h : HI) : Bool := match K.lookup (fA t K h.fn) with
  | some ⟨_, _, .func fd, _⟩ => (match paB fd.params, fd.body with
    | some ([a], _, _), .stmts body => decide (fd.globals = mainGlobals) && fd.closure.isEmpty && decide (fd.builtins = builtinsNs) && PySem.W.codeIn K fd.code fd.qualname && decide (fd.qualname = h.nm) && decide (fd.name = h.nm) &&
      scB (t.N.getD h.fn []) [a.arg] fd.scope && visC fd.scope a.arg && okN a.arg && hearC t.C.off (t.N.getD h.fn []) fd.scope h (unDoc body) && decide (fd.defaults = .none)
    | _, _ => false)
  | _ => false
theorem hkB_of {t : Tab} {K : PySem.W.Frag} {hh : HI} (h : hkB t K hh = true) : HearK (t.tb K) t.C.off hh := by
  unfold hkB at h
  split at h
  · rename_i oc od fd osl lk
    obtain ⟨n1, n2, n3, n4, n5, n6, n7, n8, n9, n10, n11, n12, n13, n14, n15⟩ := fd
    split at h
    · rename_i a kwd df body e1 e2
      dsimp only at e1 e2 h
      obtain ⟨h, q11⟩ := bt h
      obtain ⟨h, q10⟩ := bt h
      obtain ⟨h, q9⟩ := bt h
      obtain ⟨h, q8⟩ := bt h
      obtain ⟨h, q7⟩ := bt h
      obtain ⟨h, q6⟩ := bt h
      obtain ⟨h, q5⟩ := bt h
      obtain ⟨h, q4⟩ := bt h
      obtain ⟨h, q3⟩ := bt h
      obtain ⟨q1, q2⟩ := bt h
      have e3 := of_decide_eq_true q1
      have e4 := of_decide_eq_true q3
      have e8 := of_decide_eq_true q11
      have e9 := of_decide_eq_true q5
      have e10 := of_decide_eq_true q6
      have e5 : n7 = [] := by cases n7 with
        | nil => rfl
        | cons _ _ => cases q2
      have e6 : n3 = { posonlyargs := [], args := [a], vararg := none, kwonlyargs := [], kw_defaults := kwd, kwarg := none, defaults := df } := by
        unfold paB at e1
        split at e1
        · cases e1; rfl
        · cases e1
      subst e3 e4 e5 e6 e2 e8
      rw [e9] at lk q4
      rw [e10] at lk
      exact ⟨oc, od, n9, n10, n11, n13, n14, n12, osl, [a], kwd, df, body, n5, a.arg, t.N.getD hh.fn [], lk, q4, scB_of q7, rfl, q8, q9, q10⟩
    · cases h
  · cases h
def exB (t : Tab) (K : PySem.W.Frag) : Bool := ((List.range t.P.xs.length).all fun x => match t.P.xs[x]? with
  | some xi => xcB t K x xi && (List.range t.P.xs.length).all fun y => decide (PySem.W.exmOne K (.ref (xA t K x)) (.ref (xA t K y)) = some (xi.anc.contains y))
  | none => false) && t.P.hi.all (hkB t K) && (List.range t.C.pns.length).all fun f => decide ((t.tb K).pn f = t.C.pns.getD f [])
theorem gs_of {t : Tab} {K : PySem.W.Frag} {h : Heap} {mg : Str → Option Value} (X : K.In h) (G : h.Ns mainGlobals mg) (hb : gsB t K = true) (hx : exB t K = true) : GsOk (t.tb K) t.P t.C mg := by
  obtain ⟨h1, h2⟩ := bt hb
  obtain ⟨hx, x3⟩ := bt hx
  obtain ⟨x1, x2⟩ := bt hx
  have xq : ∀ (x : Nat) (xi : XI), t.P.xs[x]? = some xi → xcB t K x xi = true ∧ ∀ y, y < t.P.xs.length → PySem.W.exmOne K (.ref (xA t K x)) (.ref (xA t K y)) = some (xi.anc.contains y) := fun x xi e => by
    have q := List.all_eq_true.mp x1 x (List.mem_range.mpr (List.getElem?_eq_some_iff.mp e).1)
    rw [e] at q
    obtain ⟨q1, q2⟩ := bt q
    exact ⟨q1, fun y hy => of_decide_eq_true (List.all_eq_true.mp q2 y (List.mem_range.mpr hy))⟩
  refine ⟨rfl, fun x g hg => ?_, fun x hx => ?_, fun x xi e => xcB_of (xq x xi e).1, fun x y xi e hy => (xq x xi e).2 y hy, fun f l e => ?_, fun i h e => hkB_of (List.all_eq_true.mp x2 h (List.mem_of_getElem? e))⟩
  · have q := List.all_eq_true.mp h1 _ (look_mem hg)
    cases g with
    | fn f =>
      obtain ⟨q1, q2⟩ := bt q
      exact ⟨PySem.W.mg_of X G (eqO_ok q1), q2⟩
    | cls c =>
      obtain ⟨q1, q2⟩ := bt q
      exact ⟨PySem.W.mg_of X G (eqO_ok q1), q2⟩
    | xcl c =>
      obtain ⟨q1, q2⟩ := bt q
      exact ⟨PySem.W.mg_of X G (eqO_ok q1), of_decide_eq_true q2⟩
    | val i =>
      simp only [gvB] at q
      split at q
      · rename_i v d e1 e2
        obtain ⟨y, r, rr⟩ := dVal_of (T := t.tb K) q
        exact ⟨y, v, d, PySem.W.mg_of X G e1, r, e2, rr⟩
      · cases q
    | bi id => exact PySem.W.mg_of X G (eqO_ok q)
  · have q := List.all_eq_true.mp h2 x (by simpa using hx)
    exact PySem.W.mg_none_of X G (eqO_ok q)
  · have q := of_decide_eq_true (List.all_eq_true.mp x3 f (List.mem_range.mpr (List.getElem?_eq_some_iff.mp e).1))
    rw [q, List.getD_eq_getElem?_getD, e]; rfl
/-! ### who makes lambdas -/
def lamB (t : Tab) (K : PySem.W.Frag) (f : Nat) : Bool := match K.lookup (fA t K f) with
  | some ⟨_, _, .func fd, _⟩ => decide (fd.code = .ref (codeAd K (fA t K f)))
  | _ => false
def lmsB (t : Tab) (K : PySem.W.Frag) : Bool := decide (((t.tb K).tbs.map (·.1)).Nodup) && t.lams.all fun f => lamB t K f && PySem.W.codeHdIn K (codeAd K (fA t K f)) (tabAd K (codeAd K (fA t K f))) && (K.lookup (tabAd K (codeAd K (fA t K f)))).isNone
theorem nodup_fst {l : List (Addr × Str)} (h : (l.map (·.1)).Nodup) {p q : Addr × Str} (hp : p ∈ l) (hq : q ∈ l) (e : p.1 = q.1) : p = q := by
  induction l with
  | nil => cases hp
  | cons a l ih =>
    obtain ⟨h1, h2⟩ := List.nodup_cons.mp h
    rcases List.mem_cons.mp hp with z | z <;> rcases List.mem_cons.mp hq with y | y
    · rw [z, y]
    · exact absurd (List.mem_map.mpr ⟨q, y, by rw [← e, z]⟩) h1
    · exact absurd (List.mem_map.mpr ⟨p, z, by rw [e, y]⟩) h1
    · exact ih h2 z y
theorem lamF_of {t : Tab} {K : PySem.W.Frag} (h : lmsB t K = true) {f : Nat} (hf : t.lams.contains f = true) {cdv : Value} {qual : Str} (hc : cdv = .ref (codeAd K (fA t K f))) (hq : qual = qualAd K (fA t K f)) : LamF (t.tb K) cdv qual := by
  obtain ⟨h1, h2⟩ := bt h
  have hm : f ∈ t.lams := by simpa using hf
  have ht : (tabAd K (codeAd K (fA t K f)), (qual ++ ".<locals>.") ++ "<lambda>") ∈ (t.tb K).tbs := List.mem_map.mpr ⟨f, hm, by rw [hq]; rfl⟩
  exact ⟨_, _, hc, List.mem_map.mpr ⟨f, hm, rfl⟩, ht, fun p hp e => congrArg Prod.snd (nodup_fst (of_decide_eq_true h1) hp ht e)⟩
def fkB (t : Tab) (K : PySem.W.Frag) (f : Nat) (fi : FI) : Bool := match K.lookup (fA t K f) with
  | some ⟨_, _, .func fd, _⟩ => (match paB fd.params, fd.body with
    | some (as, _, _), .stmts body => decide (fd.globals = mainGlobals) && fd.closure.isEmpty && decide (fd.builtins = builtinsNs) && PySem.W.codeIn K fd.code fd.qualname &&
      scB (t.N.getD f []) (as.map (·.arg)) fd.scope && decide ((as.map (·.arg)).length = fi.np) && decide ((t.N.getD f []).length = fi.ns) && ckSs t.P (t.C.on (t.lams.contains f)) (t.N.getD f []) fd.scope fi.body body && (!t.lams.contains f || lamB t K f) && decide (fi.dfl.length ≤ fi.np) &&
      (match fd.defaults with
      | .none => fi.dfl.isEmpty
      | .ref a => (match K.lookup a with
        | some ⟨_, _, .seq its _, _⟩ => dVals K fi.dfl its.toList
        | _ => false)
      | _ => false)
    | _, _ => false)
  | _ => false
def fksB (t : Tab) (K : PySem.W.Frag) : Bool := (List.range t.P.fs.length).all fun f => match t.P.fs[f]? with
  | some fi => fkB t K f fi
  | none => false
theorem fk_ofN {t : Tab} {K : PySem.W.Frag} (h : fksB t K = true) (hL : lmsB t K = true) : ∀ f fi, t.P.fs[f]? = some fi → FKN (t.tb K) t.P t.C f fi (t.N.getD f []) := by
  intro f fi hf
  have hl : f < t.P.fs.length := (List.getElem?_eq_some_iff.mp hf).1
  have q := List.all_eq_true.mp h f (List.mem_range.mpr hl)
  rw [hf] at q
  have q : fkB t K f fi = true := q
  unfold fkB at q
  split at q
  · rename_i oc od fd osl lk
    obtain ⟨n1, n2, n3, n4, n5, n6, n7, n8, n9, n10, n11, n12, n13, n14, n15⟩ := fd
    split at q
    · rename_i as kwd df body e1 e2
      dsimp only at e1 e2 q
      obtain ⟨q, q10⟩ := bt q
      obtain ⟨q, q9⟩ := bt q
      obtain ⟨q, q11⟩ := bt q
      obtain ⟨q, q8⟩ := bt q
      obtain ⟨q, q7⟩ := bt q
      obtain ⟨q, q6⟩ := bt q
      obtain ⟨q, q5⟩ := bt q
      obtain ⟨q, q4⟩ := bt q
      obtain ⟨q, q3⟩ := bt q
      obtain ⟨q1, q2⟩ := bt q
      have e3 := of_decide_eq_true q1
      have e4 := of_decide_eq_true q3
      have e5 : n7 = [] := by cases n7 with
        | nil => rfl
        | cons _ _ => cases q2
      have e6 : n3 = { posonlyargs := [], args := as, vararg := none, kwonlyargs := [], kw_defaults := kwd, kwarg := none, defaults := df } := by
        unfold paB at e1
        split at e1
        · cases e1; rfl
        · cases e1
      subst e3 e4 e5 e6 e2
      refine ⟨oc, od, n8, n9, n10, n11, n13, n14, n12, osl, n1, n2, as, kwd, df, body, n5, as.map (·.arg), lk, q4, scB_of q5, of_decide_eq_true q6, of_decide_eq_true q7, ⟨t.lams.contains f, q8, fun hb => lamF_of hL hb ?_ ?_⟩, rfl, ?_, of_decide_eq_true q9, ?_⟩
      · rw [hb] at q11
        have q11 : lamB t K f = true := by simpa using q11
        unfold lamB at q11
        rw [lk] at q11
        exact of_decide_eq_true q11
      · unfold qualAd
        rw [lk]
      · show _ = parAd K (fAd0 t K f)
        unfold parAd
        rw [show K.lookup (fAd0 t K f) = _ from lk]
      cases n8 with
      | none => exact .inl ⟨rfl, by simpa using q10⟩
      | ref aa =>
        dsimp only at q10
        cases e7 : K.lookup aa with
        | none => rw [e7] at q10; cases q10
        | some ob =>
          rw [e7] at q10
          obtain ⟨c1, d1, dt, s1⟩ := ob
          cases dt with
          | seq its m =>
            obtain ⟨xs, r, rr⟩ := dVals_of (T := t.tb K) (show dVals K fi.dfl its.toList = true from q10)
            exact .inr ⟨aa, _, its, m, xs, rfl, e7, rfl, r, rr⟩
          | _ => cases q10
      | _ => cases q10
    · cases q
  · cases q
theorem fk_of {t : Tab} {K : PySem.W.Frag} (h : fksB t K = true) (hl : lmsB t K = true) : ∀ f fi, t.P.fs[f]? = some fi → FKOk (t.tb K) t.P t.C f fi := fun f fi hf => ⟨_, fk_ofN h hl f fi hf⟩
/-! ### the Hook, the law -/
def noDfl (t : Tab) (K : PySem.W.Frag) (f : Nat) : Bool := match K.lookup (fA t K f) with
  | some ⟨_, _, .func fd, _⟩ => decide (fd.defaults = .none)
  | _ => false
def chk (t : Tab) (law : Str) (f : Nat) (K : PySem.W.Frag) : Bool := noDfl t K f && koB t K && gsB t K && exB t K && lmsB t K && fksB t K && eqO (PySem.W.nsIn K mainGlobals law) (some (some (.ref (fA t K f))))
def clsNs (g : Addr → Option Obj) (C : Addr) : List Addr := match g C with
  | some ⟨_, _, .cls cd, _⟩ => [cd.ns]
  | _ => []
def seqMore (g : Addr → Option Obj) (a : Addr) : List Addr := match g a with
  | some ⟨_, _, .seq its _, _⟩ => its.toList.flatMap He.refV
  | _ => []
def fnMore (g : Addr → Option Obj) (f : Addr) : List Addr := match g f with
  | some ⟨_, _, .func fd, _⟩ => He.refV fd.code ++ (He.refV fd.defaults ++ (He.refV fd.defaults).flatMap (seqMore g))
  | _ => []
def adr1 (t : Tab) (g : Addr → Option Obj) (K0 : PySem.W.Frag) : List Addr := let cl := (t.cns ++ (t.xns ++ t.xbs)).map fun c => ga K0 c
  mainGlobals :: cStatics :: (cl ++ cl.flatMap (clsNs g))
def adrV (t : Tab) (g : Addr → Option Obj) (K0 : PySem.W.Frag) : List Addr := let vs := t.C.gt.flatMap fun p => match p.2 with
    | .val _ => [ga K0 p.1]
    | _ => []
  vs ++ vs.flatMap (seqMore g)
def adr2 (t : Tab) (K1 : PySem.W.Frag) : List Addr := t.srcs.map fun s => fAd K1 s.at_
def adr3 (t : Tab) (g : Addr → Option Obj) (K2 : PySem.W.Frag) : List Addr := let fs := t.srcs.map (srcA K2)
  fs ++ fs.flatMap (fnMore g)
/-- the exceptions' own __init__ -/
def adrX (t : Tab) (g : Addr → Option Obj) (K2 : PySem.W.Frag) : List Addr := let fs := t.xns.flatMap fun c => match PySem.W.findIn K2 (.ref (ga K2 c)) "__init__" with
    | some (some (.ref f)) => [f]
    | _ => []
  fs ++ fs.flatMap (fnMore g)
/-- the addresses that the table's checks read -/
def adrs (t : Tab) (g : Addr → Option Obj) : List Addr :=
  let K0 := frG g [mainGlobals]
  let a1 := adr1 t g K0
  let a2 := a1 ++ adr2 t (frG g a1)
  let K2 := frG g a2
  a2 ++ (adr3 t g K2 ++ (adrX t g K2 ++ adrV t g K0))
/-- .. the lambdas' tables -/
def tabL (t : Tab) (K : PySem.W.Frag) : List Addr := (t.tb K).cs.map (·.2)
def emptyT (o : Option Obj) : Bool := match o with
  | some ⟨.none, none, .fields a, s⟩ => a.isEmpty && s.isEmpty
  | _ => false
def tabsB (t : Tab) (K K2 : PySem.W.Frag) : Bool := (tabL t K).all fun P => emptyT (K2.lookup P)
theorem emptyT_of {o : Option Obj} (h : emptyT o = true) : o = some { cls := .none, data := .fields #[] } := by
  unfold emptyT at h
  split at h
  · rename_i a s
    obtain ⟨h1, h2⟩ := bt h
    have e1 : a = #[] := by simpa using h1
    have e2 : s = #[] := by simpa using h2
    subst e1; subst e2; rfl
  · cases h
def hook (t : Tab) (law : Str) (f n : Nat) : PySem.W.Hook where
  α := Bool
  obs := fun s => let K := frG s.heap.get? (adrs t s.heap.get?); chk t law f K && tabsB t K (frG s.heap.get? (tabL t K))
  val := fun _ => true
  says := fun _ h => ∃ K K2 : PySem.W.Frag, K.In h ∧ K2.In h ∧ (chk t law f K && tabsB t K K2) = true
  of := fun _ _ e => ⟨_, _, frG_in, frG_in, e⟩
  keeps := fun _ _ _ ⟨K, K2, hK, hK2, c⟩ k => ⟨K, K2, PySem.W.Frag.In.keeps hK k, PySem.W.Frag.In.keeps hK2 k, c⟩
def obG (t : Tab) (law : Str) (f n : Nat) (s : PySem.W.SharedT) : Bool := let K := frG (HandSHeadRun.getT s) (adrs t (HandSHeadRun.getT s)); chk t law f K && tabsB t K (frG (HandSHeadRun.getT s) (tabL t K))
theorem obG_eq (t : Tab) (law : Str) (f n : Nat) (s : PySem.W.SharedT) : obG t law f n s = (hook t law f n).obs s.abs := by
  have e : HandSHeadRun.getT s = s.abs.heap.get? := funext fun a => HandSHeadRun.getT_eq s a
  unfold obG
  rw [e]; rfl
def E00 : XK := fun _ _ _ => False
/-- the law: its one def run on the script -/
theorem law_facts {t : Tab} {law : Str} {f : Nat} {fi : FI} {k n : Nat} {l : PySem.W.OpenLaw} {w : World} {h : Heap} {mg : Str → Option Value} {fa : Addr} {x : Str} (hfi : t.P.fs[f]? = some fi) (hnp : fi.np = 1) (hN : (t.N.getD f []).take 1 = [x])
    (main : ∀ ns : List Int, ns.length ≤ n → ∃ S', run t.P (k + 1) (.fn f [.scr (ns.map .int)]) [] = .ok (.bl true) S')
    (Y : (hook t law f 0).says w h ∨ ∃ m, (hook t law f m).says w h) (G : h.Ns mainGlobals mg) (hm : mg law = some (.ref fa)) :
    ∃ K : PySem.W.Frag, K.In h ∧ LamX.LawAtS l w K CX0 (k + 1) n x mg fa h := by
  have Y' : ∃ K K2 : PySem.W.Frag, K.In h ∧ K2.In h ∧ (chk t law f K && tabsB t K K2) = true := Y.elim id fun ⟨_, z⟩ => z
  obtain ⟨K, K2, KX, KX2, c⟩ := Y'
  obtain ⟨c, cT⟩ := bt c
  obtain ⟨c, c4⟩ := bt c
  obtain ⟨c, c3⟩ := bt c
  obtain ⟨c, c6⟩ := bt c
  obtain ⟨c, c5⟩ := bt c
  obtain ⟨c, c2⟩ := bt c
  obtain ⟨c0, c1⟩ := bt c
  have ko := ko_of c1
  have gs := gs_of KX G c2 c5
  have fk := fk_of c3 c6
  have hfa : fa = (t.tb K).fa f := by
    have := PySem.W.mg_of KX G (eqO_ok c4)
    rw [hm] at this
    exact Value.ref.inj (Option.some.inj this)
  subst hfa
  obtain ⟨oc, od, dV, kV, doc, pm, cdv, ct, an, osl, name, qual, as, kwd, df, body, scope, ps, lk, hcd, S, hp, hNl, ⟨bl, ck, hlm⟩, hps, hpn, hdl, hdf⟩ := fk_ofN c3 c6 f fi hfi
  have hps1 : ps = [x] := by
    have := S.pre
    rw [hp, hnp, hN] at this
    exact this.symm
  subst hps1
  have csm : ∀ p ∈ (t.tb K).cs, PySem.W.codeHdIn K p.1 p.2 = true ∧ K.lookup p.2 = none := fun p hp => by
    obtain ⟨g, hg, e⟩ := List.mem_map.mp hp
    obtain ⟨_, q⟩ := bt c6
    have q := List.all_eq_true.mp q g hg
    obtain ⟨q, q3⟩ := bt q
    obtain ⟨q1, q2⟩ := bt q
    rw [← e]
    exact ⟨q2, Option.isNone_iff_eq_none.mp q3⟩
  refine ⟨K, KX, PySem.W.fnOf name qual { posonlyargs := [], args := as, vararg := none, kwonlyargs := [], kw_defaults := kwd, kwarg := none, defaults := df } body scope dV kV doc pm an cdv ct, (t.tb K).cs, fun vs H Q E => spF1 (t.tb K) t.P (k + 1) f fi.np vs H Q E00, fun p hp => ?_, fun p hp => (csm p hp).2, fun p hp => PySem.W.codeHd_of_K KX (csm p hp).1, fun s u => ?_, fun H a ns hl hbits hT hS => ?_, fun base hKb hG hTB => ?_⟩
  · have q := List.all_eq_true.mp cT p.2 (List.mem_map.mpr ⟨p, hp, rfl⟩)
    exact KX2 _ _ (emptyT_of q)
  · have hd : dV = .none := by
      unfold noDfl at c0
      have lk' : K.lookup (fA t K f) = _ := lk
      rw [lk'] at c0
      exact of_decide_eq_true c0
    obtain ⟨kk, b1, _, b3⟩ := bind_gen (fd := PySem.W.fnOf name qual { posonlyargs := [], args := as, vararg := none, kwonlyargs := [], kw_defaults := kwd, kwarg := none, defaults := df } body scope dV kV doc pm an cdv ct) rfl hps (by simp) [u] [] (by simp) (by simp) (by simp)
    refine BindsTo.of_eq ?_
    rw [b1]
    have b3 := b3 rfl
    show (seqItems? dV >>= kk) = _
    rw [hd]
    show (pure none >>= kk) = _
    rw [pure_bind]
    exact b3
  · obtain ⟨S', hr⟩ := main ns hl
    have hsc : Scr (t.tb K).K ⟨[], [], none⟩ H a (ns.map V.int) := by
      have fz : Fz ⟨[], [], none⟩ a := ⟨fun n h => by simp at h, by simp, fun z => nomatch z⟩
      rcases hS with (hS | ⟨o, hS⟩) | hS
      · exact .inl ⟨⟨_, hS, .inl rfl⟩, fz⟩
      · exact .inl ⟨⟨_, hS, .inr ⟨o, rfl⟩⟩, fz⟩
      · exact .inr hS
    have hin : ∀ ns : List Int, Reps (t.tb K) ⟨[], [], none⟩ H (ns.map V.int) (ns.map D.int) := by
      intro ns
      induction ns with
      | nil => exact .nil
      | cons i ns ih => exact .cons (.int i) ih
    have htb : LamX.Tabs (t.tb K).tbs H := fun p hp => by
      obtain ⟨g, hg, e⟩ := List.mem_map.mp hp
      rw [← e]
      exact LamX.TabS.nil (hT (codeAd K (fAd0 t K g), tabAd K (codeAd K (fAd0 t K g))) (List.mem_map.mpr ⟨g, hg, rfl⟩))
    refine ⟨⟨[], [], none⟩, [], [.scr (ns.map D.int)], rfl, ⟨rfl, fun n c h => by simp at h, fun n m a h => by simp at h, fun n a h => by simp at h, fun a h => by simp at h, (fun a h => nomatch h), htb⟩, .cons (.scr hsc (hin ns)) .nil, by rw [hnp]; rfl, ?_⟩
    unfold PostF
    rw [hr]
    intro v w' H' e r st
    cases r
    rfl
  · obtain ⟨lv, low⟩ := lv_all (prog := l.prog) (wd := w) (base := base) ko gs hTB fk k
    have F : FnOk l.prog w (t.tb K).K mg base (CX l.prog w) (k + 1) ((t.tb K).fa f) _ [x] (spF1 (t.tb K) t.P (k + 1) f fi.np) := fn_of lk hcd S (fun vs H Q E h => by obtain ⟨w, S0, ds, _, _, rs, hl, _⟩ := h; rw [rs.length, hl, hnp]; rfl) (fun A outer s H vs Q E hr h => fn_body ko gs hTB lv (fun j h => low j (by omega)) (fun j h => low j (by omega)) low hfi S hp hNl ck hlm hr h)
    refine ⟨fun vs H Q E h => F.len vs H Q E00 h, fun A outer s H args us vs Q E hr e0 hb r h => codeAny_mono (F.run A outer s H args us vs Q E00 hr e0 hb r h) fun r s' hq => ?_⟩
    cases r with
    | error e =>
      obtain ⟨a, B, H', cls, d, rfl, fl, hok, ub, na, os, ag, hE⟩ := hq
      exact hE.elim
    | ok fl =>
      cases fl with
      | ret u => exact hq
      | next => exact False.elim hq
      | brk => exact False.elim hq
      | cont => exact False.elim hq
end Mi
end

section
set_option maxRecDepth 100000
set_option maxHeartbeats 4000000
namespace K14
open PySem Mi
/-- law -/
def b_law : MSs := (.cons (.asg (.slot 1) (.call 1 (.cons (.var 0) .nil))) (.cons (.forr (.slot 2) (.rng1 (.con (.int (2)))) (.cons (.asg (.slot 3) (.call 2 (.cons (.var 1) .nil))) (.cons (.asg (.slot 4) (.new 0 (.cons (.new 1 (.cons (.idx (.var 3) (.con (.int (0)))) (.cons (.idx (.var 3) (.con (.int (1)))) .nil))) (.cons (.new 1 (.cons (.idx (.var 3) (.con (.int (2)))) (.cons (.idx (.var 3) (.con (.int (3)))) .nil))) .nil)))) (.cons (.forr (.slot 5) (.rng1 (.con (.int (3)))) (.cons (.ife (.or (.not (.call 4 (.cons (.var 1) (.cons (.var 3) (.cons (.var 4) .nil))))) (.one (.not (.call 3 (.cons (.var 1) (.cons (.var 3) (.cons (.var 4) .nil))))))) (.cons (.ret (.con (.bl false))) .nil) .nil) .nil)) (.cons (.ife (.or (.not (.call 6 (.cons (.var 1) (.cons (.var 3) (.cons (.var 4) .nil))))) (.one (.not (.call 5 (.cons (.var 1) (.cons (.var 4) .nil)))))) (.cons (.ret (.con (.bl false))) .nil) .nil) .nil))))) (.cons (.ret (.con (.bl true))) .nil)))
/-- _law_purse -/
def b__law_purse : MSs := (.cons (.ret (.lst true (.cons (.comp (.bi .int (.cons (.var 1) .nil)) (.slot 1) [1] (.ex (.slice (.var 0) .none (.some (.con (.int (62)))))) .none) (.cons (.con (.int (0))) (.cons (.con (.int (0))) .nil))))) .nil)
/-- _law_stem -/
def b__law_stem : MSs := (.cons (.par [3, 4] (.cons (.bin .add (.con (.int (1))) (.call 7 (.cons (.var 0) (.cons (.con (.int (40))) .nil)))) (.cons (.bin .add (.con (.int (1))) (.call 7 (.cons (.var 0) (.cons (.con (.int (40))) .nil)))) .nil))) (.cons (.asg (.slot 1) (.bin .sub (.call 7 (.cons (.var 0) (.cons (.bin .add (.bin .mul (.con (.int (6))) (.var 3)) (.con (.int (1)))) .nil))) (.bin .mul (.con (.int (3))) (.var 3)))) (.cons (.asg (.slot 2) (.bin .add (.bin .fdiv (.bin .mul (.bin .mul (.var 4) (.var 1)) (.var 1)) (.bin .mul (.var 3) (.var 3))) (.con (.int (1))))) (.cons (.ret (.lst false (.cons (.var 1) (.cons (.var 3) (.cons (.bin .add (.var 2) (.call 8 (.cons (.var 0) (.cons (.lst false (.cons (.con (.int (0))) (.cons (.con (.int (1))) (.cons (.con (.int (2))) (.cons (.call 7 (.cons (.var 0) (.cons (.con (.int (9))) .nil))) (.cons (.call 7 (.cons (.var 0) (.cons (.con (.int (60))) .nil))) (.cons (.con (.int (1000))) .nil))))))) .nil)))) (.cons (.var 4) .nil)))))) .nil))))
/-- _law_within_right -/
def b__law_within_right : MSs := (.cons (.par [6, 7] (.cons (.idx (.var 1) (.con (.int (0)))) (.cons (.idx (.var 1) (.con (.int (1)))) .nil))) (.cons (.asg (.cons (.slot 8) (.cons (.slot 9) (.cons (.slot 10) .nil))) (.call 9 (.cons (.var 0) (.cons (.var 6) (.cons (.var 7) .nil))))) (.cons (.asg (.slot 3) (.call 8 (.cons (.var 0) (.cons (.lst false (.cons (.con (.int (60))) (.cons (.var 7) (.cons (.con (.int (1))) (.cons (.bin .add (.con (.int (1))) (.call 7 (.cons (.var 0) (.cons (.con (.int (60))) .nil)))) (.cons (.bin .add (.con (.int (1))) (.call 7 (.cons (.var 0) (.cons (.con (.int (60))) .nil)))) (.cons (.con (.int (1000))) .nil))))))) .nil)))) (.cons (.asg (.slot 4) (.kcall 10 (.cons (.var 2) (.cons (.new 1 (.cons (.var 8) (.cons (.var 10) .nil))) .nil)) (.cons (.new 1 (.cons (.var 9) (.cons (.var 10) .nil))) (.cons (.var 3) .nil)))) (.cons (.ife (.or (.cmp .ne (.var 4) (.call 11 (.cons (.var 6) (.cons (.var 7) (.cons (.var 8) (.cons (.var 9) (.cons (.var 10) (.cons (.var 3) .nil)))))))) (.one (.cmp .is (.var 4) (.con (.bl true))))) (.cons (.ret (.con (.bl false))) .nil) .nil) (.cons (.asg (.slot 5) (.kcall 10 .nil (.cons (.var 2) (.cons (.con (.int (0))) (.cons (.con (.int (0))) (.cons (.var 3) .nil)))))) (.cons (.ret (.cmp .eq (.var 5) (.call 11 (.cons (.var 6) (.cons (.var 7) (.cons (.con (.int (0))) (.cons (.con (.int (0))) (.cons (.con (.int (1))) (.cons (.var 3) .nil))))))))) .nil)))))))
/-- _law_pair_right -/
def b__law_pair_right : MSs := (.cons (.par [7, 8] (.cons (.idx (.var 1) (.con (.int (0)))) (.cons (.idx (.var 1) (.con (.int (1)))) .nil))) (.cons (.asg (.slot 3) (.call 8 (.cons (.var 0) (.cons (.lst false (.cons (.con (.int (9))) (.cons (.con (.int (60))) (.cons (.con (.int (10000))) .nil)))) .nil)))) (.cons (.par [9, 10] (.cons (.bin .sub (.call 7 (.cons (.var 0) (.cons (.bin .add (.bin .mul (.con (.int (2))) (.var 3)) (.con (.int (1)))) .nil))) (.var 3)) (.cons (.bin .sub (.call 7 (.cons (.var 0) (.cons (.bin .add (.bin .mul (.con (.int (2))) (.var 3)) (.con (.int (1)))) .nil))) (.var 3)) .nil))) (.cons (.asg (.slot 4) (.ife (.cmp .eq (.call 7 (.cons (.var 0) (.cons (.con (.int (2))) .nil))) (.con (.int (0)))) (.bin .add (.var 9) (.var 10)) (.bin .add (.var 9) (.bin .mul (.var 8) (.bin .sub (.bin .mod (.bi .int (.cons (.var 10) .nil)) (.con (.int (41)))) (.con (.int (20)))))))) (.cons (.asg (.slot 5) (.ife (.cmp .eq (.var 7) (.con (.int (0)))) (.con (.int (1))) (.call 12 (.cons (.bi .abs (.cons (.var 7) .nil)) (.cons (.var 8) .nil))))) (.cons (.asg (.slot 6) (.ife (.cmp .ne (.var 7) (.con (.int (0)))) (.bin .fdiv (.var 8) (.var 5)) (.con (.int (1))))) (.cons (.ret (.cmp .eq (.cmp .eq (.call 13 (.cons (.var 2) (.cons (.var 9) .nil))) (.call 13 (.cons (.var 2) (.cons (.var 4) .nil)))) (.cmp .eq (.bin .mod (.bi .int (.cons (.bin .sub (.var 9) (.var 4)) .nil)) (.var 6)) (.con (.int (0)))))) .nil)))))))
/-- _law_refused_right -/
def b__law_refused_right : MSs := (.cons (.asg (.cons (.slot 4) (.cons (.slot 5) .nil)) (.tup (.cons (.call 8 (.cons (.var 0) (.cons (.lst false (.cons (.con .non) (.cons (.con (.str "1/2 1")) (.cons (.con (.int (3))) (.cons (.tup (.cons (.con (.int (1))) (.cons (.con (.int (2))) .nil))) (.cons (.attr (.var 1) 0) .nil)))))) .nil))) (.cons (.call 8 (.cons (.var 0) (.cons (.lst false (.cons (.con .non) (.cons (.con (.bl true)) (.cons (.con (.str "0")) (.cons (.neg (.con (.int (1)))) (.cons (.con (.int (1))) (.cons (.new 1 (.cons (.neg (.con (.int (1)))) (.cons (.con (.int (9))) .nil))) (.cons (.new 1 (.cons (.con (.int (9))) (.cons (.con (.int (8))) .nil))) (.cons (.lst false (.cons (.con (.int (0))) .nil)) .nil))))))))) .nil))) .nil)))) (.cons (.asg (.cons (.slot 6) (.cons (.slot 7) .nil)) (.tup (.cons (.call 8 (.cons (.var 0) (.cons (.lst false (.cons (.con (.int (0))) (.cons (.neg (.con (.int (1)))) (.cons (.con (.int (1001))) (.cons (.con (.bl true)) (.cons (.con .non) (.cons (.con (.str "1")) (.cons (.new 1 (.cons (.con (.int (1))) .nil)) (.cons (.lst false (.cons (.con (.int (5))) .nil)) .nil))))))))) .nil))) (.cons (.new 1 (.cons (.bin .add (.con (.int (1))) (.call 7 (.cons (.var 0) (.cons (.con (.int (9))) .nil)))) (.cons (.con (.int (10))) .nil))) .nil)))) (.cons (.asg (.slot 2) (.call 8 (.cons (.var 0) (.cons (.lst false (.cons (.bin .sub (.var 7) (.new 1 (.cons (.con (.int (1))) (.cons (.con (.int (90))) .nil)))) (.cons (.con (.int (0))) (.cons (.con (.int (1))) (.cons (.con .non) (.cons (.con (.bl true)) (.cons (.new 1 (.cons (.con (.int (10))) (.cons (.con (.int (9))) .nil))) (.cons (.con (.str "1/2")) .nil)))))))) .nil)))) (.cons (.asg (.slot 3) (.lst true (.cons (.heard 0 (.call 10 (.cons (.var 4) (.cons (.var 5) (.cons (.var 5) (.cons (.var 6) .nil)))))) .nil))) (.cons (.expr (.app (.var 3) (.heard 0 (.call 10 (.cons (.var 1) (.cons (.var 5) (.cons (.var 5) (.cons (.var 6) .nil)))))))) (.cons (.expr (.app (.var 3) (.heard 0 (.call 10 (.cons (.var 1) (.cons (.var 7) (.cons (.var 2) (.cons (.var 6) .nil)))))))) (.cons (.expr (.app (.var 3) (.heard 0 (.call 10 (.cons (.var 1) (.cons (.var 7) (.cons (.var 7) (.cons (.var 6) .nil)))))))) (.cons (.expr (.app (.var 3) (.heard 0 (.call 10 (.cons (.var 1) (.cons (.con (.int (0))) (.cons (.new 1 (.cons (.con (.int (999))) (.cons (.con (.int (1000))) .nil))) (.cons (.con (.int (1))) .nil)))))))) (.cons (.ret (.cmp .eq (.var 3) (.lst false (.cons (.tup (.cons (.con (.str "stem")) (.cons (.con (.str "stem")) .nil))) (.cons (.tup (.cons (.con (.str "number")) (.cons (.con (.str "low")) .nil))) (.cons (.tup (.cons (.con (.str "number")) (.cons (.con (.str "high")) .nil))) (.cons (.tup (.cons (.con (.str "number")) (.cons (.con (.str "most")) .nil))) (.cons (.con .non) .nil)))))))) .nil)))))))))
/-- _law_pushed_right -/
def b__law_pushed_right : MSs := (.cons (.asg (.cons (.slot 4) (.cons (.slot 5) (.cons (.slot 6) (.cons (.slot 7) .nil)))) (.var 1)) (.cons (.asg (.cons (.slot 8) (.cons (.slot 9) .nil)) (.tup (.cons (.bin .sub (.call 7 (.cons (.var 0) (.cons (.con (.int (11))) .nil))) (.con (.int (5)))) (.cons (.bin .sub (.call 7 (.cons (.var 0) (.cons (.con (.int (201))) .nil))) (.con (.int (100)))) .nil)))) (.cons (.asg (.slot 3) (.new 0 (.cons (.new 1 (.cons (.bin .add (.var 4) (.bin .mul (.var 8) (.var 5))) (.cons (.var 5) .nil))) (.cons (.bin .add (.bin .add (.new 1 (.cons (.var 6) (.cons (.var 7) .nil))) (.new 1 (.cons (.bin .mul (.bin .mul (.con (.int (2))) (.var 4)) (.var 8)) (.cons (.var 5) .nil)))) (.bin .mul (.var 8) (.var 8))) .nil)))) (.cons (.ife (.or (.cmp .ne (.attr (.var 3) 2) (.attr (.var 2) 2)) (.one (.cmp .ne (.call 13 (.cons (.var 3) (.cons (.var 9) .nil))) (.call 13 (.cons (.var 2) (.cons (.var 9) .nil)))))) (.cons (.ret (.con (.bl false))) .nil) .nil) (.cons (.ret (.cmp .eq (.bi .list (.cons (.call 15 (.cons (.var 3) (.cons (.var 9) .nil))) .nil)) (.comp (.bin .add (.var 10) (.bin .mul (.var 8) (.var 9))) (.slot 10) [10] (.ex (.call 15 (.cons (.var 2) (.cons (.var 9) .nil)))) .none))) .nil)))))
/-- _law_coin -/
def b__law_coin : MSs := (.cons (.ife (.cmp .gt (.idx (.var 0) (.con (.int (2)))) (.con (.int (0)))) (.cons (.asg (.slot 5) (.idx (.var 0) (.con (.int (2))))) (.cons (.setIdx (.var 0) (.con (.int (2))) (.bin .fdiv (.bi .int (.cons (.var 5) .nil)) (.var 1))) (.cons (.ret (.bin .mod (.bi .int (.cons (.var 5) .nil)) (.var 1))) .nil))) .nil) (.cons (.asg (.slot 2) (.idx (.var 0) (.con (.int (1))))) (.cons (.setIdx (.var 0) (.con (.int (1))) (.bin .add (.var 2) (.con (.int (1))))) (.cons (.asg (.slot 3) (.bin .add (.bin .mul (.con (.int (48611))) (.var 2)) (.con (.int (3329))))) (.cons (.ife (.cmp .ne (.idx (.var 0) (.con (.int (0)))) (.lst false .nil)) (.cons (.asg (.slot 3) (.idx (.idx (.var 0) (.con (.int (0)))) (.bin .mod (.bi .int (.cons (.var 2) .nil)) (.bi .len (.cons (.idx (.var 0) (.con (.int (0)))) .nil))))) .nil) .nil) (.cons (.ife (.and (.cmp .lt (.var 2) (.bi .len (.cons (.idx (.var 0) (.con (.int (0)))) .nil))) (.one (.cmp .ge (.bi .abs (.cons (.var 3) .nil)) (.bin .pow (.con (.int (10))) (.con (.int (18))))))) (.cons (.asg (.slot 5) (.bin .add (.bin .mul (.con (.int (2))) (.bin .sub (.bi .abs (.cons (.var 3) .nil)) (.bin .pow (.con (.int (10))) (.con (.int (18)))))) (.bi .int (.cons (.cmp .lt (.var 3) (.con (.int (0)))) .nil)))) (.cons (.setIdx (.var 0) (.con (.int (2))) (.bin .fdiv (.bi .int (.cons (.var 5) .nil)) (.var 1))) (.cons (.ret (.bin .mod (.bi .int (.cons (.var 5) .nil)) (.var 1))) .nil))) .nil) (.cons (.asg (.slot 4) (.bin .mod (.bi .int (.cons (.bin .pow (.bin .add (.bin .add (.bin .mod (.bi .int (.cons (.var 3) .nil)) (.con (.int (2147483563)))) (.bin .mul (.con (.int (61813))) (.var 2))) (.con (.int (3329)))) (.con (.int (5)))) .nil)) (.con (.int (2147483647))))) (.cons (.asg (.slot 4) (.bin .mod (.bi .int (.cons (.bin .pow (.bin .add (.bin .add (.bin .mul (.var 4) (.bin .add (.bin .mul (.con (.int (2))) (.var 2)) (.con (.int (2063))))) (.bin .mul (.bin .mul (.con (.int (48611))) (.var 2)) (.var 2))) (.con (.int (73939)))) (.con (.int (3)))) .nil)) (.con (.int (2147483587))))) (.cons (.ret (.bin .mod (.bi .int (.cons (.bin .fdiv (.var 4) (.con (.int (64)))) .nil)) (.var 1))) .nil)))))))))
/-- _law_of -/
def b__law_of : MSs := (.cons (.ret (.idx (.var 1) (.call 7 (.cons (.var 0) (.cons (.bi .len (.cons (.var 1) .nil)) .nil))))) .nil)
/-- _law_stretch -/
def b__law_stretch : MSs := (.cons (.par [6, 7] (.cons (.call 7 (.cons (.var 0) (.cons (.con (.int (4))) .nil))) (.cons (.bin .add (.con (.int (1))) (.call 7 (.cons (.var 0) (.cons (.con (.int (60))) .nil)))) .nil))) (.cons (.asg (.slot 3) (.call 8 (.cons (.var 0) (.cons (.lst false (.cons (.var 2) (.cons (.con (.int (60))) (.cons (.con (.int (7))) (.cons (.con (.int (1))) .nil))))) .nil)))) (.cons (.ife (.cmp .eq (.var 6) (.con (.int (0)))) (.cons (.asg (.slot 4) (.bin .mod (.bi .int (.cons (.bin .mul (.var 7) (.var 1)) .nil)) (.var 2))) (.cons (.ret (.tup (.cons (.var 4) (.cons (.var 4) (.cons (.var 2) .nil))))) .nil)) .nil) (.cons (.ife (.cmp .eq (.var 6) (.con (.int (1)))) (.cons (.asg (.slot 4) (.bin .mod (.bi .int (.cons (.bin .mul (.var 7) (.var 1)) .nil)) (.var 2))) (.cons (.ret (.tup (.cons (.var 4) (.cons (.bin .add (.var 4) (.call 7 (.cons (.var 0) (.cons (.bin .sub (.var 2) (.var 4)) .nil)))) (.cons (.var 2) .nil))))) .nil)) .nil) (.cons (.asg (.slot 4) (.call 7 (.cons (.var 0) (.cons (.var 3) .nil)))) (.cons (.asg (.slot 5) (.bin .add (.var 4) (.call 7 (.cons (.var 0) (.cons (.bin .sub (.var 3) (.var 4)) .nil))))) (.cons (.ret (.tup (.cons (.var 4) (.cons (.var 5) (.cons (.var 3) .nil))))) .nil)))))))
/-- first_within -/
def b_first_within : MSs := (.cons (.expr (.call 16 (.cons (.var 0) (.cons (.con (.str "stem")) .nil)))) (.cons (.expr (.call 17 (.cons (.var 1) (.cons (.con (.int (0))) (.cons (.con (.str "low")) .nil))))) (.cons (.expr (.call 17 (.cons (.var 2) (.cons (.var 1) (.cons (.con (.str "high")) .nil))))) (.cons (.ife (.not (.call 18 (.cons (.var 3) (.cons (.con (.int (1))) (.cons (.glo 0) .nil))))) (.cons (.rais 1 (.cons (.con (.str "most")) .nil)) .nil) .nil) (.cons (.forr (.slot 4) (.rng2 (.con (.int (1))) (.bin .add (.var 3) (.con (.int (1))))) (.cons (.asg (.slot 5) (.call 19 (.cons (.var 0) (.cons (.var 4) .nil)))) (.cons (.ife (.and (.not (.meth (.var 5) 4 (.cons (.var 1) .nil))) (.one (.cmp .lt (.meth (.var 5) 3 (.cons (.var 2) .nil)) (.con (.int (1)))))) (.cons (.ret (.var 4)) .nil) .nil) .nil))) (.cons (.ret (.con .non)) .nil))))))
/-- _law_first -/
def b__law_first : MSs := (.cons (.forr (.slot 6) (.rng2 (.con (.int (1))) (.bin .add (.var 5) (.con (.int (1))))) (.cons (.asg (.slot 7) (.bin .mod (.bi .int (.cons (.bin .mul (.var 6) (.var 0)) .nil)) (.var 1))) (.cons (.ife (.chain .le .le (.bin .mul (.var 2) (.var 1)) (.bin .mul (.var 7) (.var 4)) (.bin .mul (.var 3) (.var 1))) (.cons (.ret (.var 6)) .nil) .nil) .nil))) (.cons (.ret (.con .non)) .nil))
/-- _law_divisor -/
def b__law_divisor : MSs := (.cons (.whl (.cmp .gt (.var 1) (.con (.int (0)))) (.cons (.par [0, 1] (.cons (.var 1) (.cons (.bin .mod (.bi .int (.cons (.var 0) .nil)) (.var 1)) .nil))) .nil)) (.cons (.ret (.var 0)) .nil))
/-- place -/
def b_place : MSs := (.cons (.expr (.call 16 (.cons (.var 0) (.cons (.con (.str "stem")) .nil)))) (.cons (.expr (.call 20 (.cons (.var 1) (.cons (.con (.str "stud")) .nil)))) (.cons (.ret (.call 19 (.cons (.var 0) (.cons (.var 1) .nil)))) .nil)))
/-- _law_heard -/
def b__law_heard : MSs := (.cons .never (.cons (.ret (.con .non)) .nil))
/-- nearest_rounds -/
def b_nearest_rounds : MSs := (.cons (.expr (.call 16 (.cons (.var 0) (.cons (.con (.str "stem")) .nil)))) (.cons (.expr (.call 20 (.cons (.var 1) (.cons (.con (.str "stud")) .nil)))) (.cons (.ret (.call 21 (.cons (.bin .mul (.attr (.var 0) 0) (.var 1)) .nil))) .nil)))
/-- need_stem -/
def b_need_stem : MSs := (.cons (.ife (.not (.isi (.var 0) [.own 0])) (.cons (.rais 0 (.cons (.var 1) .nil)) .nil) .nil) .nil)
/-- need_below_one -/
def b_need_below_one : MSs := (.cons (.ife (.or (.not (.call 23 (.cons (.var 0) .nil))) (.or (.meth (.stat 1 5 (.cons (.var 0) .nil)) 4 (.cons (.var 1) .nil)) (.one (.not (.meth (.stat 1 5 (.cons (.var 0) .nil)) 4 (.cons (.con (.int (1))) .nil)))))) (.cons (.rais 1 (.cons (.var 2) .nil)) .nil) .nil) .nil)
/-- is_within -/
def b_is_within : MSs := (.cons (.ife (.not (.call 24 (.cons (.var 0) .nil))) (.cons (.ret (.con (.bl false))) .nil) .nil) (.cons (.ret (.and (.or (.isN (.var 1)) (.one (.cmp .le (.var 1) (.var 0)))) (.one (.or (.isN (.var 2)) (.one (.cmp .le (.var 0) (.var 2))))))) .nil))
/-- place_at -/
def b_place_at : MSs := (.cons (.asg (.slot 2) (.bin .mul (.attr (.var 0) 0) (.var 1))) (.cons (.ret (.bin .sub (.var 2) (.attr (.var 2) 6))) .nil))
/-- need_integer -/
def b_need_integer : MSs := (.cons (.ife (.not (.call 24 (.cons (.var 0) .nil))) (.cons (.rais 1 (.cons (.var 1) .nil)) .nil) .nil) .nil)
/-- rounds_near -/
def b_rounds_near : MSs := (.cons (.asg (.slot 1) (.bin .add (.var 0) (.new 1 (.cons (.con (.int (1))) (.cons (.con (.int (2))) .nil))))) (.cons (.ife (.attr (.var 1) 7) (.cons (.ret (.tup (.cons (.bin .sub (.attr (.var 1) 8) (.con (.int (1)))) (.cons (.attr (.var 1) 8) .nil)))) .nil) .nil) (.cons (.ret (.tup (.cons (.attr (.var 1) 6) .nil))) .nil)))
/-- Ratio.of -/
def b_Ratio_of : MSs := (.cons (.ife (.isi (.var 0) [.own 1]) (.cons (.ret (.var 0)) .nil) .nil) (.cons (.ife (.call 24 (.cons (.var 0) .nil)) (.cons (.ret (.new 1 (.cons (.var 0) .nil))) .nil) .nil) (.cons (.rais 2 (.cons (.con (.str "value")) .nil)) .nil)))
/-- is_ratio -/
def b_is_ratio : MSs := (.cons (.ret (.or (.isi (.var 0) [.own 1]) (.one (.call 24 (.cons (.var 0) .nil))))) .nil)
/-- is_integer -/
def b_is_integer : MSs := (.cons (.ret (.and (.isi (.var 0) [.ty "int"]) (.one (.not (.isi (.var 0) [.ty "bool"]))))) .nil)
/-- Stem.__init__ -/
def b_Stem___init__ : MSs := (.cons (.ife (.not (.call 23 (.cons (.var 1) .nil))) (.cons (.rais 0 (.cons (.con (.str "turn")) .nil)) .nil) .nil) (.cons (.ife (.not (.call 23 (.cons (.var 2) .nil))) (.cons (.rais 0 (.cons (.con (.str "squared")) .nil)) .nil) .nil) (.cons (.setSelf 0 (.stat 1 5 (.cons (.var 1) .nil))) (.cons (.setSelf 9 (.stat 1 5 (.cons (.var 2) .nil))) (.cons (.setSelf 2 (.call 38 (.cons (.self 0) (.cons (.self 9) .nil)))) (.cons (.ife (.cmp .lt (.attr (.self 2) 10) (.con (.int (1)))) (.cons (.rais 0 (.cons (.con (.str "stem")) .nil)) .nil) .nil) .nil))))))
/-- Stem.__eq__ -/
def b_Stem___eq__ : MSs := (.cons (.ret (.and (.isi (.var 1) [.own 0]) (.and (.cmp .eq (.attr (.var 0) 0) (.attr (.var 1) 0)) (.one (.cmp .eq (.attr (.var 0) 9) (.attr (.var 1) 9)))))) .nil)
/-- Ratio.__init__ -/
def b_Ratio___init__ : MSs := (.cons (.ife (.not (.call 24 (.cons (.var 1) .nil))) (.cons (.rais 2 (.cons (.con (.str "top")) .nil)) .nil) .nil) (.cons (.ife (.or (.not (.call 24 (.cons (.var 2) .nil))) (.one (.cmp .eq (.var 2) (.con (.int (0)))))) (.cons (.rais 2 (.cons (.con (.str "bottom")) .nil)) .nil) .nil) (.cons (.asg (.slot 3) (.bi .gcd (.cons (.var 1) (.cons (.var 2) .nil)))) (.cons (.ife (.cmp .lt (.var 2) (.con (.int (0)))) (.cons (.asg (.slot 3) (.neg (.var 3))) .nil) .nil) (.cons (.setSelf 8 (.bin .fdiv (.var 1) (.var 3))) (.cons (.setSelf 11 (.bin .fdiv (.var 2) (.var 3))) .nil))))))
/-- Ratio.is_whole -/
def b_Ratio_is_whole : MSs := (.cons (.ret (.cmp .eq (.attr (.var 0) 11) (.con (.int (1))))) .nil)
/-- Ratio.below -/
def b_Ratio_below : MSs := (.cons (.ret (.bin .fdiv (.attr (.var 0) 8) (.attr (.var 0) 11))) .nil)
/-- Ratio.__add__ -/
def b_Ratio___add__ : MSs := (.cons (.asg (.slot 2) (.call 39 (.cons (.var 1) .nil))) (.cons (.ret (.new 1 (.cons (.bin .add (.bin .mul (.attr (.var 0) 8) (.attr (.var 2) 11)) (.bin .mul (.attr (.var 2) 8) (.attr (.var 0) 11))) (.cons (.bin .mul (.attr (.var 0) 11) (.attr (.var 2) 11)) .nil)))) .nil))
/-- Ratio.__sub__ -/
def b_Ratio___sub__ : MSs := (.cons (.asg (.slot 2) (.call 39 (.cons (.var 1) .nil))) (.cons (.ret (.new 1 (.cons (.bin .sub (.bin .mul (.attr (.var 0) 8) (.attr (.var 2) 11)) (.bin .mul (.attr (.var 2) 8) (.attr (.var 0) 11))) (.cons (.bin .mul (.attr (.var 0) 11) (.attr (.var 2) 11)) .nil)))) .nil))
/-- Ratio.__mul__ -/
def b_Ratio___mul__ : MSs := (.cons (.asg (.slot 2) (.call 39 (.cons (.var 1) .nil))) (.cons (.ret (.new 1 (.cons (.bin .mul (.attr (.var 0) 8) (.attr (.var 2) 8)) (.cons (.bin .mul (.attr (.var 0) 11) (.attr (.var 2) 11)) .nil)))) .nil))
/-- Ratio.__neg__ -/
def b_Ratio___neg__ : MSs := (.cons (.ret (.new 1 (.cons (.neg (.attr (.var 0) 8)) (.cons (.attr (.var 0) 11) .nil)))) .nil)
/-- Ratio.__abs__ -/
def b_Ratio___abs__ : MSs := (.cons (.ret (.new 1 (.cons (.bi .abs (.cons (.attr (.var 0) 8) .nil)) (.cons (.attr (.var 0) 11) .nil)))) .nil)
/-- Ratio.compared -/
def b_Ratio_compared : MSs := (.cons (.asg (.slot 2) (.call 39 (.cons (.var 1) .nil))) (.cons (.asg (.slot 3) (.bin .sub (.bin .mul (.attr (.var 0) 8) (.attr (.var 2) 11)) (.bin .mul (.attr (.var 2) 8) (.attr (.var 0) 11)))) (.cons (.ret (.bin .sub (.bi .int (.cons (.cmp .gt (.var 3) (.con (.int (0)))) .nil)) (.bi .int (.cons (.cmp .lt (.var 3) (.con (.int (0)))) .nil)))) .nil)))
/-- Ratio.is_below -/
def b_Ratio_is_below : MSs := (.cons (.ret (.cmp .lt (.meth (.var 0) 3 (.cons (.var 1) .nil)) (.con (.int (0))))) .nil)
/-- Ratio.__eq__ -/
def b_Ratio___eq__ : MSs := (.cons (.ife (.isi (.var 1) [.own 1]) (.cons (.ret (.and (.cmp .eq (.attr (.var 0) 8) (.attr (.var 1) 8)) (.one (.cmp .eq (.attr (.var 0) 11) (.attr (.var 1) 11))))) .nil) .nil) (.cons (.ret (.and (.call 24 (.cons (.var 1) .nil)) (.and (.cmp .eq (.attr (.var 0) 11) (.con (.int (1)))) (.one (.cmp .eq (.attr (.var 0) 8) (.var 1)))))) .nil))
/-- rise_of -/
def b_rise_of : MSs := (.cons (.ret (.bin .sub (.var 1) (.bin .mul (.var 0) (.var 0)))) .nil)
/-- other_of -/
def b_other_of : MSs := (.cons (.ife (.isi (.var 0) [.own 1]) (.cons (.ret (.var 0)) .nil) .nil) (.cons (.ife (.call 24 (.cons (.var 0) .nil)) (.cons (.ret (.new 1 (.cons (.var 0) .nil))) .nil) .nil) (.cons (.rais 2 (.cons (.con (.str "other")) .nil)) .nil)))
/-- Ratio.sign -/
def b_Ratio_sign : MSs := (.cons (.ret (.bin .sub (.bi .int (.cons (.cmp .gt (.attr (.var 0) 8) (.con (.int (0)))) .nil)) (.bi .int (.cons (.cmp .lt (.attr (.var 0) 8) (.con (.int (0)))) .nil)))) .nil)
def fs_0 : List (FI) := [⟨1, 6, b_law, []⟩,
    ⟨1, 2, b__law_purse, []⟩,
    ⟨1, 5, b__law_stem, []⟩,
    ⟨3, 11, b__law_within_right, []⟩,
    ⟨3, 11, b__law_pair_right, []⟩,
    ⟨2, 8, b__law_refused_right, []⟩,
    ⟨3, 11, b__law_pushed_right, []⟩,
    ⟨2, 6, b__law_coin, []⟩,
    ⟨2, 2, b__law_of, []⟩,
    ⟨3, 8, b__law_stretch, []⟩,
    ⟨4, 6, b_first_within, []⟩,
    ⟨6, 8, b__law_first, []⟩,
    ⟨2, 2, b__law_divisor, []⟩,
    ⟨2, 2, b_place, []⟩,
    ⟨1, 2, b__law_heard, []⟩,
    ⟨2, 2, b_nearest_rounds, []⟩,
    ⟨2, 2, b_need_stem, []⟩,
    ⟨3, 3, b_need_below_one, []⟩,
    ⟨3, 3, b_is_within, []⟩,
    ⟨2, 3, b_place_at, []⟩]
def fs_1 : List (FI) := [⟨2, 2, b_need_integer, []⟩,
    ⟨1, 2, b_rounds_near, []⟩,
    ⟨1, 1, b_Ratio_of, []⟩,
    ⟨1, 1, b_is_ratio, []⟩,
    ⟨1, 1, b_is_integer, []⟩,
    ⟨3, 3, b_Stem___init__, []⟩,
    ⟨2, 2, b_Stem___eq__, []⟩,
    ⟨3, 4, b_Ratio___init__, [(.int (1))]⟩,
    ⟨1, 1, b_Ratio_is_whole, []⟩,
    ⟨1, 1, b_Ratio_below, []⟩,
    ⟨2, 3, b_Ratio___add__, []⟩,
    ⟨2, 3, b_Ratio___sub__, []⟩,
    ⟨2, 3, b_Ratio___mul__, []⟩,
    ⟨1, 1, b_Ratio___neg__, []⟩,
    ⟨1, 1, b_Ratio___abs__, []⟩,
    ⟨2, 4, b_Ratio_compared, []⟩,
    ⟨2, 2, b_Ratio_is_below, []⟩,
    ⟨2, 2, b_Ratio___eq__, []⟩,
    ⟨2, 2, b_rise_of, []⟩,
    ⟨1, 1, b_other_of, []⟩]
def fs_2 : List (FI) := [⟨1, 1, b_Ratio_sign, []⟩]
def p : Pg where
  fuel := 1000
  gs := [(.int (1000))]
  fs := fs_0 ++ fs_1 ++ fs_2
  cs := [⟨[], [], [], [(.eq, 26)], some 25, [0, 9, 2], [0], true⟩,
    ⟨[(3, 35), (4, 36)], [(10, 40), (7, 28), (6, 29)], [(5, 22)], [(.add, 30), (.sub, 31), (.mul, 32), (.neg, 33), (.abs, 34), (.eq, 37)], some 27, [8, 11], [1], true⟩]
  xs := [⟨[1], [0]⟩, ⟨[1], [1]⟩, ⟨[1], [2]⟩]
  hi := [⟨14, "_law_heard", none, 1, .drop, [(0, .tup [.con (.str "stem"), .err 1]), (1, .tup [.con (.str "number"), .err 1])]⟩]
def gts_0 : List (Str × GV) := [("_law_purse", .fn 1),
    ("_law_stem", .fn 2),
    ("Stem", .cls 0),
    ("Ratio", .cls 1),
    ("_law_within_right", .fn 3),
    ("_law_pair_right", .fn 4),
    ("_law_refused_right", .fn 5),
    ("_law_pushed_right", .fn 6),
    ("_law_coin", .fn 7),
    ("_law_of", .fn 8),
    ("_law_stretch", .fn 9),
    ("first_within", .fn 10),
    ("_law_first", .fn 11),
    ("_law_divisor", .fn 12),
    ("place", .fn 13),
    ("BadStem", .xcl 0),
    ("BadNumber", .xcl 1),
    ("_law_heard", .fn 14),
    ("nearest_rounds", .fn 15),
    ("need_stem", .fn 16)]
def gts_1 : List (Str × GV) := [("need_below_one", .fn 17),
    ("is_within", .fn 18),
    ("MOST_STUDS", .val 0),
    ("place_at", .fn 19),
    ("need_integer", .fn 20),
    ("rounds_near", .fn 21),
    ("is_ratio", .fn 23),
    ("is_integer", .fn 24),
    ("BadRatio", .xcl 2),
    ("rise_of", .fn 38),
    ("gcd", .bi "math.gcd"),
    ("other_of", .fn 39)]
def nms_0 : List (Str) := ["turn",
    "part",
    "rise",
    "compared",
    "is_below",
    "of",
    "below",
    "is_whole",
    "top",
    "squared",
    "sign",
    "bottom"]
def pns_0 : List (List Str) := [["_law_script"],
    ["_law_script"],
    ["_law_purse_here"],
    ["_law_purse_here", "_law_plain", "_law_stem_here"],
    ["_law_purse_here", "_law_plain", "_law_stem_here"],
    ["_law_purse_here", "_law_stem_here"],
    ["_law_purse_here", "_law_plain", "_law_stem_here"],
    ["_law_purse_here", "_law_many"],
    ["_law_purse_here", "_law_some"],
    ["_law_purse_here", "_law_p", "_law_q"],
    ["stem", "low", "high", "most"],
    ["_law_p", "_law_q", "_law_low", "_law_high", "_law_under", "_law_most"],
    ["_law_one", "_law_other"],
    ["stem", "stud"],
    ["_law_ask"],
    ["stem", "stud"],
    ["value", "part"],
    ["value", "least", "part"],
    ["value", "least", "most"],
    ["stem", "stud"]]
def pns_1 : List (List Str) := [["value", "part"],
    ["way"],
    ["value"],
    ["value"],
    ["value"],
    ["self", "turn", "squared"],
    ["self", "other"],
    ["self", "top", "bottom"],
    ["self"],
    ["self"],
    ["self", "other"],
    ["self", "other"],
    ["self", "other"],
    ["self"],
    ["self"],
    ["self", "other"],
    ["self", "other"],
    ["self", "other"],
    ["turn", "squared"],
    ["value"]]
def pns_2 : List (List Str) := [["self"]]
def cx : Mi.Ctx where
  nm := nms_0
  gt := gts_0 ++ gts_1
  nb := ["range", "int", "abs", "list", "len", "isinstance", "bool"]
  pns := pns_0 ++ pns_1 ++ pns_2
def srcs_0 : List (Src) := [⟨("law", none), ""⟩,
    ⟨("_law_purse", none), ""⟩,
    ⟨("_law_stem", none), ""⟩,
    ⟨("_law_within_right", none), ""⟩,
    ⟨("_law_pair_right", none), ""⟩,
    ⟨("_law_refused_right", none), ""⟩,
    ⟨("_law_pushed_right", none), ""⟩,
    ⟨("_law_coin", none), ""⟩,
    ⟨("_law_of", none), ""⟩,
    ⟨("_law_stretch", none), ""⟩,
    ⟨("first_within", none), ""⟩,
    ⟨("_law_first", none), ""⟩,
    ⟨("_law_divisor", none), ""⟩,
    ⟨("place", none), ""⟩,
    ⟨("_law_heard", none), ""⟩,
    ⟨("nearest_rounds", none), ""⟩,
    ⟨("need_stem", none), ""⟩,
    ⟨("need_below_one", none), ""⟩,
    ⟨("is_within", none), ""⟩,
    ⟨("place_at", none), ""⟩]
def srcs_1 : List (Src) := [⟨("need_integer", none), ""⟩,
    ⟨("rounds_near", none), ""⟩,
    ⟨("Ratio", some "of"), "staticmethod"⟩,
    ⟨("is_ratio", none), ""⟩,
    ⟨("is_integer", none), ""⟩,
    ⟨("Stem", some "__init__"), ""⟩,
    ⟨("Stem", some "__eq__"), ""⟩,
    ⟨("Ratio", some "__init__"), ""⟩,
    ⟨("Ratio", some "is_whole"), "property"⟩,
    ⟨("Ratio", some "below"), "property"⟩,
    ⟨("Ratio", some "__add__"), ""⟩,
    ⟨("Ratio", some "__sub__"), ""⟩,
    ⟨("Ratio", some "__mul__"), ""⟩,
    ⟨("Ratio", some "__neg__"), ""⟩,
    ⟨("Ratio", some "__abs__"), ""⟩,
    ⟨("Ratio", some "compared"), ""⟩,
    ⟨("Ratio", some "is_below"), ""⟩,
    ⟨("Ratio", some "__eq__"), ""⟩,
    ⟨("rise_of", none), ""⟩,
    ⟨("other_of", none), ""⟩]
def srcs_2 : List (Src) := [⟨("Ratio", some "sign"), "property"⟩]
def Ns_0 : List (List Str) := [["_law_script", "_law_purse_here", "_law_lap", "_law_plain", "_law_stem_here", "_law_turn"],
    ["_law_script", "_law_cell"],
    ["_law_purse_here", "_law_p", "_law_least", "_law_q", "_law_m"],
    ["_law_purse_here", "_law_plain", "_law_stem_here", "_law_most", "_law_told", "_law_zero", "_law_p", "_law_q", "_law_low", "_law_high", "_law_under"],
    ["_law_purse_here", "_law_plain", "_law_stem_here", "_law_size", "_law_other", "_law_shared", "_law_bottom", "_law_p", "_law_q", "_law_one", "_law_far"],
    ["_law_purse_here", "_law_stem_here", "_law_less", "_law_heard_here", "_law_odd", "_law_bad", "_law_none", "_law_low"],
    ["_law_purse_here", "_law_plain", "_law_stem_here", "_law_more", "_law_p", "_law_q", "_law_n", "_law_m", "_law_times", "_law_stud", "_law_one"],
    ["_law_purse_here", "_law_many", "_law_turn", "_law_cell", "_law_mixed", "_law_rest"],
    ["_law_purse_here", "_law_some"],
    ["_law_purse_here", "_law_p", "_law_q", "_law_under", "_law_low", "_law_high", "_law_way", "_law_stud"],
    ["stem", "low", "high", "most", "stud", "here"],
    ["_law_p", "_law_q", "_law_low", "_law_high", "_law_under", "_law_most", "_law_stud", "_law_here"],
    ["_law_one", "_law_other"],
    ["stem", "stud"],
    ["_law_ask", "error"],
    ["stem", "stud"],
    ["value", "part"],
    ["value", "least", "part"],
    ["value", "least", "most"],
    ["stem", "stud", "way"]]
def Ns_1 : List (List Str) := [["value", "part"],
    ["way", "half_on"],
    ["value"],
    ["value"],
    ["value"],
    ["self", "turn", "squared"],
    ["self", "other"],
    ["self", "top", "bottom", "shared"],
    ["self"],
    ["self"],
    ["self", "other", "more"],
    ["self", "other", "less"],
    ["self", "other", "times"],
    ["self"],
    ["self"],
    ["self", "other", "beside", "apart"],
    ["self", "other"],
    ["self", "other"],
    ["turn", "squared"],
    ["value"]]
def Ns_2 : List (List Str) := [["self"]]
def tab : Tab where
  srcs := srcs_0 ++ srcs_1 ++ srcs_2
  cns := ["Stem", "Ratio"]
  C := cx
  P := p
  gvs := []
  N := Ns_0 ++ Ns_1 ++ Ns_2
  xns := ["BadStem", "BadNumber", "BadRatio"]
  xbs := ["SpiralError"]
  lams := [5]
/- defs: 0 law, 1 _law_purse, 2 _law_stem, 3 _law_within_right, 4 _law_pair_right, 5 _law_refused_right, 6 _law_pushed_right, 7 _law_coin, 8 _law_of, 9 _law_stretch, 10 first_within, 11 _law_first, 12 _law_divisor, 13 place, 14 _law_heard, 15 nearest_rounds, 16 need_stem, 17 need_below_one, 18 is_within, 19 place_at, 20 need_integer, 21 rounds_near, 22 Ratio_of, 23 is_ratio, 24 is_integer, 25 Stem___init__, 26 Stem___eq__, 27 Ratio___init__, 28 Ratio_is_whole, 29 Ratio_below, 30 Ratio___add__, 31 Ratio___sub__, 32 Ratio___mul__, 33 Ratio___neg__, 34 Ratio___abs__, 35 Ratio_compared, 36 Ratio_is_below, 37 Ratio___eq__, 38 rise_of, 39 other_of, 40 Ratio_sign -/
/- exceptions: 0 BadStem, 1 BadNumber, 2 BadRatio -/
/- classes: 0 Stem, 1 Ratio -/
/- names: 0 turn, 1 part, 2 rise, 3 compared, 4 is_below, 5 of, 6 below, 7 is_whole, 8 top, 9 squared, 10 sign, 11 bottom -/
end K14
end

section
set_option maxRecDepth 100000
/-! Ma: ratios by tops and bottoms, plain. -/
namespace Ma
/-- what Ratio(a, b) makes -/
def rt (a b : Int) : Rat := Rat.divInt a b
theorem fdiv_l {g c : Int} (h : g ≠ 0) : (g * c).fdiv g = c := Int.mul_fdiv_cancel_left c h
theorem fdiv_ln {g c : Int} (h : g ≠ 0) : (g * c).fdiv (-g) = -c := by
  rw [show g * c = (-g) * (-c) by rw [Int.neg_mul_neg]]
  exact Int.mul_fdiv_cancel_left _ (by omega)
theorem rt_num {a b : Int} (h : b ≠ 0) : (rt a b).num = a.fdiv (if b < 0 then -(Int.gcd a b : Int) else (Int.gcd a b : Int)) := by
  unfold rt
  rw [Rat.num_divInt, Int.gcd_comm b a]
  have g0 : (Int.gcd a b : Int) ≠ 0 := by
    have := Int.gcd_ne_zero_right (a := a) h
    omega
  obtain ⟨c, hc⟩ := Int.gcd_dvd_left (a := a) (b := b)
  generalize hg : (Int.gcd a b : Int) = g at *
  rw [hc]
  by_cases hb : b < 0
  · rw [if_pos hb, fdiv_ln g0, Int.sign_eq_neg_one_of_neg hb, show -1 * (g * c) = g * (-c) by rw [Int.mul_neg, Int.neg_mul, Int.one_mul], Int.mul_ediv_cancel_left _ g0]
  · rw [if_neg hb, fdiv_l g0, Int.sign_eq_one_of_pos (by omega), Int.one_mul, Int.mul_ediv_cancel_left _ g0]
theorem rt_den {a b : Int} (h : b ≠ 0) : ((rt a b).den : Int) = b.fdiv (if b < 0 then -(Int.gcd a b : Int) else (Int.gcd a b : Int)) := by
  unfold rt
  rw [Rat.den_divInt, if_neg h, Int.gcd_comm b a]
  have g0 : (Int.gcd a b : Int) ≠ 0 := by
    have := Int.gcd_ne_zero_right (a := a) h
    omega
  obtain ⟨c, hc⟩ := Int.gcd_dvd_right (a := a) (b := b)
  rw [Int.natCast_ediv]
  have gp : (0 : Int) < (Int.gcd a b : Int) := by omega
  generalize hg : (Int.gcd a b : Int) = g at *
  by_cases hb : b < 0
  · rw [if_pos hb]
    have : ((b.natAbs : Nat) : Int) = g * (-c) := by rw [Int.mul_neg, ← hc]; omega
    rw [this, Int.mul_ediv_cancel_left _ g0, hc, fdiv_ln g0]
  · rw [if_neg hb]
    have : ((b.natAbs : Nat) : Int) = g * c := by rw [← hc]; omega
    rw [this, Int.mul_ediv_cancel_left _ g0, hc, fdiv_l g0]
/-- how great it is -/
structure Lw (e : Nat) (q : Rat) : Prop where
  n : q.num.natAbs < 2 ^ e
  d : q.den < 2 ^ e
theorem natAbs_fdiv_le (a g : Int) (h : g ≠ 0) (hd : g ∣ a) : (a.fdiv g).natAbs ≤ a.natAbs := by
  obtain ⟨c, rfl⟩ := hd
  rw [fdiv_l h, Int.natAbs_mul]
  have : 1 ≤ g.natAbs := by omega
  exact Nat.le_mul_of_pos_left _ (by omega)
theorem Lw.rt {e : Nat} {a b : Int} (h : b ≠ 0) (ha : a.natAbs < 2 ^ e) (hb : b.natAbs < 2 ^ e) : Lw e (Ma.rt a b) := by
  have g0 : (Int.gcd a b : Int) ≠ 0 := by
    have := Int.gcd_ne_zero_right (a := a) h
    omega
  have hg : ∀ x : Int, (Int.gcd a b : Int) ∣ x → (x.fdiv (if b < 0 then -(Int.gcd a b : Int) else (Int.gcd a b : Int))).natAbs ≤ x.natAbs := by
    intro x hx
    split
    · exact natAbs_fdiv_le _ _ (by omega) (Int.neg_dvd.mpr hx)
    · exact natAbs_fdiv_le _ _ g0 hx
  refine ⟨?_, ?_⟩
  · rw [rt_num h]
    exact Nat.lt_of_le_of_lt (hg a (Int.gcd_dvd_left _ _)) ha
  · have := hg b (Int.gcd_dvd_right _ _)
    rw [← rt_den h] at this
    exact Nat.lt_of_le_of_lt this hb
theorem Lw.mono {e f : Nat} {q : Rat} (h : Lw e q) (l : e ≤ f) : Lw f q :=
  ⟨Nat.lt_of_lt_of_le h.n (Nat.pow_le_pow_right (by omega) l), Nat.lt_of_lt_of_le h.d (Nat.pow_le_pow_right (by omega) l)⟩
/-! ### ints that are not too great -/
theorem ab_mul {e f : Nat} {a b : Int} (ha : a.natAbs < 2 ^ e) (hb : b.natAbs < 2 ^ f) : (a * b).natAbs < 2 ^ (e + f) := by
  rw [Int.natAbs_mul, Nat.pow_add]
  exact Nat.mul_lt_mul'' ha hb
theorem ab_add {e : Nat} {a b : Int} (ha : a.natAbs < 2 ^ e) (hb : b.natAbs < 2 ^ e) : (a + b).natAbs < 2 ^ (e + 1) := by
  have := Int.natAbs_add_le a b
  rw [Nat.pow_succ]; omega
theorem ab_sub {e : Nat} {a b : Int} (ha : a.natAbs < 2 ^ e) (hb : b.natAbs < 2 ^ e) : (a - b).natAbs < 2 ^ (e + 1) := by
  have := Int.natAbs_sub_le a b
  rw [Nat.pow_succ]; omega
theorem ab_neg {e : Nat} {a : Int} (ha : a.natAbs < 2 ^ e) : (-a).natAbs < 2 ^ e := by rwa [Int.natAbs_neg]
theorem ab_mono {e f : Nat} {a : Int} (ha : a.natAbs < 2 ^ e) (l : e ≤ f) : a.natAbs < 2 ^ f := Nat.lt_of_lt_of_le ha (Nat.pow_le_pow_right (by omega) l)
theorem Lw.di {e : Nat} {q : Rat} (h : Lw e q) : (q.den : Int).natAbs < 2 ^ e := by
  have := h.d
  omega
/-! ### the operations -/
theorem den0 (q : Rat) : (q.den : Int) ≠ 0 := by
  have := q.den_nz
  omega
theorem rt_add (p q : Rat) : rt (p.num * q.den + q.num * p.den) (p.den * q.den) = p + q := by
  rw [Rat.add_def', rt, show ((p.den : Int) * (q.den : Int)) = ((p.den * q.den : Nat) : Int) by rw [Int.natCast_mul], Rat.divInt_ofNat]
theorem rt_sub (p q : Rat) : rt (p.num * q.den - q.num * p.den) (p.den * q.den) = p - q := by
  rw [Rat.sub_def', rt, show ((p.den : Int) * (q.den : Int)) = ((p.den * q.den : Nat) : Int) by rw [Int.natCast_mul], Rat.divInt_ofNat]
theorem rt_mul (p q : Rat) : rt (p.num * q.num) (p.den * q.den) = p * q := by
  rw [Rat.mul_def', rt, show ((p.den : Int) * (q.den : Int)) = ((p.den * q.den : Nat) : Int) by rw [Int.natCast_mul], Rat.divInt_ofNat]
theorem rt_neg (p : Rat) : rt (-p.num) p.den = -p := by
  rw [rt, Rat.divInt_ofNat, ← Rat.neg_mkRat, Rat.mkRat_self]
theorem rt_over (p q : Rat) : rt (p.num * q.den) (p.den * q.num) = p / q := by
  rw [Rat.div_def, Rat.inv_def, rt, ← Rat.divInt_mul_divInt, Rat.num_divInt_den]
theorem rt_one (a : Int) : rt a 1 = (a : Rat) := by
  rw [rt, show (1 : Int) = ((1 : Nat) : Int) by rfl, Rat.divInt_ofNat]
  exact (Rat.mkRat_eq_div a 1).trans (by simp [Rat.div_def]; grind)
theorem rt_div (a b : Int) : rt a b = (a : Rat) / (b : Rat) := Rat.divInt_eq_div a b
theorem eq_iff (p q : Rat) : (p.num = q.num ∧ p.den = q.den) ↔ p = q := ⟨fun h => Rat.ext h.1 h.2, fun h => by subst h; exact ⟨rfl, rfl⟩⟩
theorem eq_int (p : Rat) (n : Int) : (p.den = 1 ∧ p.num = n) ↔ p = (n : Rat) := ⟨fun h => Rat.ext h.2 h.1, fun h => by subst h; exact ⟨rfl, rfl⟩⟩
theorem Lw.add {e f : Nat} {p q : Rat} (hp : Lw e p) (hq : Lw f q) : Lw (e + f + 1) (p + q) := by
  rw [← rt_add]
  refine Lw.rt (Int.mul_ne_zero (den0 p) (den0 q)) (ab_add (ab_mul hp.n hq.di) ?_) (ab_mono (ab_mul hp.di hq.di) (by omega))
  have := ab_mul hq.n hp.di
  rwa [Nat.add_comm f e] at this
theorem Lw.sub {e f : Nat} {p q : Rat} (hp : Lw e p) (hq : Lw f q) : Lw (e + f + 1) (p - q) := by
  rw [← rt_sub]
  refine Lw.rt (Int.mul_ne_zero (den0 p) (den0 q)) (ab_sub (ab_mul hp.n hq.di) ?_) (ab_mono (ab_mul hp.di hq.di) (by omega))
  have := ab_mul hq.n hp.di
  rwa [Nat.add_comm f e] at this
theorem Lw.mul {e f : Nat} {p q : Rat} (hp : Lw e p) (hq : Lw f q) : Lw (e + f) (p * q) := by
  rw [← rt_mul]
  exact Lw.rt (Int.mul_ne_zero (den0 p) (den0 q)) (ab_mul hp.n hq.n) (ab_mul hp.di hq.di)
theorem Lw.div {e f : Nat} {p q : Rat} (hp : Lw e p) (hq : Lw f q) (h : q ≠ 0) : Lw (e + f) (p / q) := by
  rw [← rt_over]
  have hn : q.num ≠ 0 := fun z => h (Rat.num_eq_zero.mp z)
  exact Lw.rt (Int.mul_ne_zero (den0 p) hn) (ab_mul hp.n hq.di) (ab_mul hp.di hq.n)
theorem Lw.neg {e : Nat} {p : Rat} (hp : Lw e p) : Lw e (-p) := ⟨by rw [Rat.neg_num]; exact ab_neg hp.n, hp.d⟩
theorem Lw.int {e : Nat} {a : Int} (h : a.natAbs < 2 ^ e) (he : 0 < e) : Lw e (a : Rat) := ⟨h, Nat.one_lt_two_pow (by omega)⟩
/-! ### the greatest integer not above -/
theorem natAbs_fdiv_le' (a : Int) (b : Int) (h : b ≠ 0) : (a.fdiv b).natAbs ≤ a.natAbs := by
  exact Int.natAbs_fdiv_le_natAbs a b
theorem floor_eq (q : Rat) : q.num.fdiv q.den = q.floor := by
  rw [Rat.floor_def]
  exact Int.fdiv_eq_ediv_of_nonneg _ (by omega)
end Ma
end

section
set_option maxRecDepth 100000
set_option maxHeartbeats 4000000
namespace K14
open Mi Ma
/-! the table, row by row -/
theorem f_0 : p.fs[0]? = some (⟨1, 6, b_law, []⟩ : FI) := rfl
theorem f_1 : p.fs[1]? = some (⟨1, 2, b__law_purse, []⟩ : FI) := rfl
theorem f_2 : p.fs[2]? = some (⟨1, 5, b__law_stem, []⟩ : FI) := rfl
theorem f_3 : p.fs[3]? = some (⟨3, 11, b__law_within_right, []⟩ : FI) := rfl
theorem f_4 : p.fs[4]? = some (⟨3, 11, b__law_pair_right, []⟩ : FI) := rfl
theorem f_5 : p.fs[5]? = some (⟨2, 8, b__law_refused_right, []⟩ : FI) := rfl
theorem f_6 : p.fs[6]? = some (⟨3, 11, b__law_pushed_right, []⟩ : FI) := rfl
theorem f_7 : p.fs[7]? = some (⟨2, 6, b__law_coin, []⟩ : FI) := rfl
theorem f_8 : p.fs[8]? = some (⟨2, 2, b__law_of, []⟩ : FI) := rfl
theorem f_9 : p.fs[9]? = some (⟨3, 8, b__law_stretch, []⟩ : FI) := rfl
theorem f_10 : p.fs[10]? = some (⟨4, 6, b_first_within, []⟩ : FI) := rfl
theorem f_11 : p.fs[11]? = some (⟨6, 8, b__law_first, []⟩ : FI) := rfl
theorem f_12 : p.fs[12]? = some (⟨2, 2, b__law_divisor, []⟩ : FI) := rfl
theorem f_13 : p.fs[13]? = some (⟨2, 2, b_place, []⟩ : FI) := rfl
theorem f_14 : p.fs[14]? = some (⟨1, 2, b__law_heard, []⟩ : FI) := rfl
theorem f_15 : p.fs[15]? = some (⟨2, 2, b_nearest_rounds, []⟩ : FI) := rfl
theorem f_16 : p.fs[16]? = some (⟨2, 2, b_need_stem, []⟩ : FI) := rfl
theorem f_17 : p.fs[17]? = some (⟨3, 3, b_need_below_one, []⟩ : FI) := rfl
theorem f_18 : p.fs[18]? = some (⟨3, 3, b_is_within, []⟩ : FI) := rfl
theorem f_19 : p.fs[19]? = some (⟨2, 3, b_place_at, []⟩ : FI) := rfl
theorem f_20 : p.fs[20]? = some (⟨2, 2, b_need_integer, []⟩ : FI) := rfl
theorem f_21 : p.fs[21]? = some (⟨1, 2, b_rounds_near, []⟩ : FI) := rfl
theorem f_22 : p.fs[22]? = some (⟨1, 1, b_Ratio_of, []⟩ : FI) := rfl
theorem f_23 : p.fs[23]? = some (⟨1, 1, b_is_ratio, []⟩ : FI) := rfl
theorem f_24 : p.fs[24]? = some (⟨1, 1, b_is_integer, []⟩ : FI) := rfl
theorem f_25 : p.fs[25]? = some (⟨3, 3, b_Stem___init__, []⟩ : FI) := rfl
theorem f_26 : p.fs[26]? = some (⟨2, 2, b_Stem___eq__, []⟩ : FI) := rfl
theorem f_27 : p.fs[27]? = some (⟨3, 4, b_Ratio___init__, [(.int (1))]⟩ : FI) := rfl
theorem f_28 : p.fs[28]? = some (⟨1, 1, b_Ratio_is_whole, []⟩ : FI) := rfl
theorem f_29 : p.fs[29]? = some (⟨1, 1, b_Ratio_below, []⟩ : FI) := rfl
theorem f_30 : p.fs[30]? = some (⟨2, 3, b_Ratio___add__, []⟩ : FI) := rfl
theorem f_31 : p.fs[31]? = some (⟨2, 3, b_Ratio___sub__, []⟩ : FI) := rfl
theorem f_32 : p.fs[32]? = some (⟨2, 3, b_Ratio___mul__, []⟩ : FI) := rfl
theorem f_33 : p.fs[33]? = some (⟨1, 1, b_Ratio___neg__, []⟩ : FI) := rfl
theorem f_34 : p.fs[34]? = some (⟨1, 1, b_Ratio___abs__, []⟩ : FI) := rfl
theorem f_35 : p.fs[35]? = some (⟨2, 4, b_Ratio_compared, []⟩ : FI) := rfl
theorem f_36 : p.fs[36]? = some (⟨2, 2, b_Ratio_is_below, []⟩ : FI) := rfl
theorem f_37 : p.fs[37]? = some (⟨2, 2, b_Ratio___eq__, []⟩ : FI) := rfl
theorem f_38 : p.fs[38]? = some (⟨2, 2, b_rise_of, []⟩ : FI) := rfl
theorem f_39 : p.fs[39]? = some (⟨1, 1, b_other_of, []⟩ : FI) := rfl
theorem f_40 : p.fs[40]? = some (⟨1, 1, b_Ratio_sign, []⟩ : FI) := rfl
theorem c_0 : p.cs[0]? = some (⟨[], [], [], [(.eq, 26)], some 25, [0, 9, 2], [0], true⟩ : CI) := rfl
theorem c_1 : p.cs[1]? = some (⟨[(3, 35), (4, 36)], [(10, 40), (7, 28), (6, 29)], [(5, 22)], [(.add, 30), (.sub, 31), (.mul, 32), (.neg, 33), (.abs, 34), (.eq, 37)], some 27, [8, 11], [1], true⟩ : CI) := rfl
theorem c_len : p.cs.length = 2 := rfl
theorem g_0 : p.gs[0]? = some (.int (1000)) := rfl
theorem k_0_0 : isKs p (.obj 0 []) [.own 0] = some true := rfl
theorem k_0_1 : isKs p (.obj 0 []) [.own 1] = some false := rfl
theorem k_0_2 : isKs p (.obj 0 []) [.ty "int"] = some false := rfl
theorem k_0_3 : isKs p (.obj 0 []) [.ty "bool"] = some false := rfl
theorem k_1_0 : isKs p (.obj 1 []) [.own 0] = some false := rfl
theorem k_1_1 : isKs p (.obj 1 []) [.own 1] = some true := rfl
theorem k_1_2 : isKs p (.obj 1 []) [.ty "int"] = some false := rfl
theorem k_1_3 : isKs p (.obj 1 []) [.ty "bool"] = some false := rfl
theorem k_int_0 : isKs p (.int 0) [.own 0] = some false := rfl
theorem k_int_1 : isKs p (.int 0) [.own 1] = some false := rfl
theorem k_int_2 : isKs p (.int 0) [.ty "int"] = some true := rfl
theorem k_int_3 : isKs p (.int 0) [.ty "bool"] = some false := rfl
theorem k_str_0 : isKs p (.str "") [.own 0] = some false := rfl
theorem k_str_1 : isKs p (.str "") [.own 1] = some false := rfl
theorem k_str_2 : isKs p (.str "") [.ty "int"] = some false := rfl
theorem k_str_3 : isKs p (.str "") [.ty "bool"] = some false := rfl
theorem k_list_0 : isKs p (.lst []) [.own 0] = some false := rfl
theorem k_list_1 : isKs p (.lst []) [.own 1] = some false := rfl
theorem k_list_2 : isKs p (.lst []) [.ty "int"] = some false := rfl
theorem k_list_3 : isKs p (.lst []) [.ty "bool"] = some false := rfl
theorem k_tuple_0 : isKs p (.tup []) [.own 0] = some false := rfl
theorem k_tuple_1 : isKs p (.tup []) [.own 1] = some false := rfl
theorem k_tuple_2 : isKs p (.tup []) [.ty "int"] = some false := rfl
theorem k_tuple_3 : isKs p (.tup []) [.ty "bool"] = some false := rfl
theorem k_NoneType_0 : isKs p .non [.own 0] = some false := rfl
theorem k_NoneType_1 : isKs p .non [.own 1] = some false := rfl
theorem k_NoneType_2 : isKs p .non [.ty "int"] = some false := rfl
theorem k_NoneType_3 : isKs p .non [.ty "bool"] = some false := rfl
theorem ks_i {i : Int} (l : List IK) : isKs p (.int i) l = isKs p (.int 0) l := by
  induction l with
  | nil => rfl
  | cons k l ih =>
    have : isK p (.int i) k = isK p (.int 0) k := by cases k <;> rfl
    simp only [isKs, this, ih]
theorem ks_s {i : PySem.Str} (l : List IK) : isKs p (.str i) l = isKs p (.str "") l := by
  induction l with
  | nil => rfl
  | cons k l ih =>
    have : isK p (.str i) k = isK p (.str "") k := by cases k <;> rfl
    simp only [isKs, this, ih]
theorem ks_l {i : List D} (l : List IK) : isKs p (.lst i) l = isKs p (.lst []) l := by
  induction l with
  | nil => rfl
  | cons k l ih =>
    have : isK p (.lst i) k = isK p (.lst []) k := by cases k <;> rfl
    simp only [isKs, this, ih]
theorem ks_t {i : List D} (l : List IK) : isKs p (.tup i) l = isKs p (.tup []) l := by
  induction l with
  | nil => rfl
  | cons k l ih =>
    have : isK p (.tup i) k = isK p (.tup []) k := by cases k <;> rfl
    simp only [isKs, this, ih]
theorem ks_o {c : Nat} {fs : List (Nat × D)} (l : List IK) : isKs p (.obj c fs) l = isKs p (.obj c []) l := by
  induction l with
  | nil => rfl
  | cons k l ih =>
    have : isK p (.obj c fs) k = isK p (.obj c []) k := by cases k <;> rfl
    simp only [isKs, this, ih]
end K14
end

section
set_option maxRecDepth 100000
set_option maxHeartbeats 4000000
set_option exponentiation.threshold 9000
namespace K14
open Mi Ma
/-! ### a def's run, unfolded once -/
def finF (o : Out) : Res := match o with
  | .nx _ S' => .ok .non S'
  | .ret d _ S' => .ok d S'
  | .exc c fs _ S' => .exc c fs S'
  | _ => .bad
def finN (c : Nat) (o : Out) : Res := match o with
  | .nx fr S' => (match fr.self with
    | some (c', fs) => if c' = c then .ok (.obj c fs) S' else .bad
    | none => .bad)
  | .exc c fs _ S' => .exc c fs S'
  | _ => .bad
theorem run_fn {P : Pg} {k f : Nat} {ds : List D} {S : Store} {fi : FI} (h : P.fs[f]? = some fi) (hl : ds.length = fi.np) :
    run P (k + 1) (.fn f ds) S = finF (evSs P (run P k) fi.body ⟨Mi.start fi.ns (ds.map some), none⟩ S) := by
  simp only [run, h, hl, if_true]
  rfl
theorem run_low {P : Pg} {k f : Nat} {ds : List D} {S : Store} : run P (k + 1) (.low f ds) S = run P k (.fn f ds) S := rfl
/-- a body that ends without a return -/
theorem run_new {P : Pg} {k c f : Nat} {ds : List D} {S S' : Store} {ci : CI} {fi : FI} {q : Fr} {gs : List (Nat × D)} (h : P.cs[c]? = some ci) (hi : ci.init = some f) (hf : P.fs[f]? = some fi) (hl : ds.length + 1 = fi.np) (hz : ci.frozen = true)
    (e : evSs P (run P k) fi.body ⟨Mi.start fi.ns (none :: ds.map some), some (c, [])⟩ S = .nx q S') (eq : q.self = some (c, gs)) : run P (k + 2) (.new c ds) S = .ok (.obj c gs) S' := by
  simp only [run, h, hi, hf, hl, if_true, e, eq, hz, Res.bind]
/-! ### == of plain values -/
section
variable {P : Pg} {call : Call} {S : Store}
theorem okD_int (i : Int) : okD (.int i) = some (.int i) := by simp [okD, pyD, PySem.SeqAt.shaped, PySem.PyData.canLay0, PySem.PyData.depth]
theorem okD_bl (i : Bool) : okD (.bl i) = some (.bool i) := by simp [okD, pyD, PySem.SeqAt.shaped, PySem.PyData.canLay0, PySem.PyData.depth]
theorem okD_non : okD .non = some .none := by simp [okD, pyD, PySem.SeqAt.shaped, PySem.PyData.canLay0, PySem.PyData.depth]
theorem okD_str {s : PySem.Str} (h : PySem.PyData.strOk s = true) : okD (.str s) = some (.str s) := by simp [okD, pyD, PySem.SeqAt.shaped, PySem.PyData.canLay0, PySem.PyData.depth, h]
theorem okD_obj (c : Nat) (fs : List (Nat × D)) : okD (.obj c fs) = none := by simp [okD, pyD]
theorem eqM_ii (i j : Int) : eqM P call (.int i) (.int j) S = .ok (.bl (decide (i = j))) S := by simp [eqM, okD_int, PySem.PyData.eqv]; try rfl
theorem eqM_bb (i j : Bool) : eqM P call (.bl i) (.bl j) S = .ok (.bl (decide (i = j))) S := by simp [eqM, okD_bl, PySem.PyData.eqv]; try rfl
theorem eqM_ss {i j : PySem.Str} (hi : PySem.PyData.strOk i = true) (hj : PySem.PyData.strOk j = true) : eqM P call (.str i) (.str j) S = .ok (.bl (decide (i = j))) S := by simp [eqM, okD_str hi, okD_str hj, PySem.PyData.eqv]; try rfl
theorem eqM_oo (c d : Nat) (fs gs : List (Nat × D)) : eqM P call (.obj c fs) (.obj d gs) S = eqOwn P call (.obj c fs) (.obj d gs) S := by simp [eqM, okD_obj, eqDeep]
theorem eqM_oi (c : Nat) (j : Int) (fs : List (Nat × D)) : eqM P call (.obj c fs) (.int j) S = eqOwn P call (.obj c fs) (.int j) S := by simp [eqM, okD_obj, eqDeep]
theorem neM_ii (i j : Int) : neM P call (.int i) (.int j) S = .ok (.bl !(decide (i = j))) S := by simp [neM, okD_int, PySem.PyData.eqv]; try rfl
theorem neM_bb (i j : Bool) : neM P call (.bl i) (.bl j) S = .ok (.bl !(decide (i = j))) S := by simp [neM, okD_bl, PySem.PyData.eqv]; try rfl
theorem neM_ss {i j : PySem.Str} (hi : PySem.PyData.strOk i = true) (hj : PySem.PyData.strOk j = true) : neM P call (.str i) (.str j) S = .ok (.bl !(decide (i = j))) S := by simp [neM, okD_str hi, okD_str hj, PySem.PyData.eqv]; try rfl
theorem neM_oo (c d : Nat) (fs gs : List (Nat × D)) : neM P call (.obj c fs) (.obj d gs) S = neOwn P call (.obj c fs) (.obj d gs) S := by simp [neM, okD_obj, eqDeep]
theorem neM_oi (c : Nat) (j : Int) (fs : List (Nat × D)) : neM P call (.obj c fs) (.int j) S = neOwn P call (.obj c fs) (.int j) S := by simp [neM, okD_obj, eqDeep]
end
/-! ### folded values -/
/-- a ratio as the text's own value -/
def ra (q : Rat) : D := .obj 1 [(8, .int q.num), (11, .int q.den)]
section
variable {call : Call} {S : Store} {q r : Rat} {i j : Int}
theorem at_top : attrM p call (ra q) 8 S = .ok (.int q.num) S := by simp [ra, attrM, attrI, c_1, List.lookup]
theorem at_bot : attrM p call (ra q) 11 S = .ok (.int q.den) S := by simp [ra, attrM, attrI, c_1, List.lookup]
theorem isK_ra (k : IK) : isK p (ra q) k = isK p (.obj 1 []) k := by cases k <;> rfl
theorem ks_ra (l : List IK) : isKs p (ra q) l = isKs p (.obj 1 []) l := by
  induction l with
  | nil => rfl
  | cons k l ih => simp only [isKs, isK_ra, ih]
theorem bin_ii (op : Bop) : binM p call op (.int i) (.int j) S = (match op with
  | .add => .ok (.int (i + j)) S
  | .sub => .ok (.int (i - j)) S
  | .mul => if Mu i j then .ok (.int (i * j)) S else .bad
  | .fdiv => if j != 0 && Sz j then .ok (.int (i.fdiv j)) S else .bad
  | .mod => if j != 0 then .ok (.int (i.fmod j)) S else .bad
  | .pow => if decide (0 ≤ j) && decide (j ≤ 100000) && decide (i.natAbs < 2 ^ 64) then .ok (.int (i ^ j.toNat)) S else .bad) := rfl
theorem bin_ra_add : binM p call .add (ra q) (ra r) S = call (.fn 30 [ra q, ra r]) S := rfl
theorem bin_ra_sub : binM p call .sub (ra q) (ra r) S = call (.fn 31 [ra q, ra r]) S := rfl
theorem bin_ra_mul : binM p call .mul (ra q) (ra r) S = call (.fn 32 [ra q, ra r]) S := rfl
theorem bin_ra_addi : binM p call .add (ra q) (.int i) S = call (.fn 30 [ra q, .int i]) S := rfl
theorem bin_ra_subi : binM p call .sub (ra q) (.int i) S = call (.fn 31 [ra q, .int i]) S := rfl
theorem bin_ra_muli : binM p call .mul (ra q) (.int i) S = call (.fn 32 [ra q, .int i]) S := rfl
theorem neg_ra : negM p call (ra q) S = call (.fn 33 [ra q]) S := rfl
theorem neg_i : negM p call (.int i) S = .ok (.int (-i)) S := rfl
theorem eqM_rr : eqM p call (ra q) (ra r) S = asBool (call (.fn 37 [ra q, ra r]) S) := by
  unfold ra; rw [eqM_oo]; rfl
theorem eqM_ri : eqM p call (ra q) (.int i) S = asBool (call (.fn 37 [ra q, .int i]) S) := by
  unfold ra; rw [eqM_oi]; rfl
theorem neM_rr : neM p call (ra q) (ra r) S = flipB (call (.low 37 [ra q, ra r]) S) := by
  unfold ra; rw [neM_oo]; rfl
theorem neM_ri : neM p call (ra q) (.int i) S = flipB (call (.low 37 [ra q, .int i]) S) := by
  unfold ra; rw [neM_oi]; rfl
end
theorem s_is_int (k : Nat) (i : Int) (S : Store) : run p (k + 1) (.fn 24 [.int i]) S = .ok (.bl true) S := by
  rw [run_fn f_24 rfl]
  simp [finF, b_is_integer, evSs, evS, evE, evEs, evO, evT, evI, Res.bind, Res.bindL, Res.bindO, ResL.bind, ResL.bindL, ResL.bindO, Mi.start, truth, callM, fill, newM, selfM, putM, putMs, putD, noExc, putP, putPs, evPar, elems, cmpM, cmpI, bin_ii, biM, neg_i, lenB, isND, idxM, iniM, partD, asBool, flipB, eqM_ii, eqM_ss, eqM_bb, eqM_rr, eqM_ri, neM_ii, neM_ss, neM_bb, neM_rr, neM_ri, ks_ra, ks_i, ks_s, ks_l, ks_t, at_top, at_bot, bin_ra_add, bin_ra_sub, bin_ra_mul, bin_ra_addi, bin_ra_subi, bin_ra_muli, neg_ra, raisM, k_0_0, k_0_1, k_0_2, k_0_3, k_1_0, k_1_1, k_1_2, k_1_3, k_int_0, k_int_1, k_int_2, k_int_3, k_str_0, k_str_1, k_str_2, k_str_3, k_list_0, k_list_1, k_list_2, k_list_3, k_tuple_0, k_tuple_1, k_tuple_2, k_tuple_3, k_NoneType_0, k_NoneType_1, k_NoneType_2, k_NoneType_3, g_0, List.lookup]
theorem s_is_int_ra (k : Nat) (q : Rat) (S : Store) : run p (k + 1) (.fn 24 [ra q]) S = .ok (.bl false) S := by
  rw [run_fn f_24 rfl]
  simp [finF, b_is_integer, evSs, evS, evE, evEs, evO, evT, evI, Res.bind, Res.bindL, Res.bindO, ResL.bind, ResL.bindL, ResL.bindO, Mi.start, truth, callM, fill, newM, selfM, putM, putMs, putD, noExc, putP, putPs, evPar, elems, cmpM, cmpI, bin_ii, biM, neg_i, lenB, isND, idxM, iniM, partD, asBool, flipB, eqM_ii, eqM_ss, eqM_bb, eqM_rr, eqM_ri, neM_ii, neM_ss, neM_bb, neM_rr, neM_ri, ks_ra, ks_i, ks_s, ks_l, ks_t, at_top, at_bot, bin_ra_add, bin_ra_sub, bin_ra_mul, bin_ra_addi, bin_ra_subi, bin_ra_muli, neg_ra, raisM, k_0_0, k_0_1, k_0_2, k_0_3, k_1_0, k_1_1, k_1_2, k_1_3, k_int_0, k_int_1, k_int_2, k_int_3, k_str_0, k_str_1, k_str_2, k_str_3, k_list_0, k_list_1, k_list_2, k_list_3, k_tuple_0, k_tuple_1, k_tuple_2, k_tuple_3, k_NoneType_0, k_NoneType_1, k_NoneType_2, k_NoneType_3, g_0, List.lookup]
theorem sz_gcd {a b : Int} (h : b ≠ 0) (hb : Sz b = true) : Sz (Int.gcd a b) = true := by
  unfold Sz at *
  rw [Nat.blt_eq] at *
  have : (Int.gcd a b) ≤ b.natAbs := Nat.le_of_dvd (by omega) (Nat.gcd_dvd_right _ _)
  have e : ((Int.gcd a b : Int)).natAbs = Int.gcd a b := by omega
  rw [e]
  exact Nat.lt_of_le_of_lt this hb
theorem sz_neg (a : Int) : Sz (-a) = Sz a := by unfold Sz; rw [Int.natAbs_neg]
theorem s_ratio (k : Nat) (a b : Int) (S : Store) (h : b ≠ 0) (hb : Sz b = true) : run p (k + 3) (.new 1 [.int a, .int b]) S = .ok (ra (rt a b)) S := by
  have g0 : (Int.gcd a b : Int) ≠ 0 := by
    have := Int.gcd_ne_zero_right (a := a) h
    omega
  have g1 : ¬ (-(Int.gcd a b : Int)) = 0 := by omega
  have hs := sz_gcd (a := a) h hb
  show _ = Res.ok (.obj 1 [(8, .int (rt a b).num), (11, .int (rt a b).den)]) S
  rw [rt_num h, rt_den h]
  by_cases hn : b < 0
  · refine run_new c_1 rfl f_27 rfl rfl (q := ⟨[none, some (.int a), some (.int b), some (.int (-(Int.gcd a b : Int)))], _⟩) ?_ rfl
    simp [c_1, f_24, b_Ratio___init__, evSs, evS, evE, evEs, evO, evT, evI, Res.bind, Res.bindL, Res.bindO, ResL.bind, ResL.bindL, ResL.bindO, Mi.start, truth, callM, fill, newM, selfM, putM, putMs, putD, noExc, putP, putPs, evPar, elems, cmpM, cmpI, bin_ii, biM, neg_i, lenB, isND, idxM, iniM, partD, asBool, flipB, eqM_ii, eqM_ss, eqM_bb, eqM_rr, eqM_ri, neM_ii, neM_ss, neM_bb, neM_rr, neM_ri, ks_ra, ks_i, ks_s, ks_l, ks_t, at_top, at_bot, bin_ra_add, bin_ra_sub, bin_ra_mul, bin_ra_addi, bin_ra_subi, bin_ra_muli, neg_ra, raisM, k_0_0, k_0_1, k_0_2, k_0_3, k_1_0, k_1_1, k_1_2, k_1_3, k_int_0, k_int_1, k_int_2, k_int_3, k_str_0, k_str_1, k_str_2, k_str_3, k_list_0, k_list_1, k_list_2, k_list_3, k_tuple_0, k_tuple_1, k_tuple_2, k_tuple_3, k_NoneType_0, k_NoneType_1, k_NoneType_2, k_NoneType_3, g_0, List.lookup, s_is_int, h, hn, g0, g1, hs, sz_neg]
  · refine run_new c_1 rfl f_27 rfl rfl (q := ⟨[none, some (.int a), some (.int b), some (.int (Int.gcd a b : Int))], _⟩) ?_ rfl
    simp [c_1, f_24, b_Ratio___init__, evSs, evS, evE, evEs, evO, evT, evI, Res.bind, Res.bindL, Res.bindO, ResL.bind, ResL.bindL, ResL.bindO, Mi.start, truth, callM, fill, newM, selfM, putM, putMs, putD, noExc, putP, putPs, evPar, elems, cmpM, cmpI, bin_ii, biM, neg_i, lenB, isND, idxM, iniM, partD, asBool, flipB, eqM_ii, eqM_ss, eqM_bb, eqM_rr, eqM_ri, neM_ii, neM_ss, neM_bb, neM_rr, neM_ri, ks_ra, ks_i, ks_s, ks_l, ks_t, at_top, at_bot, bin_ra_add, bin_ra_sub, bin_ra_mul, bin_ra_addi, bin_ra_subi, bin_ra_muli, neg_ra, raisM, k_0_0, k_0_1, k_0_2, k_0_3, k_1_0, k_1_1, k_1_2, k_1_3, k_int_0, k_int_1, k_int_2, k_int_3, k_str_0, k_str_1, k_str_2, k_str_3, k_list_0, k_list_1, k_list_2, k_list_3, k_tuple_0, k_tuple_1, k_tuple_2, k_tuple_3, k_NoneType_0, k_NoneType_1, k_NoneType_2, k_NoneType_3, g_0, List.lookup, s_is_int, h, hn, g0, g1, hs, sz_neg]
/-! ### a ratio's methods -/
theorem mu_of {a b : Int} (ha : a.natAbs < 2 ^ 3900) (hb : b.natAbs < 2 ^ 3900) : Mu a b = true := by
  have l : (2 : Nat) ^ 3900 ≤ big := Nat.pow_le_pow_right (by omega) (by omega)
  unfold Mu Sz
  simp only [Bool.or_eq_true, Bool.and_eq_true, Nat.blt_eq]
  exact .inr (.inr ⟨Nat.lt_of_lt_of_le ha l, Nat.lt_of_lt_of_le hb l⟩)
theorem sz_of {a : Int} {e : Nat} (ha : a.natAbs < 2 ^ e) (he : e ≤ 8000) : Sz a = true := by
  unfold Sz
  rw [Nat.blt_eq]
  exact Nat.lt_of_lt_of_le ha (Nat.pow_le_pow_right (by omega) he)
/-- a value that stands for a ratio: a ratio, an integer -/
def asR (d : D) (q : Rat) : Prop := d = ra q ∨ ∃ i : Int, d = .int i ∧ q = (i : Rat)
theorem asR.ra (q : Rat) : asR (ra q) q := .inl rfl
theorem asR.int (i : Int) : asR (.int i) (i : Rat) := .inr ⟨i, rfl, rfl⟩
theorem s_other (k : Nat) {d : D} {q : Rat} (h : asR d q) (S : Store) : run p (k + 4) (.fn 39 [d]) S = .ok (ra q) S := by
  rw [run_fn f_39 rfl]
  rcases h with rfl | ⟨i, rfl, rfl⟩
  · simp [finF, b_other_of, evSs, evS, evE, evEs, evO, evT, evI, Res.bind, Res.bindL, Res.bindO, ResL.bind, ResL.bindL, ResL.bindO, Mi.start, truth, callM, fill, newM, selfM, putM, putMs, putD, noExc, putP, putPs, evPar, elems, cmpM, cmpI, bin_ii, biM, neg_i, lenB, isND, idxM, iniM, partD, asBool, flipB, eqM_ii, eqM_ss, eqM_bb, eqM_rr, eqM_ri, neM_ii, neM_ss, neM_bb, neM_rr, neM_ri, ks_ra, ks_i, ks_s, ks_l, ks_t, at_top, at_bot, bin_ra_add, bin_ra_sub, bin_ra_mul, bin_ra_addi, bin_ra_subi, bin_ra_muli, neg_ra, raisM, k_0_0, k_0_1, k_0_2, k_0_3, k_1_0, k_1_1, k_1_2, k_1_3, k_int_0, k_int_1, k_int_2, k_int_3, k_str_0, k_str_1, k_str_2, k_str_3, k_list_0, k_list_1, k_list_2, k_list_3, k_tuple_0, k_tuple_1, k_tuple_2, k_tuple_3, k_NoneType_0, k_NoneType_1, k_NoneType_2, k_NoneType_3, g_0, List.lookup]
  · have := s_ratio k i 1 S (by omega) (by decide)
    rw [rt_one] at this
    simp [finF, b_other_of, evSs, evS, evE, evEs, evO, evT, evI, Res.bind, Res.bindL, Res.bindO, ResL.bind, ResL.bindL, ResL.bindO, Mi.start, truth, callM, fill, newM, selfM, putM, putMs, putD, noExc, putP, putPs, evPar, elems, cmpM, cmpI, bin_ii, biM, neg_i, lenB, isND, idxM, iniM, partD, asBool, flipB, eqM_ii, eqM_ss, eqM_bb, eqM_rr, eqM_ri, neM_ii, neM_ss, neM_bb, neM_rr, neM_ri, ks_ra, ks_i, ks_s, ks_l, ks_t, at_top, at_bot, bin_ra_add, bin_ra_sub, bin_ra_mul, bin_ra_addi, bin_ra_subi, bin_ra_muli, neg_ra, raisM, k_0_0, k_0_1, k_0_2, k_0_3, k_1_0, k_1_1, k_1_2, k_1_3, k_int_0, k_int_1, k_int_2, k_int_3, k_str_0, k_str_1, k_str_2, k_str_3, k_list_0, k_list_1, k_list_2, k_list_3, k_tuple_0, k_tuple_1, k_tuple_2, k_tuple_3, k_NoneType_0, k_NoneType_1, k_NoneType_2, k_NoneType_3, g_0, List.lookup, c_1, f_24, s_is_int, f_27, this]
theorem s_add (k : Nat) {p0 q : Rat} {d : D} (hp : Lw 3900 p0) (hq : Lw 3900 q) (h : asR d q) (S : Store) : run p (k + 5) (.fn 30 [ra p0, d]) S = .ok (ra (p0 + q)) S := by
  rw [run_fn f_30 rfl]
  have o := s_other k h S
  have n := s_ratio (k + 1) (p0.num * q.den + q.num * p0.den) (p0.den * q.den) S (Int.mul_ne_zero (den0 _) (den0 _)) (sz_of (ab_mul hp.di hq.di) (by omega))
  rw [rt_add] at n
  simp [finF, b_Ratio___add__, evSs, evS, evE, evEs, evO, evT, evI, Res.bind, Res.bindL, Res.bindO, ResL.bind, ResL.bindL, ResL.bindO, Mi.start, truth, callM, fill, newM, selfM, putM, putMs, putD, noExc, putP, putPs, evPar, elems, cmpM, cmpI, bin_ii, biM, neg_i, lenB, isND, idxM, iniM, partD, asBool, flipB, eqM_ii, eqM_ss, eqM_bb, eqM_rr, eqM_ri, neM_ii, neM_ss, neM_bb, neM_rr, neM_ri, ks_ra, ks_i, ks_s, ks_l, ks_t, at_top, at_bot, bin_ra_add, bin_ra_sub, bin_ra_mul, bin_ra_addi, bin_ra_subi, bin_ra_muli, neg_ra, raisM, k_0_0, k_0_1, k_0_2, k_0_3, k_1_0, k_1_1, k_1_2, k_1_3, k_int_0, k_int_1, k_int_2, k_int_3, k_str_0, k_str_1, k_str_2, k_str_3, k_list_0, k_list_1, k_list_2, k_list_3, k_tuple_0, k_tuple_1, k_tuple_2, k_tuple_3, k_NoneType_0, k_NoneType_1, k_NoneType_2, k_NoneType_3, g_0, List.lookup, c_1, f_39, f_27, o, mu_of hp.n hq.di, mu_of hq.n hp.di, mu_of hp.di hq.di, mu_of hp.n hq.n, n]
theorem s_sub (k : Nat) {p0 q : Rat} {d : D} (hp : Lw 3900 p0) (hq : Lw 3900 q) (h : asR d q) (S : Store) : run p (k + 5) (.fn 31 [ra p0, d]) S = .ok (ra (p0 - q)) S := by
  rw [run_fn f_31 rfl]
  have o := s_other k h S
  have n := s_ratio (k + 1) (p0.num * q.den - q.num * p0.den) (p0.den * q.den) S (Int.mul_ne_zero (den0 _) (den0 _)) (sz_of (ab_mul hp.di hq.di) (by omega))
  rw [rt_sub] at n
  simp [finF, b_Ratio___sub__, evSs, evS, evE, evEs, evO, evT, evI, Res.bind, Res.bindL, Res.bindO, ResL.bind, ResL.bindL, ResL.bindO, Mi.start, truth, callM, fill, newM, selfM, putM, putMs, putD, noExc, putP, putPs, evPar, elems, cmpM, cmpI, bin_ii, biM, neg_i, lenB, isND, idxM, iniM, partD, asBool, flipB, eqM_ii, eqM_ss, eqM_bb, eqM_rr, eqM_ri, neM_ii, neM_ss, neM_bb, neM_rr, neM_ri, ks_ra, ks_i, ks_s, ks_l, ks_t, at_top, at_bot, bin_ra_add, bin_ra_sub, bin_ra_mul, bin_ra_addi, bin_ra_subi, bin_ra_muli, neg_ra, raisM, k_0_0, k_0_1, k_0_2, k_0_3, k_1_0, k_1_1, k_1_2, k_1_3, k_int_0, k_int_1, k_int_2, k_int_3, k_str_0, k_str_1, k_str_2, k_str_3, k_list_0, k_list_1, k_list_2, k_list_3, k_tuple_0, k_tuple_1, k_tuple_2, k_tuple_3, k_NoneType_0, k_NoneType_1, k_NoneType_2, k_NoneType_3, g_0, List.lookup, c_1, f_39, f_27, o, mu_of hp.n hq.di, mu_of hq.n hp.di, mu_of hp.di hq.di, mu_of hp.n hq.n, n]
theorem s_mul (k : Nat) {p0 q : Rat} {d : D} (hp : Lw 3900 p0) (hq : Lw 3900 q) (h : asR d q) (S : Store) : run p (k + 5) (.fn 32 [ra p0, d]) S = .ok (ra (p0 * q)) S := by
  rw [run_fn f_32 rfl]
  have o := s_other k h S
  have n := s_ratio (k + 1) (p0.num * q.num) (p0.den * q.den) S (Int.mul_ne_zero (den0 _) (den0 _)) (sz_of (ab_mul hp.di hq.di) (by omega))
  rw [rt_mul] at n
  simp [finF, b_Ratio___mul__, evSs, evS, evE, evEs, evO, evT, evI, Res.bind, Res.bindL, Res.bindO, ResL.bind, ResL.bindL, ResL.bindO, Mi.start, truth, callM, fill, newM, selfM, putM, putMs, putD, noExc, putP, putPs, evPar, elems, cmpM, cmpI, bin_ii, biM, neg_i, lenB, isND, idxM, iniM, partD, asBool, flipB, eqM_ii, eqM_ss, eqM_bb, eqM_rr, eqM_ri, neM_ii, neM_ss, neM_bb, neM_rr, neM_ri, ks_ra, ks_i, ks_s, ks_l, ks_t, at_top, at_bot, bin_ra_add, bin_ra_sub, bin_ra_mul, bin_ra_addi, bin_ra_subi, bin_ra_muli, neg_ra, raisM, k_0_0, k_0_1, k_0_2, k_0_3, k_1_0, k_1_1, k_1_2, k_1_3, k_int_0, k_int_1, k_int_2, k_int_3, k_str_0, k_str_1, k_str_2, k_str_3, k_list_0, k_list_1, k_list_2, k_list_3, k_tuple_0, k_tuple_1, k_tuple_2, k_tuple_3, k_NoneType_0, k_NoneType_1, k_NoneType_2, k_NoneType_3, g_0, List.lookup, c_1, f_39, f_27, o, mu_of hp.n hq.di, mu_of hq.n hp.di, mu_of hp.di hq.di, mu_of hp.n hq.n, n]
theorem s_neg (k : Nat) {q : Rat} (hq : Lw 3900 q) (S : Store) : run p (k + 4) (.fn 33 [ra q]) S = .ok (ra (-q)) S := by
  rw [run_fn f_33 rfl]
  have n := s_ratio k (-q.num) q.den S (den0 _) (sz_of hq.di (by omega))
  rw [rt_neg] at n
  simp [finF, b_Ratio___neg__, evSs, evS, evE, evEs, evO, evT, evI, Res.bind, Res.bindL, Res.bindO, ResL.bind, ResL.bindL, ResL.bindO, Mi.start, truth, callM, fill, newM, selfM, putM, putMs, putD, noExc, putP, putPs, evPar, elems, cmpM, cmpI, bin_ii, biM, neg_i, lenB, isND, idxM, iniM, partD, asBool, flipB, eqM_ii, eqM_ss, eqM_bb, eqM_rr, eqM_ri, neM_ii, neM_ss, neM_bb, neM_rr, neM_ri, ks_ra, ks_i, ks_s, ks_l, ks_t, at_top, at_bot, bin_ra_add, bin_ra_sub, bin_ra_mul, bin_ra_addi, bin_ra_subi, bin_ra_muli, neg_ra, raisM, k_0_0, k_0_1, k_0_2, k_0_3, k_1_0, k_1_1, k_1_2, k_1_3, k_int_0, k_int_1, k_int_2, k_int_3, k_str_0, k_str_1, k_str_2, k_str_3, k_list_0, k_list_1, k_list_2, k_list_3, k_tuple_0, k_tuple_1, k_tuple_2, k_tuple_3, k_NoneType_0, k_NoneType_1, k_NoneType_2, k_NoneType_3, g_0, List.lookup, c_1, f_27, n]
theorem s_eq (k : Nat) (q r : Rat) (S : Store) : run p (k + 1) (.fn 37 [ra q, ra r]) S = .ok (.bl (decide (q = r))) S := by
  rw [run_fn f_37 rfl]
  by_cases h : q.num = r.num
  · by_cases h2 : q.den = r.den
    · have : q = r := Rat.ext h h2
      subst this
      simp [finF, b_Ratio___eq__, evSs, evS, evE, evEs, evO, evT, evI, Res.bind, Res.bindL, Res.bindO, ResL.bind, ResL.bindL, ResL.bindO, Mi.start, truth, callM, fill, newM, selfM, putM, putMs, putD, noExc, putP, putPs, evPar, elems, cmpM, cmpI, bin_ii, biM, neg_i, lenB, isND, idxM, iniM, partD, asBool, flipB, eqM_ii, eqM_ss, eqM_bb, eqM_rr, eqM_ri, neM_ii, neM_ss, neM_bb, neM_rr, neM_ri, ks_ra, ks_i, ks_s, ks_l, ks_t, at_top, at_bot, bin_ra_add, bin_ra_sub, bin_ra_mul, bin_ra_addi, bin_ra_subi, bin_ra_muli, neg_ra, raisM, k_0_0, k_0_1, k_0_2, k_0_3, k_1_0, k_1_1, k_1_2, k_1_3, k_int_0, k_int_1, k_int_2, k_int_3, k_str_0, k_str_1, k_str_2, k_str_3, k_list_0, k_list_1, k_list_2, k_list_3, k_tuple_0, k_tuple_1, k_tuple_2, k_tuple_3, k_NoneType_0, k_NoneType_1, k_NoneType_2, k_NoneType_3, g_0, List.lookup]
    · have : q ≠ r := fun z => h2 (by rw [z])
      have h3 : ¬ (q.den : Int) = r.den := by omega
      simp [finF, b_Ratio___eq__, evSs, evS, evE, evEs, evO, evT, evI, Res.bind, Res.bindL, Res.bindO, ResL.bind, ResL.bindL, ResL.bindO, Mi.start, truth, callM, fill, newM, selfM, putM, putMs, putD, noExc, putP, putPs, evPar, elems, cmpM, cmpI, bin_ii, biM, neg_i, lenB, isND, idxM, iniM, partD, asBool, flipB, eqM_ii, eqM_ss, eqM_bb, eqM_rr, eqM_ri, neM_ii, neM_ss, neM_bb, neM_rr, neM_ri, ks_ra, ks_i, ks_s, ks_l, ks_t, at_top, at_bot, bin_ra_add, bin_ra_sub, bin_ra_mul, bin_ra_addi, bin_ra_subi, bin_ra_muli, neg_ra, raisM, k_0_0, k_0_1, k_0_2, k_0_3, k_1_0, k_1_1, k_1_2, k_1_3, k_int_0, k_int_1, k_int_2, k_int_3, k_str_0, k_str_1, k_str_2, k_str_3, k_list_0, k_list_1, k_list_2, k_list_3, k_tuple_0, k_tuple_1, k_tuple_2, k_tuple_3, k_NoneType_0, k_NoneType_1, k_NoneType_2, k_NoneType_3, g_0, List.lookup, h, h2, h3, this]
  · have : q ≠ r := fun z => h (by rw [z])
    simp [finF, b_Ratio___eq__, evSs, evS, evE, evEs, evO, evT, evI, Res.bind, Res.bindL, Res.bindO, ResL.bind, ResL.bindL, ResL.bindO, Mi.start, truth, callM, fill, newM, selfM, putM, putMs, putD, noExc, putP, putPs, evPar, elems, cmpM, cmpI, bin_ii, biM, neg_i, lenB, isND, idxM, iniM, partD, asBool, flipB, eqM_ii, eqM_ss, eqM_bb, eqM_rr, eqM_ri, neM_ii, neM_ss, neM_bb, neM_rr, neM_ri, ks_ra, ks_i, ks_s, ks_l, ks_t, at_top, at_bot, bin_ra_add, bin_ra_sub, bin_ra_mul, bin_ra_addi, bin_ra_subi, bin_ra_muli, neg_ra, raisM, k_0_0, k_0_1, k_0_2, k_0_3, k_1_0, k_1_1, k_1_2, k_1_3, k_int_0, k_int_1, k_int_2, k_int_3, k_str_0, k_str_1, k_str_2, k_str_3, k_list_0, k_list_1, k_list_2, k_list_3, k_tuple_0, k_tuple_1, k_tuple_2, k_tuple_3, k_NoneType_0, k_NoneType_1, k_NoneType_2, k_NoneType_3, g_0, List.lookup, h, this]
theorem s_eqi (k : Nat) (q : Rat) (i : Int) (S : Store) : run p (k + 2) (.fn 37 [ra q, .int i]) S = .ok (.bl (decide (q = (i : Rat)))) S := by
  rw [run_fn f_37 rfl]
  by_cases h : q.den = 1
  · by_cases h2 : q.num = i
    · have : q = (i : Rat) := (eq_int q i).mp ⟨h, h2⟩
      simp [finF, b_Ratio___eq__, evSs, evS, evE, evEs, evO, evT, evI, Res.bind, Res.bindL, Res.bindO, ResL.bind, ResL.bindL, ResL.bindO, Mi.start, truth, callM, fill, newM, selfM, putM, putMs, putD, noExc, putP, putPs, evPar, elems, cmpM, cmpI, bin_ii, biM, neg_i, lenB, isND, idxM, iniM, partD, asBool, flipB, eqM_ii, eqM_ss, eqM_bb, eqM_rr, eqM_ri, neM_ii, neM_ss, neM_bb, neM_rr, neM_ri, ks_ra, ks_i, ks_s, ks_l, ks_t, at_top, at_bot, bin_ra_add, bin_ra_sub, bin_ra_mul, bin_ra_addi, bin_ra_subi, bin_ra_muli, neg_ra, raisM, k_0_0, k_0_1, k_0_2, k_0_3, k_1_0, k_1_1, k_1_2, k_1_3, k_int_0, k_int_1, k_int_2, k_int_3, k_str_0, k_str_1, k_str_2, k_str_3, k_list_0, k_list_1, k_list_2, k_list_3, k_tuple_0, k_tuple_1, k_tuple_2, k_tuple_3, k_NoneType_0, k_NoneType_1, k_NoneType_2, k_NoneType_3, g_0, List.lookup, f_24, s_is_int, h, h2, this]
    · have : q ≠ (i : Rat) := fun z => h2 ((eq_int q i).mpr z).2
      simp [finF, b_Ratio___eq__, evSs, evS, evE, evEs, evO, evT, evI, Res.bind, Res.bindL, Res.bindO, ResL.bind, ResL.bindL, ResL.bindO, Mi.start, truth, callM, fill, newM, selfM, putM, putMs, putD, noExc, putP, putPs, evPar, elems, cmpM, cmpI, bin_ii, biM, neg_i, lenB, isND, idxM, iniM, partD, asBool, flipB, eqM_ii, eqM_ss, eqM_bb, eqM_rr, eqM_ri, neM_ii, neM_ss, neM_bb, neM_rr, neM_ri, ks_ra, ks_i, ks_s, ks_l, ks_t, at_top, at_bot, bin_ra_add, bin_ra_sub, bin_ra_mul, bin_ra_addi, bin_ra_subi, bin_ra_muli, neg_ra, raisM, k_0_0, k_0_1, k_0_2, k_0_3, k_1_0, k_1_1, k_1_2, k_1_3, k_int_0, k_int_1, k_int_2, k_int_3, k_str_0, k_str_1, k_str_2, k_str_3, k_list_0, k_list_1, k_list_2, k_list_3, k_tuple_0, k_tuple_1, k_tuple_2, k_tuple_3, k_NoneType_0, k_NoneType_1, k_NoneType_2, k_NoneType_3, g_0, List.lookup, f_24, s_is_int, h, h2, this]
  · have : q ≠ (i : Rat) := fun z => h ((eq_int q i).mpr z).1
    have h' : ¬ (q.den : Int) = 1 := by omega
    simp [finF, b_Ratio___eq__, evSs, evS, evE, evEs, evO, evT, evI, Res.bind, Res.bindL, Res.bindO, ResL.bind, ResL.bindL, ResL.bindO, Mi.start, truth, callM, fill, newM, selfM, putM, putMs, putD, noExc, putP, putPs, evPar, elems, cmpM, cmpI, bin_ii, biM, neg_i, lenB, isND, idxM, iniM, partD, asBool, flipB, eqM_ii, eqM_ss, eqM_bb, eqM_rr, eqM_ri, neM_ii, neM_ss, neM_bb, neM_rr, neM_ri, ks_ra, ks_i, ks_s, ks_l, ks_t, at_top, at_bot, bin_ra_add, bin_ra_sub, bin_ra_mul, bin_ra_addi, bin_ra_subi, bin_ra_muli, neg_ra, raisM, k_0_0, k_0_1, k_0_2, k_0_3, k_1_0, k_1_1, k_1_2, k_1_3, k_int_0, k_int_1, k_int_2, k_int_3, k_str_0, k_str_1, k_str_2, k_str_3, k_list_0, k_list_1, k_list_2, k_list_3, k_tuple_0, k_tuple_1, k_tuple_2, k_tuple_3, k_NoneType_0, k_NoneType_1, k_NoneType_2, k_NoneType_3, g_0, List.lookup, f_24, s_is_int, h, h', this]
/-- the sign -/
def sgn (q : Rat) : Int := (if q.num > 0 then 1 else 0) - (if q.num < 0 then 1 else 0)
theorem s_sign (k : Nat) (q : Rat) (S : Store) : run p (k + 1) (.fn 40 [ra q]) S = .ok (.int (sgn q)) S := by
  rw [run_fn f_40 rfl]
  simp [finF, b_Ratio_sign, evSs, evS, evE, evEs, evO, evT, evI, Res.bind, Res.bindL, Res.bindO, ResL.bind, ResL.bindL, ResL.bindO, Mi.start, truth, callM, fill, newM, selfM, putM, putMs, putD, noExc, putP, putPs, evPar, elems, cmpM, cmpI, bin_ii, biM, neg_i, lenB, isND, idxM, iniM, partD, asBool, flipB, eqM_ii, eqM_ss, eqM_bb, eqM_rr, eqM_ri, neM_ii, neM_ss, neM_bb, neM_rr, neM_ri, ks_ra, ks_i, ks_s, ks_l, ks_t, at_top, at_bot, bin_ra_add, bin_ra_sub, bin_ra_mul, bin_ra_addi, bin_ra_subi, bin_ra_muli, neg_ra, raisM, k_0_0, k_0_1, k_0_2, k_0_3, k_1_0, k_1_1, k_1_2, k_1_3, k_int_0, k_int_1, k_int_2, k_int_3, k_str_0, k_str_1, k_str_2, k_str_3, k_list_0, k_list_1, k_list_2, k_list_3, k_tuple_0, k_tuple_1, k_tuple_2, k_tuple_3, k_NoneType_0, k_NoneType_1, k_NoneType_2, k_NoneType_3, g_0, List.lookup, sgn]
theorem s_below (k : Nat) {q : Rat} (hq : Lw 3900 q) (S : Store) : run p (k + 1) (.fn 29 [ra q]) S = .ok (.int q.floor) S := by
  rw [run_fn f_29 rfl]
  simp [finF, b_Ratio_below, evSs, evS, evE, evEs, evO, evT, evI, Res.bind, Res.bindL, Res.bindO, ResL.bind, ResL.bindL, ResL.bindO, Mi.start, truth, callM, fill, newM, selfM, putM, putMs, putD, noExc, putP, putPs, evPar, elems, cmpM, cmpI, bin_ii, biM, neg_i, lenB, isND, idxM, iniM, partD, asBool, flipB, eqM_ii, eqM_ss, eqM_bb, eqM_rr, eqM_ri, neM_ii, neM_ss, neM_bb, neM_rr, neM_ri, ks_ra, ks_i, ks_s, ks_l, ks_t, at_top, at_bot, bin_ra_add, bin_ra_sub, bin_ra_mul, bin_ra_addi, bin_ra_subi, bin_ra_muli, neg_ra, raisM, k_0_0, k_0_1, k_0_2, k_0_3, k_1_0, k_1_1, k_1_2, k_1_3, k_int_0, k_int_1, k_int_2, k_int_3, k_str_0, k_str_1, k_str_2, k_str_3, k_list_0, k_list_1, k_list_2, k_list_3, k_tuple_0, k_tuple_1, k_tuple_2, k_tuple_3, k_NoneType_0, k_NoneType_1, k_NoneType_2, k_NoneType_3, g_0, List.lookup, sz_of hq.di (by omega : 3900 ≤ 8000), floor_eq, q.den_nz]
theorem s_is_ratio (k : Nat) {d : D} {q : Rat} (h : asR d q) (S : Store) : run p (k + 2) (.fn 23 [d]) S = .ok (.bl true) S := by
  rw [run_fn f_23 rfl]
  rcases h with rfl | ⟨i, rfl, rfl⟩
  · simp [finF, b_is_ratio, evSs, evS, evE, evEs, evO, evT, evI, Res.bind, Res.bindL, Res.bindO, ResL.bind, ResL.bindL, ResL.bindO, Mi.start, truth, callM, fill, newM, selfM, putM, putMs, putD, noExc, putP, putPs, evPar, elems, cmpM, cmpI, bin_ii, biM, neg_i, lenB, isND, idxM, iniM, partD, asBool, flipB, eqM_ii, eqM_ss, eqM_bb, eqM_rr, eqM_ri, neM_ii, neM_ss, neM_bb, neM_rr, neM_ri, ks_ra, ks_i, ks_s, ks_l, ks_t, at_top, at_bot, bin_ra_add, bin_ra_sub, bin_ra_mul, bin_ra_addi, bin_ra_subi, bin_ra_muli, neg_ra, raisM, k_0_0, k_0_1, k_0_2, k_0_3, k_1_0, k_1_1, k_1_2, k_1_3, k_int_0, k_int_1, k_int_2, k_int_3, k_str_0, k_str_1, k_str_2, k_str_3, k_list_0, k_list_1, k_list_2, k_list_3, k_tuple_0, k_tuple_1, k_tuple_2, k_tuple_3, k_NoneType_0, k_NoneType_1, k_NoneType_2, k_NoneType_3, g_0, List.lookup]
  · simp [finF, b_is_ratio, evSs, evS, evE, evEs, evO, evT, evI, Res.bind, Res.bindL, Res.bindO, ResL.bind, ResL.bindL, ResL.bindO, Mi.start, truth, callM, fill, newM, selfM, putM, putMs, putD, noExc, putP, putPs, evPar, elems, cmpM, cmpI, bin_ii, biM, neg_i, lenB, isND, idxM, iniM, partD, asBool, flipB, eqM_ii, eqM_ss, eqM_bb, eqM_rr, eqM_ri, neM_ii, neM_ss, neM_bb, neM_rr, neM_ri, ks_ra, ks_i, ks_s, ks_l, ks_t, at_top, at_bot, bin_ra_add, bin_ra_sub, bin_ra_mul, bin_ra_addi, bin_ra_subi, bin_ra_muli, neg_ra, raisM, k_0_0, k_0_1, k_0_2, k_0_3, k_1_0, k_1_1, k_1_2, k_1_3, k_int_0, k_int_1, k_int_2, k_int_3, k_str_0, k_str_1, k_str_2, k_str_3, k_list_0, k_list_1, k_list_2, k_list_3, k_tuple_0, k_tuple_1, k_tuple_2, k_tuple_3, k_NoneType_0, k_NoneType_1, k_NoneType_2, k_NoneType_3, g_0, List.lookup, f_24, s_is_int]
theorem s_ratio_of (k : Nat) {d : D} {q : Rat} (h : asR d q) (S : Store) : run p (k + 4) (.fn 22 [d]) S = .ok (ra q) S := by
  rw [run_fn f_22 rfl]
  rcases h with rfl | ⟨i, rfl, rfl⟩
  · simp [finF, b_Ratio_of, evSs, evS, evE, evEs, evO, evT, evI, Res.bind, Res.bindL, Res.bindO, ResL.bind, ResL.bindL, ResL.bindO, Mi.start, truth, callM, fill, newM, selfM, putM, putMs, putD, noExc, putP, putPs, evPar, elems, cmpM, cmpI, bin_ii, biM, neg_i, lenB, isND, idxM, iniM, partD, asBool, flipB, eqM_ii, eqM_ss, eqM_bb, eqM_rr, eqM_ri, neM_ii, neM_ss, neM_bb, neM_rr, neM_ri, ks_ra, ks_i, ks_s, ks_l, ks_t, at_top, at_bot, bin_ra_add, bin_ra_sub, bin_ra_mul, bin_ra_addi, bin_ra_subi, bin_ra_muli, neg_ra, raisM, k_0_0, k_0_1, k_0_2, k_0_3, k_1_0, k_1_1, k_1_2, k_1_3, k_int_0, k_int_1, k_int_2, k_int_3, k_str_0, k_str_1, k_str_2, k_str_3, k_list_0, k_list_1, k_list_2, k_list_3, k_tuple_0, k_tuple_1, k_tuple_2, k_tuple_3, k_NoneType_0, k_NoneType_1, k_NoneType_2, k_NoneType_3, g_0, List.lookup]
  · have := s_ratio k i 1 S (by omega) (by decide)
    rw [rt_one] at this
    simp [finF, b_Ratio_of, evSs, evS, evE, evEs, evO, evT, evI, Res.bind, Res.bindL, Res.bindO, ResL.bind, ResL.bindL, ResL.bindO, Mi.start, truth, callM, fill, newM, selfM, putM, putMs, putD, noExc, putP, putPs, evPar, elems, cmpM, cmpI, bin_ii, biM, neg_i, lenB, isND, idxM, iniM, partD, asBool, flipB, eqM_ii, eqM_ss, eqM_bb, eqM_rr, eqM_ri, neM_ii, neM_ss, neM_bb, neM_rr, neM_ri, ks_ra, ks_i, ks_s, ks_l, ks_t, at_top, at_bot, bin_ra_add, bin_ra_sub, bin_ra_mul, bin_ra_addi, bin_ra_subi, bin_ra_muli, neg_ra, raisM, k_0_0, k_0_1, k_0_2, k_0_3, k_1_0, k_1_1, k_1_2, k_1_3, k_int_0, k_int_1, k_int_2, k_int_3, k_str_0, k_str_1, k_str_2, k_str_3, k_list_0, k_list_1, k_list_2, k_list_3, k_tuple_0, k_tuple_1, k_tuple_2, k_tuple_3, k_NoneType_0, k_NoneType_1, k_NoneType_2, k_NoneType_3, g_0, List.lookup, c_1, f_24, s_is_int, f_27, this]
theorem s_rise (k : Nat) {t s : Rat} (ht : Lw 1900 t) (hs : Lw 3900 s) (S : Store) : run p (k + 6) (.fn 38 [ra t, ra s]) S = .ok (ra (s - t * t)) S := by
  rw [run_fn f_38 rfl]
  simp [finF, b_rise_of, evSs, evS, evE, evEs, evO, evT, evI, Res.bind, Res.bindL, Res.bindO, ResL.bind, ResL.bindL, ResL.bindO, Mi.start, truth, callM, fill, newM, selfM, putM, putMs, putD, noExc, putP, putPs, evPar, elems, cmpM, cmpI, bin_ii, biM, neg_i, lenB, isND, idxM, iniM, partD, asBool, flipB, eqM_ii, eqM_ss, eqM_bb, eqM_rr, eqM_ri, neM_ii, neM_ss, neM_bb, neM_rr, neM_ri, ks_ra, ks_i, ks_s, ks_l, ks_t, at_top, at_bot, bin_ra_add, bin_ra_sub, bin_ra_mul, bin_ra_addi, bin_ra_subi, bin_ra_muli, neg_ra, raisM, k_0_0, k_0_1, k_0_2, k_0_3, k_1_0, k_1_1, k_1_2, k_1_3, k_int_0, k_int_1, k_int_2, k_int_3, k_str_0, k_str_1, k_str_2, k_str_3, k_list_0, k_list_1, k_list_2, k_list_3, k_tuple_0, k_tuple_1, k_tuple_2, k_tuple_3, k_NoneType_0, k_NoneType_1, k_NoneType_2, k_NoneType_3, g_0, List.lookup, s_mul k (ht.mono (by omega)) (ht.mono (by omega)) (asR.ra t), s_sub k hs ((ht.mul ht).mono (by omega)) (asR.ra _)]
end K14
end

section
set_option maxRecDepth 100000
set_option maxHeartbeats 4000000
set_option exponentiation.threshold 9000
namespace K14
open Mi Ma
/-! ### steps, stems, rows -/
def st (t s : Rat) : D := .obj 0 [(0, ra t), (9, ra s), (2, ra (s - t * t))]
section
variable {call : Call} {S : Store} {a b : Int} {t s u : Rat}
theorem ks_st (l : List IK) : isKs p (st t s) l = isKs p (.obj 0 []) l := ks_o l
theorem at_turn : attrM p call (st t s) 0 S = .ok (ra t) S := by simp [st, attrM, attrI, c_0, List.lookup]
theorem at_squared : attrM p call (st t s) 9 S = .ok (ra s) S := by simp [st, attrM, attrI, c_0, List.lookup]
theorem at_rise : attrM p call (st t s) 2 S = .ok (ra (s - t * t)) S := by simp [st, attrM, attrI, c_0, List.lookup]
theorem at_sign {k : Nat} : attrM p (run p (k + 2)) (ra t) 10 S = .ok (.int (sgn t)) S := by
  simp [ra, attrM, attrI, c_1, List.lookup, noExc, run_low]
  have := s_sign k t S
  unfold ra at this
  rw [this]
theorem at_below {k : Nat} (ht : Lw 3900 t) : attrM p (run p (k + 2)) (ra t) 6 S = .ok (.int t.floor) S := by
  simp [ra, attrM, attrI, c_1, List.lookup, noExc, run_low]
  have := s_below k ht S
  unfold ra at this
  rw [this]
end
theorem s_stem (k : Nat) {d e : D} {t s : Rat} (hd : asR d t) (he : asR e s) (ht : Lw 1900 t) (hs : Lw 3900 s) (h : 1 ≤ sgn (s - t * t)) (S : Store) : run p (k + 8) (.new 0 [d, e]) S = .ok (st t s) S := by
  refine run_new c_0 rfl f_25 rfl rfl (q := ⟨[none, some d, some e], _⟩) ?_ rfl
  have h' : ¬ sgn (s - t * t) < 1 := by omega
  simp [c_1, c_0, f_23, f_22, f_38, b_Stem___init__, evSs, evS, evE, evEs, evO, evT, evI, Res.bind, Res.bindL, Res.bindO, ResL.bind, ResL.bindL, ResL.bindO, Mi.start, truth, callM, fill, newM, selfM, putM, putMs, putD, noExc, putP, putPs, evPar, elems, cmpM, cmpI, bin_ii, biM, neg_i, lenB, isND, idxM, iniM, partD, asBool, flipB, eqM_ii, eqM_ss, eqM_bb, eqM_rr, eqM_ri, neM_ii, neM_ss, neM_bb, neM_rr, neM_ri, ks_ra, ks_i, ks_s, ks_l, ks_t, at_top, at_bot, bin_ra_add, bin_ra_sub, bin_ra_mul, bin_ra_addi, bin_ra_subi, bin_ra_muli, neg_ra, raisM, k_0_0, k_0_1, k_0_2, k_0_3, k_1_0, k_1_1, k_1_2, k_1_3, k_int_0, k_int_1, k_int_2, k_int_3, k_str_0, k_str_1, k_str_2, k_str_3, k_list_0, k_list_1, k_list_2, k_list_3, k_tuple_0, k_tuple_1, k_tuple_2, k_tuple_3, k_NoneType_0, k_NoneType_1, k_NoneType_2, k_NoneType_3, g_0, List.lookup, s_is_ratio (k + 4) hd, s_is_ratio (k + 4) he, s_ratio_of (k + 2) hd, s_ratio_of (k + 2) he, s_rise k ht hs, at_sign, h']
theorem s_need_stem (k : Nat) (t s : Rat) (x : PySem.Str) (S : Store) : run p (k + 1) (.fn 16 [st t s, .str x]) S = .ok .non S := by
  rw [run_fn f_16 rfl]
  simp [finF, b_need_stem, evSs, evS, evE, evEs, evO, evT, evI, Res.bind, Res.bindL, Res.bindO, ResL.bind, ResL.bindL, ResL.bindO, Mi.start, truth, callM, fill, newM, selfM, putM, putMs, putD, noExc, putP, putPs, evPar, elems, cmpM, cmpI, bin_ii, biM, neg_i, lenB, isND, idxM, iniM, partD, asBool, flipB, eqM_ii, eqM_ss, eqM_bb, eqM_rr, eqM_ri, neM_ii, neM_ss, neM_bb, neM_rr, neM_ri, ks_ra, ks_i, ks_s, ks_l, ks_t, at_top, at_bot, bin_ra_add, bin_ra_sub, bin_ra_mul, bin_ra_addi, bin_ra_subi, bin_ra_muli, neg_ra, raisM, k_0_0, k_0_1, k_0_2, k_0_3, k_1_0, k_1_1, k_1_2, k_1_3, k_int_0, k_int_1, k_int_2, k_int_3, k_str_0, k_str_1, k_str_2, k_str_3, k_list_0, k_list_1, k_list_2, k_list_3, k_tuple_0, k_tuple_1, k_tuple_2, k_tuple_3, k_NoneType_0, k_NoneType_1, k_NoneType_2, k_NoneType_3, g_0, List.lookup, ks_st]
theorem s_need_integer (k : Nat) (i : Int) (x : PySem.Str) (S : Store) : run p (k + 2) (.fn 20 [.int i, .str x]) S = .ok .non S := by
  rw [run_fn f_20 rfl]
  simp [finF, b_need_integer, evSs, evS, evE, evEs, evO, evT, evI, Res.bind, Res.bindL, Res.bindO, ResL.bind, ResL.bindL, ResL.bindO, Mi.start, truth, callM, fill, newM, selfM, putM, putMs, putD, noExc, putP, putPs, evPar, elems, cmpM, cmpI, bin_ii, biM, neg_i, lenB, isND, idxM, iniM, partD, asBool, flipB, eqM_ii, eqM_ss, eqM_bb, eqM_rr, eqM_ri, neM_ii, neM_ss, neM_bb, neM_rr, neM_ri, ks_ra, ks_i, ks_s, ks_l, ks_t, at_top, at_bot, bin_ra_add, bin_ra_sub, bin_ra_mul, bin_ra_addi, bin_ra_subi, bin_ra_muli, neg_ra, raisM, k_0_0, k_0_1, k_0_2, k_0_3, k_1_0, k_1_1, k_1_2, k_1_3, k_int_0, k_int_1, k_int_2, k_int_3, k_str_0, k_str_1, k_str_2, k_str_3, k_list_0, k_list_1, k_list_2, k_list_3, k_tuple_0, k_tuple_1, k_tuple_2, k_tuple_3, k_NoneType_0, k_NoneType_1, k_NoneType_2, k_NoneType_3, g_0, List.lookup, f_24, s_is_int]
theorem lw_i {i : Int} (h : i.natAbs < 2 ^ 100) : Lw 100 (i : Rat) := Lw.int h (by omega)
/-- the product of two steps at a stem -/
def prd (t s : Rat) (a b c d : Int) : Rat := s * ((a * c : Int) : Rat) - t * ((a * d + c * b : Int) : Rat) + ((b * d : Int) : Rat)
end K14
end

section
set_option maxRecDepth 100000
set_option maxHeartbeats 4000000
set_option exponentiation.threshold 9000
namespace K14
open Mi Ma
/-! ### the stem's methods, rows, tolds, books -/
theorem s_place_at (k : Nat) {t s : Rat} {a : Int} (ht : Lw 1000 t) (ha : a.natAbs < 2 ^ 40) (S : Store) : run p (k + 6) (.fn 19 [st t s, .int a]) S = .ok (ra (t * (a : Rat) - ((t * (a : Rat)).floor : Rat))) S := by
  rw [run_fn f_19 rfl]
  have la : Lw 100 (a : Rat) := lw_i (ab_mono ha (by omega))
  have lm := ht.mul la
  have f1 := s_mul k (ht.mono (by omega)) (la.mono (by omega)) (asR.int a) S
  have lf : Lw 1200 ((t * (a : Rat)).floor : Rat) := by
    refine Lw.int (Nat.lt_of_le_of_lt ?_ (lm.mono (show 1100 ≤ 1200 by omega)).n) (by omega)
    rw [← floor_eq]
    exact natAbs_fdiv_le' _ _ (den0 _)
  have f2 := s_sub k (lm.mono (by omega)) (lf.mono (by omega)) (asR.int (t * (a : Rat)).floor) S
  simp [finF, b_place_at, evSs, evS, evE, evEs, evO, evT, evI, Res.bind, Res.bindL, Res.bindO, ResL.bind, ResL.bindL, ResL.bindO, Mi.start, truth, callM, fill, newM, selfM, putM, putMs, putD, noExc, putP, putPs, evPar, elems, cmpM, cmpI, bin_ii, biM, neg_i, lenB, isND, idxM, iniM, partD, asBool, flipB, eqM_ii, eqM_ss, eqM_bb, eqM_rr, eqM_ri, neM_ii, neM_ss, neM_bb, neM_rr, neM_ri, ks_ra, ks_i, ks_s, ks_l, ks_t, at_top, at_bot, bin_ra_add, bin_ra_sub, bin_ra_mul, bin_ra_addi, bin_ra_subi, bin_ra_muli, neg_ra, raisM, k_0_0, k_0_1, k_0_2, k_0_3, k_1_0, k_1_1, k_1_2, k_1_3, k_int_0, k_int_1, k_int_2, k_int_3, k_str_0, k_str_1, k_str_2, k_str_3, k_list_0, k_list_1, k_list_2, k_list_3, k_tuple_0, k_tuple_1, k_tuple_2, k_tuple_3, k_NoneType_0, k_NoneType_1, k_NoneType_2, k_NoneType_3, g_0, List.lookup, at_turn, f1, at_below (k := k + 3) (lm.mono (show 1100 ≤ 3900 by omega)), f2]
theorem s_place (k : Nat) {t s : Rat} {a : Int} (ht : Lw 1000 t) (ha : a.natAbs < 2 ^ 40) (S : Store) : run p (k + 7) (.fn 13 [st t s, .int a]) S = .ok (ra (t * (a : Rat) - ((t * (a : Rat)).floor : Rat))) S := by
  rw [run_fn f_13 rfl]
  simp [finF, b_place, evSs, evS, evE, evEs, evO, evT, evI, Res.bind, Res.bindL, Res.bindO, ResL.bind, ResL.bindL, ResL.bindO, Mi.start, truth, callM, fill, newM, selfM, putM, putMs, putD, noExc, putP, putPs, evPar, elems, cmpM, cmpI, bin_ii, biM, neg_i, lenB, isND, idxM, iniM, partD, asBool, flipB, eqM_ii, eqM_ss, eqM_bb, eqM_rr, eqM_ri, neM_ii, neM_ss, neM_bb, neM_rr, neM_ri, ks_ra, ks_i, ks_s, ks_l, ks_t, at_top, at_bot, bin_ra_add, bin_ra_sub, bin_ra_mul, bin_ra_addi, bin_ra_subi, bin_ra_muli, neg_ra, raisM, k_0_0, k_0_1, k_0_2, k_0_3, k_1_0, k_1_1, k_1_2, k_1_3, k_int_0, k_int_1, k_int_2, k_int_3, k_str_0, k_str_1, k_str_2, k_str_3, k_list_0, k_list_1, k_list_2, k_list_3, k_tuple_0, k_tuple_1, k_tuple_2, k_tuple_3, k_NoneType_0, k_NoneType_1, k_NoneType_2, k_NoneType_3, g_0, List.lookup, f_16, f_20, f_19, s_need_stem, s_need_integer (k + 4), s_place_at k ht ha]
/-- a row's worth at a stem -/
def wor (a b c t s : Rat) : Rat := a * s + b * t + c
end K14
end

section
set_option maxRecDepth 100000
set_option maxHeartbeats 1000000
/-! Ma: the plain law of k62. -/
namespace Ma
theorem ne_cast {b : Int} (h : b ≠ 0) : (b : Rat) ≠ 0 := fun z => h (Rat.intCast_eq_zero_iff.mp z)
theorem rt_eq {a b : Int} {x : Rat} (hb : b ≠ 0) (h : x * b = a) : x = rt a b := by
  rw [rt_div, ← h]
  have := ne_cast hb
  exact (Rat.mul_div_cancel this).symm
theorem rt_mul_self {a b : Int} (hb : b ≠ 0) : rt a b * b = a := by
  rw [rt_div]
  exact Rat.div_mul_cancel (ne_cast hb)
def dotZ (n b p' q a1 b1 a2 b2 : Int) : Int := a1 * a2 * (n * n * q + p' * b * b) - (a1 * b2 + a2 * b1) * n * b * q + b1 * b2 * b * b * q
section
variable {n b p' q m a c d e : Int} {t s r u : Rat}
theorem pos_div (hp : 1 ≤ p') (hq : 1 ≤ q) (hr : r * q = p') : 0 < r := by
  have h1 : (0 : Rat) < (p' : Rat) := Rat.intCast_pos.mpr (by omega)
  have h2 : (0 : Rat) < (q : Rat) := Rat.intCast_pos.mpr (by omega)
  rw [← hr] at h1
  exact (Rat.mul_pos_iff_of_pos_right h2).mp h1
theorem z_squared (hb : 1 ≤ b) (hq : 1 ≤ q) (ht : t * b = n) (hr : r * q = p') (hs : s = rt (dotZ n b p' q 1 0 1 0) (b * b * q)) : s = t * t + r := by
  have h0 : b * b * q ≠ 0 := Int.mul_ne_zero (Int.mul_ne_zero (by omega) (by omega)) (by omega)
  rw [hs]
  symm
  refine rt_eq h0 ?_
  unfold dotZ
  simp only [Rat.intCast_mul, Rat.intCast_add, Rat.intCast_sub]
  grind
theorem z_turn (hb : 1 ≤ b) (ht : t * b = n) : t * m = rt (m * n) b := by
  refine rt_eq (by omega) ?_
  rw [Rat.intCast_mul]
  grind
theorem z_rise (hq : 1 ≤ q) (hr : r * q = p') (hs : s = t * t + r) : s * m * m - t * m * (t * m) = rt (m * m * p') q := by
  refine rt_eq (by omega) ?_
  simp only [Rat.intCast_mul]
  grind
theorem z_turn2 (hb : 1 ≤ b) (hm : 1 ≤ m) (ht : t * b = n) : t * rt 1 m = rt n (m * b) := by
  refine rt_eq (Int.mul_ne_zero (by omega) (by omega)) ?_
  have := rt_mul_self (a := 1) (b := m) (by omega)
  simp only [Rat.intCast_mul]
  grind
theorem z_rise2 (hq : 1 ≤ q) (hm : 1 ≤ m) (hr : r * q = p') (hs : s = t * t + r) : s * rt 1 m * rt 1 m - t * rt 1 m * (t * rt 1 m) = rt p' (m * m * q) := by
  refine rt_eq (Int.mul_ne_zero (Int.mul_ne_zero (by omega) (by omega)) (by omega)) ?_
  have := rt_mul_self (a := 1) (b := m) (by omega)
  simp only [Rat.intCast_mul]
  grind
theorem z_back (hm : 1 ≤ m) : t * m * rt 1 m = t := by
  have := rt_mul_self (a := 1) (b := m) (by omega)
  grind
theorem z_back2 (hm : 1 ≤ m) : t * rt 1 m * m = t := by
  have := rt_mul_self (a := 1) (b := m) (by omega)
  grind
theorem z_sback (hm : 1 ≤ m) : s * m * m * rt 1 m * rt 1 m = s := by
  have := rt_mul_self (a := 1) (b := m) (by omega)
  grind
theorem z_sback2 (hm : 1 ≤ m) : s * rt 1 m * rt 1 m * m * m = s := by
  have := rt_mul_self (a := 1) (b := m) (by omega)
  grind
theorem z_pos (hm : 1 ≤ m) (hr : 0 < r) (hs : s = t * t + r) : 0 < s * m * m - t * m * (t * m) := by
  have h2 : (0 : Rat) < (m : Rat) := Rat.intCast_pos.mpr (by omega)
  have : s * m * m - t * m * (t * m) = r * m * m := by grind
  rw [this]
  exact Rat.mul_pos (Rat.mul_pos hr h2) h2
theorem rt1_pos (hm : 1 ≤ m) : 0 < rt 1 m := by
  have h2 : (0 : Rat) < (m : Rat) := Rat.intCast_pos.mpr (by omega)
  have h := rt_mul_self (a := 1) (b := m) (by omega)
  have h1 : (0 : Rat) < rt 1 m * m := by rw [h]; decide
  exact (Rat.mul_pos_iff_of_pos_right h2).mp h1
theorem z_pos2 (hm : 1 ≤ m) (hr : 0 < r) (hs : s = t * t + r) : 0 < s * rt 1 m * rt 1 m - t * rt 1 m * (t * rt 1 m) := by
  have : s * rt 1 m * rt 1 m - t * rt 1 m * (t * rt 1 m) = r * rt 1 m * rt 1 m := by grind
  rw [this]
  exact Rat.mul_pos (Rat.mul_pos hr (rt1_pos hm)) (rt1_pos hm)
/-- products of steps at the thinned post -/
theorem z_prd (hb : 1 ≤ b) (hq : 1 ≤ q) (ht : t * b = n) (hr : r * q = p') (hs : s = t * t + r) :
    s * m * m * ((a * d : Int) : Rat) - t * m * ((a * e + d * c : Int) : Rat) + ((c * e : Int) : Rat) = rt (dotZ n b p' q (m * a) c (m * d) e) (b * b * q) := by
  have h0 : b * b * q ≠ 0 := Int.mul_ne_zero (Int.mul_ne_zero (by omega) (by omega)) (by omega)
  refine rt_eq h0 ?_
  unfold dotZ
  simp only [Rat.intCast_mul, Rat.intCast_add, Rat.intCast_sub]
  grind
theorem z_lean (hb : 1 ≤ b) (ht : t * b = n) : t * m * (a : Rat) - (c : Rat) = rt (m * a * n - c * b) b := by
  refine rt_eq (by omega) ?_
  simp only [Rat.intCast_mul, Rat.intCast_sub]
  grind
theorem z_place (hb : 1 ≤ b) (ht : t * b = n) : t * m * (a : Rat) - ((t * m * (a : Rat)).floor : Rat) = rt ((m * a * n).fmod b) b := by
  have h2 : (0 : Rat) < (b : Rat) := Rat.intCast_pos.mpr (by omega)
  have e0 : t * m * (a : Rat) * b = ((m * a * n : Int) : Rat) := by
    simp only [Rat.intCast_mul]
    grind
  have i1 := Int.mul_fdiv_add_fmod (m * a * n) b
  have i2 : 0 ≤ (m * a * n).fmod b := Int.fmod_nonneg_of_pos _ (by omega)
  have i3 : (m * a * n).fmod b < b := Int.fmod_lt_of_pos _ (by omega)
  have f : (t * m * (a : Rat)).floor = (m * a * n).fdiv b := by
    have l1 : (m * a * n).fdiv b ≤ (t * m * (a : Rat)).floor := by
      rw [Rat.le_floor_iff]
      refine Rat.le_of_mul_le_mul_right (c := (b : Rat)) ?_ h2
      rw [e0, ← Rat.intCast_mul, Rat.intCast_le_intCast, Int.mul_comm ((m * a * n).fdiv b)]
      omega
    have l2 : (t * m * (a : Rat)).floor < (m * a * n).fdiv b + 1 := by
      rw [Rat.floor_lt_iff]
      refine Rat.lt_of_mul_lt_mul_right (c := (b : Rat)) ?_ (Rat.le_of_lt h2)
      rw [e0, ← Rat.intCast_mul, Rat.intCast_lt_intCast, Int.add_mul, Int.one_mul, Int.mul_comm ((m * a * n).fdiv b)]
      omega
    omega
  rw [f]
  refine rt_eq (by omega) ?_
  have g : (m * a * n).fmod b = m * a * n - b * (m * a * n).fdiv b := by
    have := Int.mul_fdiv_add_fmod (m * a * n) b
    omega
  rw [g]
  have e2 : t * m * (a : Rat) * b = ((m * a * n : Int) : Rat) := by
    simp only [Rat.intCast_mul]
    grind
  rw [Rat.intCast_sub, Rat.intCast_mul b]
  grind
end
end Ma
end

section
set_option maxRecDepth 100000
/-! MaW: running the mirror forward. -/
namespace Mi
section
variable {P : Pg} {call : Call} {fr fr' : Fr} {S S' S1 : Store} {Q Q' : D → Store → Prop} {d : D} {r : MSs} {l : List D}
/-- it returns, and what is returned is so -/
def Rt (o : Out) (Q : D → Store → Prop) : Prop := ∃ d fr S, o = .ret d fr S ∧ Q d S
theorem Rt.cons {s : MS} (h : evS P call s fr S = .nx fr' S') (k : Rt (evSs P call r fr' S') Q) : Rt (evSs P call (.cons s r) fr S) Q := by
  obtain ⟨d, f, T, e, q⟩ := k
  exact ⟨d, f, T, by rw [evSs, h]; exact e, q⟩
theorem Rt.ret {e : ME} (h : evE P call e fr S = .ok d S') (q : Q d S') : Rt (evSs P call (.cons (.ret e) r) fr S) Q := ⟨d, fr, S', by rw [evSs, evS, h]; rfl, q⟩
theorem Rt.retN (q : Q .non S) : Rt (evSs P call (.cons .retN r) fr S) Q := ⟨.non, fr, S, by rw [evSs, evS], q⟩
/-- a test that is so, whose suite returns -/
theorem Rt.yes {c : ME} {a b : MSs} {x : D} (h : evE P call c fr S = .ok x S') (t : truth x = some true) (k : Rt (evSs P call a fr S') Q) : Rt (evSs P call (.cons (.ife c a b) r) fr S) Q := by
  obtain ⟨d, f, T, e, q⟩ := k
  exact ⟨d, f, T, by rw [evSs, evS, h]; simp only [Res.bindO, t, e], q⟩
theorem Rt.no {c : ME} {a : MSs} {x : D} (h : evE P call c fr S = .ok x S') (t : truth x = some false) (k : Rt (evSs P call r fr S') Q) : Rt (evSs P call (.cons (.ife c a .nil) r) fr S) Q :=
  Rt.cons (fr' := fr) (S' := S') (by rw [evS, h]; simp only [Res.bindO, t, evSs]) k
/-- one turn of a loop -/
def trn (P : Pg) (call : Call) (pt : Pat) (b : MSs) (d : D) (fr : Fr) (S : Store) : Out := match putP fr.self.isSome pt d fr.σ with
  | some σ' => evSs P call b ⟨σ', fr.self⟩ S
  | none => .bad
theorem trn_of {pt : Pat} {b : MSs} {σ' : List (Option D)} {o : Out} (h : putP fr.self.isSome pt d fr.σ = some σ') (e : evSs P call b ⟨σ', fr.self⟩ S = o) : trn P call pt b d fr S = o := by
  unfold trn; rw [h]; exact e
theorem forM_by {f : D → Fr → Store → Out} (Inv : Nat → Fr → Store → Prop) : ∀ {l : List D} (n : Nat), (∀ (j : Nat) (d : D), n ≤ j → l[j - n]? = some d → ∀ fr S, Inv j fr S → ∃ fr' S', f d fr S = .nx fr' S' ∧ Inv (j + 1) fr' S') → ∀ fr S, Inv n fr S → ∃ fr' S', Mi.forM f l fr S = .nx fr' S' ∧ Inv (n + l.length) fr' S'
  | [], n, _, fr, S, i => ⟨fr, S, rfl, i⟩
  | d :: l, n, h, fr, S, i => by
    obtain ⟨fr1, S1, e1, i1⟩ := h n d (Nat.le_refl _) (by simp) fr S i
    obtain ⟨fr2, S2, e2, i2⟩ := forM_by Inv (l := l) (n + 1) (fun j d a b => h j d (by omega) (by rw [show j - n = (j - (n + 1)) + 1 by omega]; simpa using b)) fr1 S1 i1
    refine ⟨fr2, S2, by simp only [Mi.forM, e1]; exact e2, ?_⟩
    rw [List.length_cons, show n + (l.length + 1) = n + 1 + l.length by omega]
    exact i2
/-- a loop by its invariant, behind j items -/
theorem Rt.forr {pt : Pat} {it : MI} {b : MSs} (h : evI P call it fr S = .ok l S1) (Inv : Nat → Fr → Store → Prop) (i0 : Inv 0 fr S1) (step : ∀ (j : Nat) (d : D), l[j]? = some d → ∀ fr S, Inv j fr S → ∃ fr' S', trn P call pt b d fr S = .nx fr' S' ∧ Inv (j + 1) fr' S')
    (k : ∀ fr' S', Inv l.length fr' S' → Rt (evSs P call r fr' S') Q) : Rt (evSs P call (.cons (.forr pt it b) r) fr S) Q := by
  obtain ⟨fr2, S2, e2, i2⟩ := forM_by (f := trn P call pt b) Inv (l := l) 0 (fun j d _ hj => step j d (by simpa using hj)) fr S1 i0
  refine Rt.cons (fr' := fr2) (S' := S2) ?_ (k fr2 S2 (by simpa using i2))
  rw [evS, h]
  exact e2
theorem Rt.mono (h : ∀ d S, Q d S → Q' d S) {o : Out} (k : Rt o Q) : Rt o Q' := by
  obtain ⟨d, f, T, e, q⟩ := k
  exact ⟨d, f, T, e, h d T q⟩
theorem run_rt {k f : Nat} {fi : FI} {ds : List D} (h : P.fs[f]? = some fi) (hl : ds.length = fi.np) (hb : Rt (evSs P (run P k) fi.body ⟨Mi.start fi.ns (ds.map some), none⟩ S) Q) : ∃ d S', run P (k + 1) (.fn f ds) S = .ok d S' ∧ Q d S' := by
  obtain ⟨d, fr, S', e, q⟩ := hb
  exact ⟨d, S', by simp only [run, h, hl, if_true, e], q⟩
theorem run_eq {k f : Nat} {fi : FI} {ds : List D} {S' : Store} (h : P.fs[f]? = some fi) (hl : ds.length = fi.np) (hb : Rt (evSs P (run P k) fi.body ⟨Mi.start fi.ns (ds.map some), none⟩ S) (fun d' T => d' = d ∧ T = S')) : run P (k + 1) (.fn f ds) S = .ok d S' := by
  obtain ⟨_, _, e, rfl, rfl⟩ := run_rt h hl hb
  exact e
/-- a body's statements that do not return, one by one -/
theorem nx_cons {s : MS} {o : Out} (h : evS P call s fr S = .nx fr' S') (k : evSs P call r fr' S' = o) : evSs P call (.cons s r) fr S = o := by rw [evSs, h]; exact k
theorem ret_here {e : ME} (h : evE P call e fr S = .ok d S') : evSs P call (.cons (.ret e) r) fr S = .ret d fr S' := by rw [evSs, evS, h]; rfl
end
/-- a comprehension over items h of L -/
theorem compM_by {α : Type} {f : D → Store → ResO} {h g : α → D} {S : Store} : ∀ {L : List α} {acc : List D}, (∀ x ∈ L, f (h x) S = .ok (some (g x)) S) → acc.length + L.length < lim → compM f (L.map h) acc S = .ok (acc ++ L.map g) S
  | [], acc, _, _ => by simp [compM]
  | x :: L, acc, hx, hl => by
    simp only [List.length_cons] at hl
    rw [List.map_cons, compM, if_pos (by omega), hx x (by simp)]
    simp only
    rw [compM_by (fun y hy => hx y (List.mem_cons_of_mem _ hy)) (by simp; omega)]
    simp
theorem comp_by {α : Type} {P : Pg} {call : Call} {elt : ME} {pt : Pat} {own : List Nat} {it : MI} {fr : Fr} {S : Store} {L : List α} (h g : α → D) (hs : (fr.self.isSome && own.contains 0) = false) (hi : evI P call it fr S = .ok (L.map h) S) (hl : L.length < lim)
    (hx : ∀ x ∈ L, ∃ σ', putP fr.self.isSome pt (h x) (wipeD fr.σ own) = some σ' ∧ evE P call elt ⟨σ', fr.self⟩ S = .ok (g x) S) : evE P call (.comp elt pt own it .none) fr S = .ok (.lst (L.map g)) S := by
  rw [evE, hs, hi]
  simp only [Bool.false_eq_true, if_false, ResL.bind]
  rw [compM_by (g := g) (acc := []) (fun x hx' => by
    obtain ⟨σ', e1, e2⟩ := hx x hx'
    simp only [e1, evT, e2]) (by simpa using hl)]
  simp [ResL.bind]
end Mi
end

section
set_option maxRecDepth 100000
set_option maxHeartbeats 4000000
set_option exponentiation.threshold 9000
/-! Mg: for every law: a def's run, lists by numbers, what draws. -/
namespace Mg
open Mi Ma
/-! ### a def's run, unfolded once -/
def fin (o : Out) : Res := match o with
  | .nx _ S' => .ok .non S'
  | .ret d _ S' => .ok d S'
  | .exc c fs _ S' => .exc c fs S'
  | _ => .bad
theorem run_f {P : Pg} {k f : Nat} {ds : List D} {S : Store} {fi : FI} (h : P.fs[f]? = some fi) (hl : ds.length = fi.np) :
    run P (k + 1) (.fn f ds) S = fin (evSs P (run P k) fi.body ⟨Mi.start fi.ns (ds.map some), none⟩ S) := by
  simp only [run, h, hl, if_true]
  rfl
section
variable {P : Pg} {call : Call} {S S' : Store}
theorem okD_int (i : Int) : okD (.int i) = some (.int i) := by simp [okD, pyD, PySem.SeqAt.shaped, PySem.PyData.canLay0, PySem.PyData.depth]
theorem eqM_ii (i j : Int) : eqM P call (.int i) (.int j) S = .ok (.bl (decide (i = j))) S := by simp [eqM, okD_int, PySem.PyData.eqv]; try rfl
theorem neM_ii (i j : Int) : neM P call (.int i) (.int j) S = .ok (.bl !(decide (i = j))) S := by simp [neM, okD_int, PySem.PyData.eqv]; try rfl
theorem bin_ii (op : Bop) {i j : Int} : binM P call op (.int i) (.int j) S = (match op with
  | .add => .ok (.int (i + j)) S
  | .sub => .ok (.int (i - j)) S
  | .mul => if Mu i j then .ok (.int (i * j)) S else .bad
  | .fdiv => if j != 0 && Sz j then .ok (.int (i.fdiv j)) S else .bad
  | .mod => if j != 0 then .ok (.int (i.fmod j)) S else .bad
  | .pow => if decide (0 ≤ j) && decide (j ≤ 100000) && decide (i.natAbs < 2 ^ 64) then .ok (.int (i ^ j.toNat)) S else .bad) := rfl
theorem neg_i {i : Int} : negM P call (.int i) S = .ok (.int (-i)) S := rfl
theorem ix_nat {n : Nat} {i : Nat} (h : i < n) : L2.ixN n (i : Int) = some i := by
  unfold L2.ixN
  rw [if_pos (by omega), if_pos (by omega)]
  rfl
theorem at_nat {l : List D} {i : Nat} {d : D} (h : l[i]? = some d) : L2.atI l (i : Int) = some d := by
  have hl : i < l.length := (List.getElem?_eq_some_iff.mp h).1
  unfold L2.atI
  rw [ix_nat hl]
  exact h
theorem at0 (a : D) (l : List D) : L2.atI (a :: l) 0 = some a := at_nat (i := 0) rfl
theorem at1 (a b : D) (l : List D) : L2.atI (a :: b :: l) 1 = some b := at_nat (i := 1) rfl
theorem at2 (a b c : D) (l : List D) : L2.atI (a :: b :: c :: l) 2 = some c := at_nat (i := 2) rfl
theorem at3 (a b c d : D) (l : List D) : L2.atI (a :: b :: c :: d :: l) 3 = some d := at_nat (i := 3) rfl
theorem ss_cons {s : MS} {r : MSs} {fr fr' : Fr} {o : Out} (h : evS P call s fr S = .nx fr' S') (k : evSs P call r fr' S' = o) : evSs P call (.cons s r) fr S = o := by
  rw [evSs, h]; exact k
theorem ss_ret {e : ME} {r : MSs} {fr : Fr} {d : D} (h : evE P call e fr S = .ok d S') : evSs P call (.cons (.ret e) r) fr S = .ret d fr S' := by
  simp only [evSs, evS, h, Res.bindO]
theorem forr_nx {pt : Pat} {it : MI} {b : MSs} {l : List D} {S1 : Store} {fr fr' : Fr} (h : evI P call it fr S = .ok l S1) (e : Mi.forM (trn P call pt b) l fr S1 = .nx fr' S') : evS P call (.forr pt it b) fr S = .nx fr' S' := by
  rw [evS, h]; exact e
theorem s_if_no {c : ME} {a : MSs} {fr : Fr} (h : evE P call c fr S = .ok (.bl false) S') : evS P call (.ife c a .nil) fr S = .nx fr S' := by
  simp only [evS, h, Res.bindO, truth, evSs]
end
/-! ### the jar: numbers, where it stands, what is left -/
def jar (cs : List Int) (at' r : Int) : Cell := .lst [.lst (cs.map .int), .int at', .int r]
structure Jr (e : Int) (cs : List Int) (a r : Int) : Prop where
  l : cs.length ≤ 63
  a0 : 0 ≤ a
  a1 : a ≤ e
  r0 : 0 ≤ r
theorem Jr.mono {e f : Int} {cs : List Int} {a r : Int} (J : Jr e cs a r) (h : e ≤ f) : Jr f cs a r := ⟨J.l, J.a0, Int.le_trans J.a1 h, J.r0⟩
theorem ne_nil {P : Pg} {call : Call} {S : Store} (cs : List Int) (h : cs.length ≤ 63) : neM P call (.lst (cs.map .int)) (.lst []) S = .ok (.bl (decide (cs ≠ []))) S := by
  have pd : ∀ cs : List Int, pyDs (cs.map .int) = some (cs.map .int) := by
    intro cs
    induction cs with
    | nil => rfl
    | cons c cs ih => simp [pyDs, pyD, ih]
  have cl : ∀ cs : List Int, PySem.PyData.canLayAll0 (cs.map .int) = true := by
    intro cs
    induction cs with
    | nil => rfl
    | cons c cs ih => simp [PySem.PyData.canLayAll0, PySem.PyData.canLay0, ih]
  have dp : ∀ cs : List Int, PySem.PyData.depthAll (cs.map .int) ≤ 1 := by
    intro cs
    induction cs with
    | nil => simp [PySem.PyData.depthAll]
    | cons c cs ih => simp [PySem.PyData.depthAll, PySem.PyData.depth]; omega
  have o1 : okD (.lst (cs.map .int)) = some (.list (cs.map .int)) := by
    have := dp cs
    simp [okD, pyD, pd, PySem.SeqAt.shaped, PySem.PyData.canLay0, PySem.PyData.depth, cl, PySem.sizeLine]
    omega
  have o2 : okD (.lst []) = some (.list []) := by
    have := o1
    simp [okD, pyD, pyDs, PySem.SeqAt.shaped, PySem.PyData.canLay0, PySem.PyData.depth, PySem.PyData.canLayAll0, PySem.PyData.depthAll, PySem.sizeLine]
  simp only [neM, okE_lst, o1, o2]
  cases cs with
  | nil => simp [PySem.PyData.eqv, PySem.PyData.eqvAll]
  | cons c cs => simp [PySem.PyData.eqv, PySem.PyData.eqvAll]
theorem mu_l {x y : Int} (h : x.natAbs < 2 ^ 60) : Mu x y = true := by
  unfold Mu
  simp only [Bool.or_eq_true, Nat.blt_eq]
  exact .inl h
theorem fm_bd (x : Int) {m : Int} (hm : 1 ≤ m) : 0 ≤ x.fmod m ∧ x.fmod m < m := ⟨Int.fmod_nonneg_of_pos _ (by omega), Int.fmod_lt_of_pos _ (by omega)⟩
/-! ### what draws: the written bodies, by their numbers -/
structure Kc where
  k1 : Int
  k2 : Int
  p1 : Int
  k3 : Int
  k4 : Int
  p2 : Int
  k5 : Int
  k6 : Int
  k7 : Int
  p3 : Int
def Kc.ok (c : Kc) : Bool := decide (0 ≤ c.k1) && decide (c.k1 < 2 ^ 20) && decide (0 ≤ c.k2) && decide (c.k2 < 2 ^ 20) && decide (1 ≤ c.p1) && decide (c.p1 < 2 ^ 31) && decide (0 ≤ c.k3) && decide (c.k3 < 2 ^ 20)
  && decide (0 ≤ c.k4) && decide (c.k4 < 2 ^ 20) && decide (1 ≤ c.p2) && decide (c.p2 < 2 ^ 31) && decide (0 ≤ c.k5) && decide (c.k5 < 2 ^ 20) && decide (0 ≤ c.k6) && decide (c.k6 < 2 ^ 20) && decide (0 ≤ c.k7) && decide (c.k7 < 2 ^ 20) && decide (1 ≤ c.p3) && decide (c.p3 < 2 ^ 31)
def dipG (q : Nat) : MS := (.ife (.and (.cmp .lt (.var 2) (.bi .len (.cons (.idx (.var 0) (.con (.int (0)))) .nil))) (.one (.cmp .ge (.bi .abs (.cons (.var 3) .nil)) (.bin .pow (.con (.int (10))) (.con (.int (18))))))) (.cons (.asg (.slot q) (.bin .add (.bin .mul (.con (.int (2))) (.bin .sub (.bi .abs (.cons (.var 3) .nil)) (.bin .pow (.con (.int (10))) (.con (.int (18)))))) (.bi .int (.cons (.cmp .lt (.var 3) (.con (.int (0)))) .nil)))) (.cons (.setIdx (.var 0) (.con (.int (2))) (.bin .fdiv (.bi .int (.cons (.var q) .nil)) (.var 1))) (.cons (.ret (.bin .mod (.bi .int (.cons (.var q) .nil)) (.var 1))) .nil))) .nil)
def dipM (c : Kc) : MSs := (.cons (.asg (.slot 4) (.bin .mod (.bi .int (.cons (.bin .pow (.bin .add (.bin .add (.bin .mod (.bi .int (.cons (.var 3) .nil)) (.con (.int (c.p1)))) (.bin .mul (.con (.int (c.k3))) (.var 2))) (.con (.int (c.k4)))) (.con (.int (5)))) .nil)) (.con (.int (c.p2))))) (.cons (.asg (.slot 4) (.bin .mod (.bi .int (.cons (.bin .pow (.bin .add (.bin .add (.bin .mul (.var 4) (.bin .add (.bin .mul (.con (.int (2))) (.var 2)) (.con (.int (c.k5))))) (.bin .mul (.bin .mul (.con (.int (c.k6))) (.var 2)) (.var 2))) (.con (.int (c.k7)))) (.con (.int (3)))) .nil)) (.con (.int (c.p3))))) (.cons (.ret (.bin .mod (.bi .int (.cons (.bin .fdiv (.var 4) (.con (.int (64)))) .nil)) (.var 1))) .nil)))
def dipT (q : Nat) (c : Kc) : MSs := (.cons (.asg (.slot 2) (.idx (.var 0) (.con (.int (1))))) (.cons (.setIdx (.var 0) (.con (.int (1))) (.bin .add (.var 2) (.con (.int (1))))) (.cons (.asg (.slot 3) (.bin .add (.bin .mul (.con (.int (c.k1))) (.var 2)) (.con (.int (c.k2))))) (.cons (.ife (.cmp .ne (.idx (.var 0) (.con (.int (0)))) (.lst false .nil)) (.cons (.asg (.slot 3) (.idx (.idx (.var 0) (.con (.int (0)))) (.bin .mod (.bi .int (.cons (.var 2) .nil)) (.bi .len (.cons (.idx (.var 0) (.con (.int (0)))) .nil))))) .nil) .nil) (.cons (dipG q) (dipM c))))))
def left : ME := .cmp .gt (.idx (.var 0) (.con (.int (2)))) (.con (.int (0)))
def dipA (c : Kc) : MSs := .cons (.ife left (.cons (.asg (.slot 5) (.idx (.var 0) (.con (.int (2))))) (.cons (.setIdx (.var 0) (.con (.int (2))) (.bin .fdiv (.bi .int (.cons (.var 5) .nil)) (.var 1))) (.cons (.ret (.bin .mod (.bi .int (.cons (.var 5) .nil)) (.var 1))) .nil))) .nil) (dipT 5 c)
def dipB (c : Kc) : MSs := .cons (.ife left (.cons (.asg (.slot 5) (.bin .mod (.bi .int (.cons (.idx (.var 0) (.con (.int (2)))) .nil)) (.var 1))) (.cons (.setIdx (.var 0) (.con (.int (2))) (.bin .fdiv (.bi .int (.cons (.idx (.var 0) (.con (.int (2)))) .nil)) (.var 1))) (.cons (.ret (.var 5)) .nil))) .nil) (dipT 6 c)
def dipC (c : Kc) : MSs := .cons (.ife left (.cons (.asg (.slot 5) (.bi .int (.cons (.idx (.var 0) (.con (.int (2)))) .nil))) (.cons (.setIdx (.var 0) (.con (.int (2))) (.bin .fdiv (.var 5) (.var 1))) (.cons (.ret (.bin .mod (.bi .int (.cons (.var 5) .nil)) (.var 1))) .nil))) .nil) (dipT 5 c)
/-- what a drawing body does -/
def Draws (b : MSs) (ns : Nat) : Prop := ∀ (P : Pg) (call : Call) (cs : List Int) (a r e m : Int) (T : Store), Jr e cs a r → e < 2 ^ 20 → 1 ≤ m → m < 2 ^ 4000 →
    ∃ d cs' a' r', fin (evSs P call b ⟨some (.cell 0) :: some (.int m) :: List.replicate (ns - 2) none, none⟩ (jar cs a r :: T)) = .ok (.int d) (jar cs' a' r' :: T) ∧ 0 ≤ d ∧ d < m ∧ Jr (e + 1) cs' a' r'
theorem lt_of {c : Kc} (h : c.ok = true) : (0 ≤ c.k1 ∧ c.k1 < 2 ^ 20 ∧ 0 ≤ c.k2 ∧ c.k2 < 2 ^ 20 ∧ 1 ≤ c.p1 ∧ c.p1 < 2 ^ 31 ∧ 0 ≤ c.k3 ∧ c.k3 < 2 ^ 20) ∧ (0 ≤ c.k4 ∧ c.k4 < 2 ^ 20 ∧ 1 ≤ c.p2 ∧ c.p2 < 2 ^ 31 ∧ 0 ≤ c.k5 ∧ c.k5 < 2 ^ 20 ∧ 0 ≤ c.k6 ∧ c.k6 < 2 ^ 20) ∧ 0 ≤ c.k7 ∧ c.k7 < 2 ^ 20 ∧ 1 ≤ c.p3 ∧ c.p3 < 2 ^ 31 := by
  simp only [Kc.ok, Bool.and_eq_true, decide_eq_true_eq] at h
  obtain ⟨⟨⟨⟨⟨⟨⟨⟨⟨⟨⟨⟨⟨⟨⟨⟨⟨⟨⟨a1, a2⟩, a3⟩, a4⟩, a5⟩, a6⟩, a7⟩, a8⟩, a9⟩, a10⟩, a11⟩, a12⟩, a13⟩, a14⟩, a15⟩, a16⟩, a17⟩, a18⟩, a19⟩, a20⟩ := h
  exact ⟨⟨a1, a2, a3, a4, a5, a6, a7, a8⟩, ⟨a9, a10, a11, a12, a13, a14, a15, a16⟩, a17, a18, a19, a20⟩
theorem p20 {x y : Int} {n : Nat} (h0 : 0 ≤ x) (h : x < 2 ^ 20) (hy : y.natAbs < 2 ^ n) : (x * y).natAbs < 2 ^ (20 + n) := ab_mul (show x.natAbs < 2 ^ 20 by omega) hy
section
variable {P : Pg} {call : Call} {cs : List Int} {a e m : Int} {T : Store}
/-- where nothing is left -/
theorem dipT_ok (q ns : Nat) (hq : q < ns) (hq5 : 5 ≤ q) {c : Kc} (hc : c.ok = true) (J : Jr e cs a 0) (he : e < 2 ^ 20) (hm : 1 ≤ m) (hm2 : m < 2 ^ 4000) :
    ∃ d cs' a' r', fin (evSs P call (dipT q c) ⟨some (.cell 0) :: some (.int m) :: none :: none :: none :: List.replicate (ns - 5) none, none⟩ (jar cs a 0 :: T)) = .ok (.int d) (jar cs' a' r' :: T) ∧ 0 ≤ d ∧ d < m ∧ Jr (e + 1) cs' a' r' := by
  obtain ⟨⟨h1, h2, h3, h4, h5, h6, h7, h8⟩, ⟨h9, h10, h11, h12, h13, h14, h15, h16⟩, h17, h18, h19, h20⟩ := lt_of hc
  obtain ⟨k1, k2, p1, k3, k4, p2, k5, k6, k7, p3⟩ := c
  simp only at h1 h2 h3 h4 h5 h6 h7 h8 h9 h10 h11 h12 h13 h14 h15 h16 h17 h18 h19 h20
  have hz : Sz m = true := by
    unfold Sz
    rw [Nat.blt_eq]
    exact Nat.lt_of_lt_of_le (show m.natAbs < 2 ^ 4000 by omega) (Nat.pow_le_pow_right (by omega) (by omega))
  have hm0 : m ≠ 0 := by omega
  have a0 := J.a0
  have a1 := J.a1
  have aa : a.natAbs < 2 ^ 20 := by omega
  have b1 : L2.ixN 3 1 = some 1 := ix_nat (i := 1) (by omega)
  have b2 : L2.ixN 3 2 = some 2 := ix_nat (i := 2) (by omega)
  have m60 {x : Int} (y : Int) (h0 : 0 ≤ x) (h : x < 2 ^ 20) : Mu x y = true := mu_l (by omega)
  obtain ⟨c, hc⟩ : ∃ c : Int, c = (if cs = [] then k1 * a + k2 else (cs[(a.fmod cs.length).toNat]?).getD 0) := ⟨_, rfl⟩
  generalize hR : List.replicate (ns - 5) (none : Option D) = R
  have hRl : R.length = ns - 5 := by rw [← hR]; simp
  have st : ∀ o, evSs P call (.cons (dipG q) (dipM ⟨k1, k2, p1, k3, k4, p2, k5, k6, k7, p3⟩)) ⟨some (.cell 0) :: some (.int m) :: some (.int a) :: some (.int c) :: none :: R, none⟩ (jar cs (a + 1) 0 :: T) = o →
      evSs P call (dipT q ⟨k1, k2, p1, k3, k4, p2, k5, k6, k7, p3⟩) ⟨some (.cell 0) :: some (.int m) :: none :: none :: none :: R, none⟩ (jar cs a 0 :: T) = o := by
    intro o ho
    unfold dipT
    refine ss_cons (fr' := ⟨some (.cell 0) :: some (.int m) :: some (.int a) :: none :: none :: R, none⟩) (S' := jar cs a 0 :: T) (by simp [evSs, evS, evE, evEs, evO, evT, evI, Res.bind, Res.bindL, Res.bindO, ResL.bind, ResL.bindL, ResL.bindO, Mi.start, truth, callM, fill, newM, selfM, putM, putMs, putD, noExc, putP, putPs, evPar, elems, cmpM, cmpI, bin_ii, biM, neg_i, lenB, isND, idxM, iniM, partD, asBool, flipB, eqM_ii, neM_ii, raisM, jar, at1]) ?_
    refine ss_cons (fr' := ⟨some (.cell 0) :: some (.int m) :: some (.int a) :: none :: none :: R, none⟩) (S' := jar cs (a + 1) 0 :: T) (by simp [evSs, evS, evE, evEs, evO, evT, evI, Res.bind, Res.bindL, Res.bindO, ResL.bind, ResL.bindL, ResL.bindO, Mi.start, truth, callM, fill, newM, selfM, putM, putMs, putD, noExc, putP, putPs, evPar, elems, cmpM, cmpI, bin_ii, biM, neg_i, lenB, isND, idxM, iniM, partD, asBool, flipB, eqM_ii, neM_ii, raisM, jar, setIdxM, b1]) ?_
    refine ss_cons (fr' := ⟨some (.cell 0) :: some (.int m) :: some (.int a) :: some (.int (k1 * a + k2)) :: none :: R, none⟩) (S' := jar cs (a + 1) 0 :: T) (by simp [evSs, evS, evE, evEs, evO, evT, evI, Res.bind, Res.bindL, Res.bindO, ResL.bind, ResL.bindL, ResL.bindO, Mi.start, truth, callM, fill, newM, selfM, putM, putMs, putD, noExc, putP, putPs, evPar, elems, cmpM, cmpI, bin_ii, biM, neg_i, lenB, isND, idxM, iniM, partD, asBool, flipB, eqM_ii, neM_ii, raisM, m60 _ h1 h2]) ?_
    refine ss_cons (fr' := ⟨some (.cell 0) :: some (.int m) :: some (.int a) :: some (.int c) :: none :: R, none⟩) (S' := jar cs (a + 1) 0 :: T) ?_ ho
    have nn := ne_nil (P := P) (call := call) (S := jar cs (a + 1) 0 :: T) cs J.l
    by_cases hcs : cs = []
    · subst hcs
      simp only [evS, evE, evEs]
      simp [evSs, evS, evE, evEs, evO, evT, evI, Res.bind, Res.bindL, Res.bindO, ResL.bind, ResL.bindL, ResL.bindO, Mi.start, truth, callM, fill, newM, selfM, putM, putMs, putD, noExc, putP, putPs, evPar, elems, cmpM, cmpI, bin_ii, biM, neg_i, lenB, isND, idxM, iniM, partD, asBool, flipB, eqM_ii, neM_ii, raisM, jar, at0] at nn ⊢
      simp [nn, hc, lim, evSs, evS, evE, evEs, evO, evT, evI, Res.bind, Res.bindL, Res.bindO, ResL.bind, ResL.bindL, ResL.bindO, Mi.start, truth, callM, fill, newM, selfM, putM, putMs, putD, noExc, putP, putPs, evPar, elems, cmpM, cmpI, bin_ii, biM, neg_i, lenB, isND, idxM, iniM, partD, asBool, flipB, eqM_ii, neM_ii, raisM]
    · have hl : cs.length ≠ 0 := fun z => hcs (List.length_eq_zero_iff.mp z)
      have fb := fm_bd a (m := cs.length) (by omega)
      have hlt : (a.fmod cs.length).toNat < cs.length := by omega
      have e1 : L2.atI (cs.map D.int) (a.fmod cs.length) = some (.int c) := by
        have : (a.fmod cs.length) = (((a.fmod cs.length).toNat : Nat) : Int) := by omega
        rw [this]
        refine at_nat ?_
        rw [hc, if_neg hcs, List.getElem?_map, List.getElem?_eq_getElem hlt]
        rfl
      have hl2 : ¬ (cs.length : Int) = 0 := by omega
      simp only [evS, evE, evEs]
      simp [evSs, evS, evE, evEs, evO, evT, evI, Res.bind, Res.bindL, Res.bindO, ResL.bind, ResL.bindL, ResL.bindO, Mi.start, truth, callM, fill, newM, selfM, putM, putMs, putD, noExc, putP, putPs, evPar, elems, cmpM, cmpI, bin_ii, biM, neg_i, lenB, isND, idxM, iniM, partD, asBool, flipB, eqM_ii, neM_ii, raisM, jar, at0] at nn ⊢
      simp [nn, hcs, lim, evSs, evS, evE, evEs, evO, evT, evI, Res.bind, Res.bindL, Res.bindO, ResL.bind, ResL.bindL, ResL.bindO, Mi.start, truth, callM, fill, newM, selfM, putM, putMs, putD, noExc, putP, putPs, evPar, elems, cmpM, cmpI, bin_ii, biM, neg_i, lenB, isND, idxM, iniM, partD, asBool, flipB, eqM_ii, neM_ii, raisM, at0, hl2, e1]
  obtain ⟨j, rfl⟩ : ∃ j, q = j + 5 := ⟨q - 5, by omega⟩
  have hj : j < R.length := by omega
  by_cases hb : a < cs.length ∧ (10 : Int) ^ 18 ≤ (if c < 0 then -c else c)
  · obtain ⟨hb1, hb2⟩ := hb
    obtain ⟨x, hx⟩ : ∃ x : Int, x = 2 * ((if c < 0 then -c else c) - 10 ^ 18) + (if c < 0 then 1 else 0) := ⟨_, rfl⟩
    have hx0 : 0 ≤ x := by rw [hx]; split <;> omega
    refine ⟨x.fmod m, cs, a + 1, x.fdiv m, ?_, (fm_bd x hm).1, (fm_bd x hm).2, J.l, by omega, by omega, Int.fdiv_nonneg hx0 (by omega)⟩
    rw [st _ rfl]
    by_cases hneg : c < 0
    · simp [hneg] at hb2 hx
      simp [fin, dipG, evSs, evS, evE, evEs, evO, evT, evI, Res.bind, Res.bindL, Res.bindO, ResL.bind, ResL.bindL, ResL.bindO, Mi.start, truth, callM, fill, newM, selfM, putM, putMs, putD, noExc, putP, putPs, evPar, elems, cmpM, cmpI, bin_ii, biM, neg_i, lenB, isND, idxM, iniM, partD, asBool, flipB, eqM_ii, neM_ii, raisM, jar, at0, hb1, hb2, hneg, mu_l (show (2 : Int).natAbs < 2 ^ 60 by decide), setIdxM, b2, hm0, hz, hx, hj]
    · simp [hneg] at hb2 hx
      simp [fin, dipG, evSs, evS, evE, evEs, evO, evT, evI, Res.bind, Res.bindL, Res.bindO, ResL.bind, ResL.bindL, ResL.bindO, Mi.start, truth, callM, fill, newM, selfM, putM, putMs, putD, noExc, putP, putPs, evPar, elems, cmpM, cmpI, bin_ii, biM, neg_i, lenB, isND, idxM, iniM, partD, asBool, flipB, eqM_ii, neM_ii, raisM, jar, at0, hb1, hb2, hneg, mu_l (show (2 : Int).natAbs < 2 ^ 60 by decide), setIdxM, b2, hm0, hz, hx, hj]
  · obtain ⟨y, hy⟩ : ∃ y : Int, y = ((c.fmod p1) + k3 * a + k4) ^ 5 := ⟨_, rfl⟩
    obtain ⟨z, hz'⟩ : ∃ z : Int, z = ((y.fmod p2) * (2 * a + k5) + k6 * a * a + k7) ^ 3 := ⟨_, rfl⟩
    have i1 := fm_bd c h5
    have i2 := fm_bd y h11
    have s1 : (k3 * a).natAbs < 2 ^ 40 := p20 h7 h8 aa
    have s2 : (k6 * a).natAbs < 2 ^ 40 := p20 h15 h16 aa
    have w1 : ((c.fmod p1) + k3 * a + k4).natAbs < 2 ^ 64 := by omega
    have s3 : ((y.fmod p2) * (2 * a + k5)).natAbs < 2 ^ (31 + 22) := ab_mul (by omega) (by omega)
    have s4 : (k6 * a * a).natAbs < 2 ^ (40 + 20) := ab_mul s2 aa
    have w2 : ((y.fmod p2) * (2 * a + k5) + k6 * a * a + k7).natAbs < 2 ^ 64 := by omega
    have n1 : p1 ≠ 0 := by omega
    have n2 : p2 ≠ 0 := by omega
    have n3 : p3 ≠ 0 := by omega
    refine ⟨((z.fmod p3).fdiv 64).fmod m, cs, a + 1, 0, ?_, (fm_bd _ hm).1, (fm_bd _ hm).2, J.l, by omega, by omega, by omega⟩
    rw [st _ rfl]
    have no : evS P call (dipG (j + 5)) ⟨some (.cell 0) :: some (.int m) :: some (.int a) :: some (.int c) :: none :: R, none⟩ (jar cs (a + 1) 0 :: T) = .nx ⟨some (.cell 0) :: some (.int m) :: some (.int a) :: some (.int c) :: none :: R, none⟩ (jar cs (a + 1) 0 :: T) := by
      refine s_if_no ?_
      by_cases h1 : a < cs.length
      · have h2 : ¬ (10 : Int) ^ 18 ≤ (if c < 0 then -c else c) := fun z => hb ⟨h1, z⟩
        by_cases hneg : c < 0
        · simp [hneg] at h2
          have h3 : ¬ (1000000000000000000 : Int) ≤ -c := by omega
          simp [evSs, evS, evE, evEs, evO, evT, evI, Res.bind, Res.bindL, Res.bindO, ResL.bind, ResL.bindL, ResL.bindO, Mi.start, truth, callM, fill, newM, selfM, putM, putMs, putD, noExc, putP, putPs, evPar, elems, cmpM, cmpI, bin_ii, biM, neg_i, lenB, isND, idxM, iniM, partD, asBool, flipB, eqM_ii, neM_ii, raisM, jar, at0, h1, hneg, h3]
        · simp [hneg] at h2
          have h3 : ¬ (1000000000000000000 : Int) ≤ c := by omega
          simp [evSs, evS, evE, evEs, evO, evT, evI, Res.bind, Res.bindL, Res.bindO, ResL.bind, ResL.bindL, ResL.bindO, Mi.start, truth, callM, fill, newM, selfM, putM, putMs, putD, noExc, putP, putPs, evPar, elems, cmpM, cmpI, bin_ii, biM, neg_i, lenB, isND, idxM, iniM, partD, asBool, flipB, eqM_ii, neM_ii, raisM, jar, at0, h1, hneg, h3]
      · simp [evSs, evS, evE, evEs, evO, evT, evI, Res.bind, Res.bindL, Res.bindO, ResL.bind, ResL.bindL, ResL.bindO, Mi.start, truth, callM, fill, newM, selfM, putM, putMs, putD, noExc, putP, putPs, evPar, elems, cmpM, cmpI, bin_ii, biM, neg_i, lenB, isND, idxM, iniM, partD, asBool, flipB, eqM_ii, neM_ii, raisM, jar, at0, h1]
    rw [ss_cons no rfl]
    unfold dipM
    rw [ss_cons (fr' := ⟨some (.cell 0) :: some (.int m) :: some (.int a) :: some (.int c) :: some (.int (y.fmod p2)) :: R, none⟩) (S' := jar cs (a + 1) 0 :: T) (by simp [evSs, evS, evE, evEs, evO, evT, evI, Res.bind, Res.bindL, Res.bindO, ResL.bind, ResL.bindL, ResL.bindO, Mi.start, truth, callM, fill, newM, selfM, putM, putMs, putD, noExc, putP, putPs, evPar, elems, cmpM, cmpI, bin_ii, biM, neg_i, lenB, isND, idxM, iniM, partD, asBool, flipB, eqM_ii, neM_ii, raisM, m60 _ h7 h8, w1, hy, n1, n2]) rfl]
    rw [ss_cons (fr' := ⟨some (.cell 0) :: some (.int m) :: some (.int a) :: some (.int c) :: some (.int (z.fmod p3)) :: R, none⟩) (S' := jar cs (a + 1) 0 :: T) (by simp [evSs, evS, evE, evEs, evO, evT, evI, Res.bind, Res.bindL, Res.bindO, ResL.bind, ResL.bindL, ResL.bindO, Mi.start, truth, callM, fill, newM, selfM, putM, putMs, putD, noExc, putP, putPs, evPar, elems, cmpM, cmpI, bin_ii, biM, neg_i, lenB, isND, idxM, iniM, partD, asBool, flipB, eqM_ii, neM_ii, raisM, mu_l (show (2 : Int).natAbs < 2 ^ 60 by decide), m60 _ h15 h16, mu_l (show (k6 * a : Int).natAbs < 2 ^ 60 by omega), mu_l (show (y.fmod p2).natAbs < 2 ^ 60 by omega), w2, hz', n3]) rfl]
    simp [fin, evSs, evS, evE, evEs, evO, evT, evI, Res.bind, Res.bindL, Res.bindO, ResL.bind, ResL.bindL, ResL.bindO, Mi.start, truth, callM, fill, newM, selfM, putM, putMs, putD, noExc, putP, putPs, evPar, elems, cmpM, cmpI, bin_ii, biM, neg_i, lenB, isND, idxM, iniM, partD, asBool, flipB, eqM_ii, neM_ii, raisM, hm0, show Sz 64 = true by decide]
end
theorem dipA_ok {c : Kc} (hc : c.ok = true) : Draws (dipA c) 6 := by
  intro P call cs a r e m T J he hm hm2
  have hz : Sz m = true := by
    unfold Sz
    rw [Nat.blt_eq]
    exact Nat.lt_of_lt_of_le (show m.natAbs < 2 ^ 4000 by omega) (Nat.pow_le_pow_right (by omega) (by omega))
  have hm0 : m ≠ 0 := by omega
  have b2 : L2.ixN 3 2 = some 2 := ix_nat (i := 2) (by omega)
  by_cases hr : 0 < r
  · refine ⟨r.fmod m, cs, a, r.fdiv m, ?_, (fm_bd r hm).1, (fm_bd r hm).2, J.l, J.a0, by have := J.a1; omega, Int.fdiv_nonneg (by omega) (by omega)⟩
    simp [fin, dipA, left, evSs, evS, evE, evEs, evO, evT, evI, Res.bind, Res.bindL, Res.bindO, ResL.bind, ResL.bindL, ResL.bindO, Mi.start, truth, callM, fill, newM, selfM, putM, putMs, putD, noExc, putP, putPs, evPar, elems, cmpM, cmpI, bin_ii, biM, neg_i, lenB, isND, idxM, iniM, partD, asBool, flipB, eqM_ii, neM_ii, raisM, jar, at2, hr, setIdxM, b2, hm0, hz]
  · have hr0 : r = 0 := by have := J.r0; omega
    subst hr0
    obtain ⟨d, cs', a', r', h1, h2⟩ := dipT_ok (P := P) (call := call) (T := T) 5 6 (by omega) (by omega) hc J he hm hm2
    refine ⟨d, cs', a', r', ?_, h2⟩
    rw [← h1]
    unfold dipA
    rw [ss_cons (S' := jar cs a 0 :: T) (s_if_no (by simp [left, evSs, evS, evE, evEs, evO, evT, evI, Res.bind, Res.bindL, Res.bindO, ResL.bind, ResL.bindL, ResL.bindO, Mi.start, truth, callM, fill, newM, selfM, putM, putMs, putD, noExc, putP, putPs, evPar, elems, cmpM, cmpI, bin_ii, biM, neg_i, lenB, isND, idxM, iniM, partD, asBool, flipB, eqM_ii, neM_ii, raisM, jar, at2])) rfl]
    rfl
theorem dipB_ok {c : Kc} (hc : c.ok = true) : Draws (dipB c) 7 := by
  intro P call cs a r e m T J he hm hm2
  have hz : Sz m = true := by
    unfold Sz
    rw [Nat.blt_eq]
    exact Nat.lt_of_lt_of_le (show m.natAbs < 2 ^ 4000 by omega) (Nat.pow_le_pow_right (by omega) (by omega))
  have hm0 : m ≠ 0 := by omega
  have b2 : L2.ixN 3 2 = some 2 := ix_nat (i := 2) (by omega)
  by_cases hr : 0 < r
  · refine ⟨r.fmod m, cs, a, r.fdiv m, ?_, (fm_bd r hm).1, (fm_bd r hm).2, J.l, J.a0, by have := J.a1; omega, Int.fdiv_nonneg (by omega) (by omega)⟩
    simp [fin, dipB, left, evSs, evS, evE, evEs, evO, evT, evI, Res.bind, Res.bindL, Res.bindO, ResL.bind, ResL.bindL, ResL.bindO, Mi.start, truth, callM, fill, newM, selfM, putM, putMs, putD, noExc, putP, putPs, evPar, elems, cmpM, cmpI, bin_ii, biM, neg_i, lenB, isND, idxM, iniM, partD, asBool, flipB, eqM_ii, neM_ii, raisM, jar, at2, hr, setIdxM, b2, hm0, hz]
  · have hr0 : r = 0 := by have := J.r0; omega
    subst hr0
    obtain ⟨d, cs', a', r', h1, h2⟩ := dipT_ok (P := P) (call := call) (T := T) 6 7 (by omega) (by omega) hc J he hm hm2
    refine ⟨d, cs', a', r', ?_, h2⟩
    rw [← h1]
    unfold dipB
    rw [ss_cons (S' := jar cs a 0 :: T) (s_if_no (by simp [left, evSs, evS, evE, evEs, evO, evT, evI, Res.bind, Res.bindL, Res.bindO, ResL.bind, ResL.bindL, ResL.bindO, Mi.start, truth, callM, fill, newM, selfM, putM, putMs, putD, noExc, putP, putPs, evPar, elems, cmpM, cmpI, bin_ii, biM, neg_i, lenB, isND, idxM, iniM, partD, asBool, flipB, eqM_ii, neM_ii, raisM, jar, at2])) rfl]
    rfl
theorem dipC_ok {c : Kc} (hc : c.ok = true) : Draws (dipC c) 6 := by
  intro P call cs a r e m T J he hm hm2
  have hz : Sz m = true := by
    unfold Sz
    rw [Nat.blt_eq]
    exact Nat.lt_of_lt_of_le (show m.natAbs < 2 ^ 4000 by omega) (Nat.pow_le_pow_right (by omega) (by omega))
  have hm0 : m ≠ 0 := by omega
  have b2 : L2.ixN 3 2 = some 2 := ix_nat (i := 2) (by omega)
  by_cases hr : 0 < r
  · refine ⟨r.fmod m, cs, a, r.fdiv m, ?_, (fm_bd r hm).1, (fm_bd r hm).2, J.l, J.a0, by have := J.a1; omega, Int.fdiv_nonneg (by omega) (by omega)⟩
    simp [fin, dipC, left, evSs, evS, evE, evEs, evO, evT, evI, Res.bind, Res.bindL, Res.bindO, ResL.bind, ResL.bindL, ResL.bindO, Mi.start, truth, callM, fill, newM, selfM, putM, putMs, putD, noExc, putP, putPs, evPar, elems, cmpM, cmpI, bin_ii, biM, neg_i, lenB, isND, idxM, iniM, partD, asBool, flipB, eqM_ii, neM_ii, raisM, jar, at2, hr, setIdxM, b2, hm0, hz]
  · have hr0 : r = 0 := by have := J.r0; omega
    subst hr0
    obtain ⟨d, cs', a', r', h1, h2⟩ := dipT_ok (P := P) (call := call) (T := T) 5 6 (by omega) (by omega) hc J he hm hm2
    refine ⟨d, cs', a', r', ?_, h2⟩
    rw [← h1]
    unfold dipC
    rw [ss_cons (S' := jar cs a 0 :: T) (s_if_no (by simp [left, evSs, evS, evE, evEs, evO, evT, evI, Res.bind, Res.bindL, Res.bindO, ResL.bind, ResL.bindL, ResL.bindO, Mi.start, truth, callM, fill, newM, selfM, putM, putMs, putD, noExc, putP, putPs, evPar, elems, cmpM, cmpI, bin_ii, biM, neg_i, lenB, isND, idxM, iniM, partD, asBool, flipB, eqM_ii, neM_ii, raisM, jar, at2])) rfl]
    rfl
/-- a def that draws -/
theorem run_dip {P : Pg} {f ns : Nat} {b : MSs} (h : P.fs[f]? = some ⟨2, ns, b, []⟩) (hb : Draws b ns) (h2 : 2 ≤ ns) (k : Nat) {cs : List Int} {a r e m : Int} {T : Store} (J : Jr e cs a r) (he : e < 2 ^ 20) (hm : 1 ≤ m) (hm2 : m < 2 ^ 4000) :
    ∃ d cs' a' r', run P (k + 1) (.fn f [.cell 0, .int m]) (jar cs a r :: T) = .ok (.int d) (jar cs' a' r' :: T) ∧ 0 ≤ d ∧ d < m ∧ Jr (e + 1) cs' a' r' := by
  rw [run_f h rfl]
  exact hb P (run P k) cs a r e m T J he hm hm2
/-! ### the jar is made -/
def pailB (n : Int) : MSs := (.cons (.ret (.lst true (.cons (.comp (.bi .int (.cons (.var 1) .nil)) (.slot 1) [1] (.ex (.slice (.var 0) .none (.some (.con (.int (n)))))) .none) (.cons (.con (.int (0))) (.cons (.con (.int (0))) .nil))))) .nil)
theorem cut_n {l : List D} (n : Nat) : cutL l none (some (n : Int)) = l.take n := by
  have z : HT.sIx l.length 0 none = 0 := rfl
  have := HT.sIx_nat l.length l.length n
  unfold cutL
  rw [this, z, Nat.sub_zero, List.drop_zero]
  rcases Nat.le_total n l.length with h | h
  · rw [Nat.min_eq_left h]
  · rw [Nat.min_eq_right h, List.take_length, List.take_of_length_le h]
theorem run_pail {P : Pg} {f n : Nat} {i : Int} (h : P.fs[f]? = some ⟨1, 2, pailB i, []⟩) (hi : i = (n : Int)) (hn : n ≤ 63) (k : Nat) (ns : List Int) :
    run P (k + 1) (.fn f [.scr (ns.map .int)]) [] = .ok (.cell 0) [jar (ns.take n) 0 0] := by
  rw [run_f h rfl]
  generalize run P k = call
  subst hi
  have c : evE P call (.comp (.bi .int (.cons (.var 1) .nil)) (.slot 1) [1] (.ex (.slice (.var 0) .none (.some (.con (.int (n : Int)))))) .none) ⟨[some (.scr (ns.map .int)), none], none⟩ [] = .ok (.lst ((ns.take n).map .int)) [] := by
    refine comp_by (L := ns.take n) D.int D.int rfl ?_ (Nat.lt_of_le_of_lt (List.length_take_le _ _) (Nat.lt_of_le_of_lt hn (by decide))) (fun i hi => ⟨[some (.scr (ns.map .int)), some (.int i)], by simp [putP, wipeD], by simp [evSs, evS, evE, evEs, evO, evT, evI, Res.bind, Res.bindL, Res.bindO, ResL.bind, ResL.bindL, ResL.bindO, Mi.start, truth, callM, fill, newM, selfM, putM, putMs, putD, noExc, putP, putPs, evPar, elems, cmpM, cmpI, bin_ii, biM, neg_i, lenB, isND, idxM, iniM, partD, asBool, flipB, eqM_ii, neM_ii, raisM]⟩)
    simp [evI, evE, evO, Res.bind, Res.bindL, partD, sliceM, cut_n, elems, List.map_take]
  show fin (evSs P call (pailB n) ⟨[some (.scr (ns.map .int)), none], none⟩ []) = _
  have r : evE P call (.lst true (.cons (.comp (.bi .int (.cons (.var 1) .nil)) (.slot 1) [1] (.ex (.slice (.var 0) .none (.some (.con (.int (n : Int)))))) .none) (.cons (.con (.int (0))) (.cons (.con (.int (0))) .nil)))) ⟨[some (.scr (ns.map .int)), none], none⟩ [] = .ok (.cell 0) [jar (ns.take n) 0 0] := by
    rw [evE, evEs, c]
    simp [Res.bindL, evEs, evE, ResL.bindL, ResL.bind, lim, jar]
  unfold pailB
  rw [ss_ret r]
  rfl
theorem jr_pail {ns : List Int} {n : Nat} (hn : n ≤ 63) : Jr 0 (ns.take n) 0 0 := ⟨Nat.le_trans (List.length_take_le _ _) hn, by omega, by omega, by omega⟩
end Mg
end

section
set_option maxRecDepth 100000
set_option maxHeartbeats 4000000
/-! Mg2: == of plain data. -/
namespace Mg
open Mi Ma PySem
/-- plain data: its twin, small enough -/
structure Pl (n : Nat) (d : D) (q : PyData) : Prop where
  p : pyD d = some q
  c : q.canLay0 = true
  d : q.depth ≤ n
theorem Pl.mono {n m : Nat} {d : D} {q : PyData} (h : Pl n d q) (l : n ≤ m) : Pl m d q := ⟨h.p, h.c, Nat.le_trans h.d l⟩
theorem Pl.int {n : Nat} (i : Int) : Pl n (.int i) (.int i) := ⟨rfl, by simp [PyData.canLay0], by simp [PyData.depth]⟩
theorem Pl.bl {n : Nat} (i : Bool) : Pl n (.bl i) (.bool i) := ⟨rfl, by simp [PyData.canLay0], by simp [PyData.depth]⟩
theorem Pl.non {n : Nat} : Pl n .non .none := ⟨rfl, by simp [PyData.canLay0], by simp [PyData.depth]⟩
theorem Pl.str {n : Nat} {i : Str} (h : PyData.strOk i = true) : Pl n (.str i) (.str i) := ⟨rfl, by simp [PyData.canLay0, h], by simp [PyData.depth]⟩
/-- .. of lists of them -/
inductive Pls (n : Nat) : List D → List PyData → Prop where
  | nil : Pls n [] []
  | cons {d : D} {q : PyData} {l : List D} {r : List PyData} : Pl n d q → Pls n l r → Pls n (d :: l) (q :: r)
theorem Pls.p {n : Nat} : ∀ {l : List D} {r : List PyData}, Pls n l r → pyDs l = some r ∧ PyData.canLayAll0 r = true ∧ PyData.depthAll r ≤ n ∧ l.length = r.length
  | _, _, .nil => ⟨rfl, by simp [PyData.canLayAll0], by simp [PyData.depthAll], rfl⟩
  | _, _, .cons h t => by
    obtain ⟨a, b, c, d⟩ := t.p
    refine ⟨by simp [pyDs, h.p, a], by simp [PyData.canLayAll0, h.c, b], ?_, by simp [d]⟩
    have := h.d
    simp [PyData.depthAll]
    omega
theorem Pls.map {α : Type} {n : Nat} {f : α → D} {g : α → PyData} : ∀ {L : List α}, (∀ x ∈ L, Pl n (f x) (g x)) → Pls n (L.map f) (L.map g)
  | [], _ => .nil
  | x :: L, h => .cons (h x (by simp)) (Pls.map fun y hy => h y (List.mem_cons_of_mem _ hy))
theorem Pl.lst {n : Nat} {l : List D} {r : List PyData} (h : Pls n l r) (hl : l.length ≤ 100000) : Pl (n + 1) (.lst l) (.list r) := by
  obtain ⟨a, b, c, d⟩ := h.p
  refine ⟨by simp [pyD, a], ?_, by simp [PyData.depth]; omega⟩
  simp [PyData.canLay0, b, sizeLine]
theorem Pl.tup {n : Nat} {l : List D} {r : List PyData} (h : Pls n l r) (hl : l.length ≤ 100000) : Pl (n + 1) (.tup l) (.tuple r) := by
  obtain ⟨a, b, c, d⟩ := h.p
  refine ⟨by simp [pyD, a], ?_, by simp [PyData.depth]; omega⟩
  simp [PyData.canLay0, b, sizeLine]
theorem Pl.ok {n : Nat} {d : D} {q : PyData} (h : Pl n d q) (hn : n ≤ 64) : okD d = some q := by
  have := h.d
  simp [okD, h.p, SeqAt.shaped, h.c]
  omega
theorem okE_ok {d : D} {q : PyData} {S : Store} (h : okD d = some q) : okE d S = some q := by
  cases d with
  | cell n => simp [okD, pyD] at h
  | _ => exact h
theorem okE_cell {n : Nat} {l : List D} {q : PyData} {S : Store} (hs : S[n]? = some (.lst l)) (h : okD (.lst l) = some q) : okE (.cell n) S = some q := by
  simp only [okE, hs, h]
theorem eqM_pl {P : Pg} {call : Call} {S : Store} {x y : D} {a b : PyData} (h1 : okE x S = some a) (h2 : okE y S = some b) : eqM P call x y S = .ok (.bl (PyData.eqv a b)) S := by
  simp only [eqM, h1, h2]
theorem neM_pl {P : Pg} {call : Call} {S : Store} {x y : D} {a b : PyData} (h1 : okE x S = some a) (h2 : okE y S = some b) : neM P call x y S = .ok (.bl !(PyData.eqv a b)) S := by
  simp only [neM, h1, h2]
theorem eqv_int (i j : Int) : PyData.eqv (.int i) (.int j) = decide (i = j) := by simp [PyData.eqv]; try rfl
theorem eqv_bl (i j : Bool) : PyData.eqv (.bool i) (.bool j) = decide (i = j) := by simp [PyData.eqv]; try rfl
theorem eqv_str (i j : Str) : PyData.eqv (.str i) (.str j) = decide (i = j) := by simp [PyData.eqv]; try rfl
theorem eqv_tup (l r : List PyData) : PyData.eqv (.tuple l) (.tuple r) = PyData.eqvAll l r := by simp [PyData.eqv]
theorem eqv_lst (l r : List PyData) : PyData.eqv (.list l) (.list r) = PyData.eqvAll l r := by simp [PyData.eqv]
theorem eqvA_nn : PyData.eqvAll [] [] = true := by simp [PyData.eqvAll]
theorem eqvA_nc (b : PyData) (r : List PyData) : PyData.eqvAll [] (b :: r) = false := by simp [PyData.eqvAll]
theorem eqvA_cn (b : PyData) (r : List PyData) : PyData.eqvAll (b :: r) [] = false := by simp [PyData.eqvAll]
theorem eqvA_cc (a b : PyData) (l r : List PyData) : PyData.eqvAll (a :: l) (b :: r) = (PyData.eqv a b && PyData.eqvAll l r) := by simp [PyData.eqvAll]
/-- lists of the same sort, item by item -/
theorem eqvA_map {α : Type} [DecidableEq α] {g : α → PyData} (h : ∀ x y, PyData.eqv (g x) (g y) = decide (x = y)) : ∀ L M : List α, PyData.eqvAll (L.map g) (M.map g) = decide (L = M)
  | [], [] => by simp [eqvA_nn]
  | [], y :: M => by simp [eqvA_nc]
  | x :: L, [] => by simp [eqvA_cn]
  | x :: L, y :: M => by simp [eqvA_cc, h, eqvA_map h L M]
/-! ### pairs of integers -/
def pr2 (x : Int × Int) : D := .tup [.int x.1, .int x.2]
def pq2 (x : Int × Int) : PyData := .tuple [.int x.1, .int x.2]
theorem pl_pr2 (x : Int × Int) {n : Nat} (h : 1 ≤ n) : Pl n (pr2 x) (pq2 x) := (Pl.tup (n := 0) (.cons (.int _) (.cons (.int _) .nil)) (by simp)).mono h
theorem eqv_pq2 (x y : Int × Int) : PyData.eqv (pq2 x) (pq2 y) = decide (x = y) := by
  obtain ⟨a, b⟩ := x
  obtain ⟨c, d⟩ := y
  simp [pq2, eqv_tup, eqvA_cc, eqvA_nn, eqv_int, Bool.decide_and]
theorem eqM_pr {P : Pg} {call : Call} {S : Store} (a b c d : Int) : eqM P call (.tup [.int a, .int b]) (.tup [.int c, .int d]) S = .ok (.bl (decide (a = c ∧ b = d))) S := by
  show eqM P call (pr2 (a, b)) (pr2 (c, d)) S = _
  rw [eqM_pl (okE_ok ((pl_pr2 (a, b) (Nat.le_refl _)).ok (by omega))) (okE_ok ((pl_pr2 (c, d) (Nat.le_refl _)).ok (by omega))), eqv_pq2]
  simp
theorem neM_pr {P : Pg} {call : Call} {S : Store} (a b c d : Int) : neM P call (.tup [.int a, .int b]) (.tup [.int c, .int d]) S = .ok (.bl !(decide (a = c ∧ b = d))) S := by
  show neM P call (pr2 (a, b)) (pr2 (c, d)) S = _
  rw [neM_pl (okE_ok ((pl_pr2 (a, b) (Nat.le_refl _)).ok (by omega))) (okE_ok ((pl_pr2 (c, d) (Nat.le_refl _)).ok (by omega))), eqv_pq2]
  simp
/-- a cell's list against [] -/
theorem neM_cnil {P : Pg} {call : Call} {S : Store} {n : Nat} {l : List D} {r : List PyData} (hs : S[n]? = some (.lst l)) (h : okD (.lst l) = some (.list r)) : neM P call (.cell n) (.lst []) S = .ok (.bl (decide (r ≠ []))) S := by
  rw [neM_pl (okE_cell hs h) (okE_ok ((Pl.lst (n := 0) .nil (by simp)).ok (by omega)))]
  cases r with
  | nil => simp [eqv_lst, eqvA_nn]
  | cons a r => simp [eqv_lst, eqvA_cn]
end Mg
end

section
set_option maxRecDepth 100000
set_option maxHeartbeats 4000000
/-! Mgs: texts: the codes of a text, of an integer's figures. -/
namespace Mg
open Mi Ma PySem
def codes (l : List Char) : List Nat := l.map (·.toNat)
theorem byte_of (c : Char) (h : c.toNat < 128) : String.utf8EncodeChar c = [c.val.toUInt8] ∧ c.val.toUInt8.toNat = c.toNat := by
  have h1 : c.utf8Size = 1 := by
    unfold Char.utf8Size
    exact if_pos (show c.val ≤ 127 from UInt32.le_iff_toNat_le.mpr (by show c.toNat ≤ 127; omega))
  refine ⟨String.utf8EncodeChar_eq_singleton h1, ?_⟩
  rw [UInt32.toNat_toUInt8]
  show c.toNat % 256 = c.toNat
  omega
theorem cps_ascii : ∀ (l : List Char), (∀ c ∈ l, c.toNat < 128) → cpsOfBytes 0 0 (l.flatMap String.utf8EncodeChar) = codes l
  | [], _ => by simp [cpsOfBytes, codes]
  | c :: l, h => by
    obtain ⟨h1, h2⟩ := byte_of c (h c (by simp))
    have ih := cps_ascii l fun d hd => h d (List.mem_cons_of_mem _ hd)
    simp only [List.flatMap_cons, h1, List.singleton_append]
    rw [cpsOfBytes, h2, if_pos (h c (by simp)), ih]
    rfl
theorem ofString_list (l : List Char) (h : ∀ c ∈ l, c.toNat < 128) : Str.ofString (String.ofList l) = ⟨(codes l).toArray⟩ := by
  unfold Str.ofString
  have e : (String.ofList l).toByteArray = l.utf8Encode := by
    rw [← String.utf8Encode_toList, String.toList_ofList]
  have e2 : l.utf8Encode.data.toList = l.flatMap String.utf8EncodeChar := by
    unfold List.utf8Encode
    rw [List.data_toByteArray]
  rw [e, e2, cps_ascii l h]
theorem ofString_eq (s : String) (h : ∀ c ∈ s.toList, c.toNat < 128) : Str.ofString s = ⟨(codes s.toList).toArray⟩ := by
  have := ofString_list s.toList h
  rwa [String.ofList_toList] at this
/-! ### figures -/
/-- the figures of an integer -/
def figs (i : Int) : List Char := if 0 ≤ i then Nat.toDigits 10 i.toNat else '-' :: Nat.toDigits 10 (-i).toNat
theorem dig_range {n : Nat} {c : Char} (h : c ∈ Nat.toDigits 10 n) : 48 ≤ c.toNat ∧ c.toNat ≤ 57 := by
  have := Nat.isDigit_of_mem_toDigits (b := 10) (by omega) (by omega) h
  simp only [Char.isDigit, Bool.and_eq_true, decide_eq_true_eq] at this
  exact ⟨UInt32.le_iff_toNat_le.mp this.1, UInt32.le_iff_toNat_le.mp this.2⟩
theorem figs_ascii (i : Int) : ∀ c ∈ figs i, c.toNat < 128 := by
  intro c hc
  unfold figs at hc
  split at hc
  · have := dig_range hc; omega
  · rcases List.mem_cons.mp hc with rfl | h
    · decide
    · have := dig_range h; omega
theorem toString_figs (i : Int) : (toString i).toList = figs i := by
  rw [Int.toString_eq_repr, Int.repr_eq_if]
  unfold figs
  split
  · exact Nat.toList_repr
  · rw [String.toList_append, Nat.toList_repr]; rfl
/-- what str makes of an integer -/
def strI (i : Int) : Str := ⟨(codes (figs i)).toArray⟩
theorem str_int (i : Int) : Str.ofString (toString i) = strI i := by
  rw [ofString_eq _ (by rw [toString_figs]; exact figs_ascii i), toString_figs]; rfl
theorem str_int' (i : Int) : Str.ofString i.repr = strI i := by rw [← Int.toString_eq_repr]; exact str_int i
theorem bin_ss {P : Pg} {call : Call} {S : Store} {a b : Str} (h : a.length + b.length ≤ 1000000) : binM P call .add (.str a) (.str b) S = .ok (.str (a ++ b)) S := by
  show (if a.length + b.length ≤ lim then Res.ok (.str (a ++ b)) S else .bad) = _
  rw [if_pos (show a.length + b.length ≤ lim from h)]
theorem figs_len {i : Int} {k : Nat} (h : i.natAbs < 10 ^ k) (hk : 0 < k) : (figs i).length ≤ k + 1 := by
  unfold figs
  split
  · have := (Nat.length_toDigits_le_iff (b := 10) (n := i.toNat) (by omega) hk).mpr (by omega)
    omega
  · have := (Nat.length_toDigits_le_iff (b := 10) (n := (-i).toNat) (by omega) hk).mpr (by omega)
    simp
    omega
theorem strI_len {i : Int} {k : Nat} (h : i.natAbs < 10 ^ k) (hk : 0 < k) : (strI i).length ≤ k + 1 := by
  have := figs_len h hk
  simpa [strI, Str.length, codes] using this
theorem strI_ok (i : Int) : PyData.strOk (strI i) = true := by
  simp only [PyData.strOk, strI, codes, List.all_toArray, List.all_eq_true, List.mem_map, decide_eq_true_eq]
  rintro x ⟨c, hc, rfl⟩
  have := figs_ascii i c hc
  omega
theorem log2_lt {i : Int} {e : Nat} (h : i.natAbs < 2 ^ e) (he : 0 < e) : i.natAbs.log2 < e := by
  by_cases hz : i.natAbs = 0
  · rw [hz]; simpa using he
  · exact (Nat.log2_lt hz).mpr h
end Mg
end

section
set_option maxRecDepth 100000
set_option maxHeartbeats 4000000
/-! Mg3: loops that look for something. -/
namespace Mg
open Mi Ma
theorem forM_find {f : D → Fr → Store → Out} (I : Fr → Store → Prop) (c : D → Bool) (v : D → D) : ∀ {L : List D},
    (∀ d ∈ L, ∀ fr S, I fr S → (c d = true → ∃ fr' S', f d fr S = .ret (v d) fr' S' ∧ I fr' S') ∧ (c d = false → ∃ fr' S', f d fr S = .nx fr' S' ∧ I fr' S')) → ∀ fr S, I fr S →
    match L.find? c with
    | some d => ∃ fr' S', Mi.forM f L fr S = .ret (v d) fr' S' ∧ I fr' S'
    | none => ∃ fr' S', Mi.forM f L fr S = .nx fr' S' ∧ I fr' S'
  | [], _, fr, S, i => ⟨fr, S, rfl, i⟩
  | d :: L, h, fr, S, i => by
    obtain ⟨h1, h2⟩ := h d (by simp) fr S i
    cases hc : c d with
    | true =>
      obtain ⟨fr', S', e, i'⟩ := h1 hc
      simp only [List.find?_cons, hc]
      exact ⟨fr', S', by simp only [Mi.forM, e], i'⟩
    | false =>
      obtain ⟨fr', S', e, i'⟩ := h2 hc
      have ih := forM_find I c v (L := L) (fun d hd => h d (List.mem_cons_of_mem _ hd)) fr' S' i'
      simp only [List.find?_cons, hc]
      split at ih
      · rename_i d' hf
        rw [hf]
        obtain ⟨fr2, S2, e2, i2⟩ := ih
        exact ⟨fr2, S2, by simp only [Mi.forM, e]; exact e2, i2⟩
      · rename_i hf
        rw [hf]
        obtain ⟨fr2, S2, e2, i2⟩ := ih
        exact ⟨fr2, S2, by simp only [Mi.forM, e]; exact e2, i2⟩
/-- what a search gives: the item, or none -/
def found (L : List D) (c : D → Bool) : D := match L.find? c with
  | some d => d
  | none => .non
/-- a loop that returns the first item that is so, with `return None` behind -/
theorem find_rt {P : Pg} {call : Call} {pt : Pat} {it : MI} {b : MSs} {fr : Fr} {S S1 : Store} {L : List D} {Q : D → Store → Prop} (h : evI P call it fr S = .ok L S1) (I : Fr → Store → Prop) (c : D → Bool)
    (st : ∀ d ∈ L, ∀ fr S, I fr S → (c d = true → ∃ fr' S', trn P call pt b d fr S = .ret d fr' S' ∧ I fr' S') ∧ (c d = false → ∃ fr' S', trn P call pt b d fr S = .nx fr' S' ∧ I fr' S')) (i0 : I fr S1)
    (q : ∀ fr S, I fr S → Q (found L c) S) : Rt (evSs P call (.cons (.forr pt it b) (.cons (.ret (.con .non)) .nil)) fr S) Q := by
  have := forM_find (f := trn P call pt b) I c id (L := L) st fr S1 i0
  unfold found at q
  split at this
  · rename_i d hd
    obtain ⟨fr', S', e, i⟩ := this
    rw [hd] at q
    refine ⟨d, fr', S', ?_, q fr' S' i⟩
    rw [evSs, evS, h]
    show (match Mi.forM (trn P call pt b) L fr S1 with
      | .nx fr' S' => evSs P call (.cons (.ret (.con .non)) .nil) fr' S'
      | o => o) = _
    rw [e]
    rfl
  · rename_i hd
    obtain ⟨fr', S', e, i⟩ := this
    rw [hd] at q
    refine ⟨.non, fr', S', ?_, q fr' S' i⟩
    rw [evSs, evS, h]
    show (match Mi.forM (trn P call pt b) L fr S1 with
      | .nx fr' S' => evSs P call (.cons (.ret (.con .non)) .nil) fr' S'
      | o => o) = _
    rw [e]
    show evSs P call (.cons (.ret (.con .non)) .nil) fr' S' = _
    simp [evSs, evS, evE, Res.bindO]
theorem rng_mem {lo : Int} {n : Nat} {d : D} (h : d ∈ rngL lo n) : ∃ i : Int, d = .int i ∧ lo ≤ i ∧ i < lo + n := by
  simp only [rngL, List.mem_map, List.mem_range] at h
  obtain ⟨k, hk, rfl⟩ := h
  exact ⟨lo + k, rfl, by omega, by omega⟩
/-! ### a list that grows -/
theorem get_at (Y Z : Store) (c : Cell) : (Y ++ c :: Z)[Y.length]? = some c := by
  rw [List.getElem?_append_right (Nat.le_refl _), Nat.sub_self]; rfl
theorem set_at (Y Z : Store) (c d : Cell) : (Y ++ c :: Z).set Y.length d = Y ++ d :: Z := by
  rw [List.set_append_right _ _ (Nat.le_refl _), Nat.sub_self]; rfl
theorem s_app {P : Pg} {call : Call} {i : Nat} {e : ME} {fr : Fr} {Y Z Z' : Store} {l : List D} {y : D} (hv : fr.σ[i]? = some (some (.cell Y.length))) (he : evE P call e fr (Y ++ .lst l :: Z) = .ok y (Y ++ .lst l :: Z')) (hl : l.length < lim) :
    evS P call (.expr (.app (.var i) e)) fr (Y ++ .lst l :: Z) = .nx fr (Y ++ .lst (l ++ [y]) :: Z') := by
  have h1 : isLst (.cell Y.length) (Y ++ .lst l :: Z) = true := by simp only [isLst, get_at]
  have h2 : appM (.cell Y.length) y (Y ++ .lst l :: Z') = .ok .non (Y ++ .lst (l ++ [y]) :: Z') := by
    simp only [appM, get_at, hl, if_true, set_at]
  rw [evS, evE, evE, hv]
  simp only [Res.bind, h1, if_true, he, h2, Res.bindO]
/-- one of some things, by a number below how many there are -/
theorem at_some {l : List D} {i : Int} (h0 : 0 ≤ i) (h : i < l.length) : ∃ d, L2.atI l i = some d ∧ d ∈ l := by
  obtain ⟨n, rfl⟩ := Int.eq_ofNat_of_zero_le h0
  have hn : n < l.length := by omega
  exact ⟨l[n], at_nat (List.getElem?_eq_getElem hn), List.getElem_mem hn⟩
end Mg
end

section
set_option maxRecDepth 100000
set_option maxHeartbeats 1000000
/-! KqQ: the plain law of k04. -/
namespace Ma
theorem rt_self (q : Rat) : rt q.num q.den = q := Rat.num_divInt_den q
theorem is_rt {q : Rat} {n m : Int} (h : q * (m : Rat) = (n : Rat)) : q.num * m = n * q.den := by
  have h2 : (q * ((q.den : Int) : Rat)) = (q.num : Rat) := by
    have := rt_mul_self (a := q.num) (den0 q)
    rw [rt_self] at this
    exact this
  have h3 : ((q.num * m : Int) : Rat) = ((n * (q.den : Int) : Int) : Rat) := by
    rw [Rat.intCast_mul, Rat.intCast_mul, ← h2, ← h]
    grind
  exact Rat.intCast_inj.mp h3
theorem lt_num {q r : Rat} : q < r ↔ q.num * r.den - r.num * q.den < 0 := by
  rw [Rat.lt_iff]
  omega
theorem abs_i (i : Int) : ((if i < 0 then -i else i : Int) : Rat) = if (i : Rat) < 0 then -(i : Rat) else (i : Rat) := by
  by_cases h : i < 0
  · rw [if_pos h, if_pos (by exact_mod_cast h), Rat.intCast_neg]
  · rw [if_neg h, if_neg (by exact_mod_cast h)]
/-- the absolute value by its numbers -/
def abQ (q : Rat) : Rat := rt (if q.num < 0 then -q.num else q.num) q.den
theorem abQ_eq (q : Rat) : abQ q = if q < 0 then -q else q := by
  unfold abQ
  have e : rt q.num q.den = q := rt_self q
  by_cases h : q.num < 0
  · rw [if_pos h, if_pos (by rw [lt_num]; simpa using h), rt_neg]
  · rw [if_neg h, if_neg (by rw [lt_num]; simpa using h), e]
theorem abs_lt {x y z : Rat} {i j : Int} (hz : 0 < z) (hx : x * z = (i : Rat)) (hy : y * z = (j : Rat)) : abQ x < abQ y ↔ (if i < 0 then -i else i) < (if j < 0 then -j else j) := by
  have sg : ∀ {x : Rat} {i : Int}, x * z = (i : Rat) → (x < 0 ↔ i < 0) := by
    intro x i h
    have : (i < 0) ↔ ((i : Rat) < 0) := by exact_mod_cast Iff.rfl
    rw [this, ← h]
    constructor
    · intro a
      have := Rat.mul_lt_mul_of_pos_right a hz
      simpa using this
    · intro a
      have : x * z < 0 * z := by simpa using a
      exact (Rat.mul_lt_mul_right hz).mp this
  have e : ∀ {x : Rat} {i : Int}, x * z = (i : Rat) → abQ x * z = ((if i < 0 then -i else i : Int) : Rat) := by
    intro x i h
    rw [abQ_eq]
    by_cases a : i < 0
    · rw [if_pos ((sg h).mpr a), if_pos a, Rat.intCast_neg, ← h]
      grind
    · rw [if_neg (fun b => a ((sg h).mp b)), if_neg a, h]
  rw [← Rat.mul_lt_mul_right hz, e hx, e hy]
  exact Rat.intCast_lt_intCast
section
variable {t s : Rat} {T B R U a b c d : Int}
theorem v_t (hB : 1 ≤ B) (ht : t = rt T B) : t * B = T := by rw [ht]; exact rt_mul_self (by omega)
theorem v_s (hB : 1 ≤ B) (hU : 1 ≤ U) (hs : s = rt (T * T * U + R * B * B) (B * B * U)) : s * ((B : Rat) * B * U) = (T : Rat) * T * U + (R : Rat) * B * B := by
  have h0 : B * B * U ≠ 0 := Int.mul_ne_zero (Int.mul_ne_zero (by omega) (by omega)) (by omega)
  have h := rt_mul_self (a := T * T * U + R * B * B) h0
  rw [← hs] at h
  simp only [Rat.intCast_mul, Rat.intCast_add] at h
  exact h
theorem v_rise (hB : 1 ≤ B) (hU : 1 ≤ U) (ht : t = rt T B) (hs : s = rt (T * T * U + R * B * B) (B * B * U)) : (s - t * t) * U = R := by
  have h1 := v_t hB ht
  have h2 := v_s hB hU hs
  have hb := ne_cast (b := B) (by omega)
  have hu := ne_cast (b := U) (by omega)
  grind
theorem v_pos (hB : 1 ≤ B) (hU : 1 ≤ U) (hR : 1 ≤ R) (ht : t = rt T B) (hs : s = rt (T * T * U + R * B * B) (B * B * U)) : 0 < s - t * t := pos_div hR hU (v_rise hB hU ht hs)
theorem v_prd (hB : 1 ≤ B) (hU : 1 ≤ U) (ht : t = rt T B) (hs : s = rt (T * T * U + R * B * B) (B * B * U)) :
    (s * ((a * c : Int) : Rat) - t * ((a * d + c * b : Int) : Rat) + ((b * d : Int) : Rat)) * ((B * B * U : Int) : Rat) = (((a * T - b * B) * (c * T - d * B) * U + a * c * R * B * B : Int) : Rat) := by
  have h1 := v_t hB ht
  have h2 := v_s hB hU hs
  simp only [Rat.intCast_mul, Rat.intCast_add, Rat.intCast_sub]
  grind
theorem v_lean (hB : 1 ≤ B) (ht : t = rt T B) : (t * (a : Rat) - (b : Rat)) * (B : Rat) = ((a * T - b * B : Int) : Rat) := by
  have h1 := v_t hB ht
  simp only [Rat.intCast_mul, Rat.intCast_sub]
  grind
theorem v_steep (hB : 1 ≤ B) (ht : t = rt T B) : (t * (a : Rat) - (b : Rat)) * (c : Rat) * (B : Rat) = (((a * T - b * B) * c : Int) : Rat) := by
  have h1 := v_t hB ht
  simp only [Rat.intCast_mul, Rat.intCast_sub]
  grind
theorem v_apart : (s * ((a * a : Int) : Rat) - t * ((a * b + a * b : Int) : Rat) + ((b * b : Int) : Rat)) * (s * ((c * c : Int) : Rat) - t * ((c * d + c * d : Int) : Rat) + ((d * d : Int) : Rat))
    - (s * ((a * c : Int) : Rat) - t * ((a * d + c * b : Int) : Rat) + ((b * d : Int) : Rat)) * (s * ((a * c : Int) : Rat) - t * ((a * d + c * b : Int) : Rat) + ((b * d : Int) : Rat))
    = (s - t * t) * (((a * d - c * b) * (a * d - c * b) : Int) : Rat) := by
  simp only [Rat.intCast_mul, Rat.intCast_add, Rat.intCast_sub]
  grind
end
end Ma
end

section
set_option maxRecDepth 100000
set_option maxHeartbeats 1000000
/-! KrQ: the plain law of k14: places, shifts, nearest rounds. -/
namespace Ma
/-- a place -/
def plc (t : Rat) (x : Int) : Rat := t * (x : Rat) - ((t * (x : Rat)).floor : Rat)
theorem plc_rt {P Q x : Int} (hq : 1 ≤ Q) : plc (rt P Q) x = rt ((x * P).fmod Q) Q := by
  have h := z_place (t := rt P Q) (n := P) (b := Q) (m := 1) (a := x) hq (rt_mul_self (by omega))
  have e : rt P Q * ((1 : Int) : Rat) * (x : Rat) = rt P Q * (x : Rat) := by simp
  rw [e, Int.one_mul] at h
  exact h
theorem rt_inj {a b q : Int} (hq : q ≠ 0) : rt a q = rt b q ↔ a = b := by
  refine ⟨fun h => ?_, fun h => by rw [h]⟩
  have h1 := rt_mul_self (a := a) hq
  have h2 := rt_mul_self (a := b) hq
  rw [h] at h1
  rw [h1] at h2
  exact Rat.intCast_inj.mp h2
theorem fmod_eq {a b q : Int} (hq : 1 ≤ q) : a.fmod q = b.fmod q ↔ q ∣ a - b := by
  rw [Int.fmod_eq_emod_of_nonneg _ (by omega), Int.fmod_eq_emod_of_nonneg _ (by omega)]
  exact Int.emod_eq_emod_iff_emod_sub_eq_zero.trans (Int.dvd_iff_emod_eq_zero ..).symm
theorem plc_pair {P Q x y : Int} (hq : 1 ≤ Q) : plc (rt P Q) x = plc (rt P Q) y ↔ Q ∣ (x - y) * P := by
  rw [plc_rt hq, plc_rt hq, rt_inj (by omega), fmod_eq hq, Int.sub_mul]
/-- the greatest divisor, by its steps -/
theorem dvd_gcd {P Q z : Int} (hq : 1 ≤ Q) (hp : P ≠ 0) : Q ∣ z * P ↔ z.fmod (Q.fdiv (Int.gcd P Q)) = 0 := by
  have g0 : 0 < Int.gcd P Q := Nat.pos_of_ne_zero (Int.gcd_ne_zero_right (by omega))
  obtain ⟨c, hc⟩ := Int.gcd_dvd_right (a := P) (b := Q)
  obtain ⟨d, hd⟩ := Int.gcd_dvd_left (a := P) (b := Q)
  have gi : (0 : Int) < (Int.gcd P Q : Int) := by omega
  have e : Q.fdiv (Int.gcd P Q) = c := by
    conv => lhs; rw [hc]
    have : (↑(Int.gcd P (↑(Int.gcd P Q) * c)) : Int) = (Int.gcd P Q : Int) := by rw [← hc]
    rw [this]
    exact Int.mul_fdiv_cancel_left _ (by omega)
  have c0 : 0 < c := by
    rcases Int.lt_or_le 0 c with h | h
    · exact h
    · have := Int.mul_le_mul_of_nonneg_left h (show (0 : Int) ≤ (Int.gcd P Q : Int) by omega)
      omega
  rw [e]
  have cop : Int.gcd c d = 1 := by
    have := Int.gcd_mul_left (Int.gcd P Q : Int) d c
    rw [← hc, ← hd] at this
    have h1 : Int.gcd P Q = (Int.gcd P Q) * Int.gcd d c := by
      conv => lhs; rw [this]
      simp
    rw [Int.gcd_comm]
    exact Nat.eq_of_mul_eq_mul_left g0 (by omega)
  have e2 : z.fmod c = 0 ↔ c ∣ z := by
    rw [Int.fmod_eq_emod_of_nonneg _ (by omega)]
    exact (Int.dvd_iff_emod_eq_zero ..).symm
  rw [e2]
  generalize (Int.gcd P Q : Int) = g at *
  constructor
  · intro h
    rw [hc, hd, show z * (g * d) = g * (z * d) by rw [← Int.mul_assoc, Int.mul_comm z g, Int.mul_assoc]] at h
    have h3 := Int.dvd_of_mul_dvd_mul_left (by omega) h
    have h4 := Int.dvd_mul_gcd_iff_dvd_mul.mpr h3
    rw [cop] at h4
    simpa using h4
  · rintro ⟨w, rfl⟩
    refine ⟨w * d, ?_⟩
    rw [hd]
    conv => rhs; rw [hc]
    grind
theorem rt_lt {a b c d : Int} (hb : 1 ≤ b) (hd : 1 ≤ d) : rt a b < rt c d ↔ a * d < c * b := by
  have h1 := rt_mul_self (a := a) (b := b) (by omega)
  have h2 := rt_mul_self (a := c) (b := d) (by omega)
  have p1 : (0 : Rat) < (b : Rat) := Rat.intCast_pos.mpr (by omega)
  have p2 : (0 : Rat) < (d : Rat) := Rat.intCast_pos.mpr (by omega)
  rw [← Rat.mul_lt_mul_right p1, ← Rat.mul_lt_mul_right p2, h1, show rt c d * (b : Rat) * (d : Rat) = (rt c d * (d : Rat)) * (b : Rat) by grind, h2, ← Rat.intCast_mul, ← Rat.intCast_mul]
  exact Rat.intCast_lt_intCast
theorem rt_le {a b c d : Int} (hb : 1 ≤ b) (hd : 1 ≤ d) : rt a b ≤ rt c d ↔ a * d ≤ c * b := by
  have := rt_lt (a := c) (b := d) (c := a) (d := b) hd hb
  rw [← Rat.not_lt, this]
  omega
theorem rt_zero {b : Int} (hb : 1 ≤ b) : rt 0 b = ((0 : Int) : Rat) := by
  rw [rt_div]; simp [Rat.div_def]
theorem rt_lt_one {a b : Int} (hb : 1 ≤ b) : rt a b < ((1 : Int) : Rat) ↔ a < b := by
  have := rt_lt (a := a) (b := b) (c := 1) (d := 1) hb (by omega)
  rw [rt_one] at this
  rw [this]; omega
theorem rt_nonneg {a b : Int} (hb : 1 ≤ b) : ¬ rt a b < ((0 : Int) : Rat) ↔ 0 ≤ a := by
  have := rt_lt (a := a) (b := b) (c := 0) (d := 1) hb (by omega)
  rw [rt_one] at this
  rw [this]; omega
/-! ### more rounds -/
theorem plc_more {t : Rat} {n x : Int} : plc (t + (n : Rat)) x = plc t x := by
  unfold plc
  have e : (t + (n : Rat)) * (x : Rat) = t * (x : Rat) + ((n * x : Int) : Rat) := by
    rw [Rat.intCast_mul]; grind
  rw [e, Rat.floor_add_intCast, Rat.intCast_add]
  grind
theorem den_add {q : Rat} {n : Int} : (q + (n : Rat)).den = 1 ↔ q.den = 1 := by
  have go : ∀ {q : Rat} {n : Int}, q.den = 1 → (q + (n : Rat)).den = 1 := by
    intro q n h
    have : q = (q.num : Rat) := (eq_int q q.num).mp ⟨h, rfl⟩
    rw [this, ← Rat.intCast_add]
    exact Rat.den_intCast _
  refine ⟨fun h => ?_, go⟩
  have := go (n := -n) h
  rwa [Rat.intCast_neg, show q + (n : Rat) + -(n : Rat) = q by grind] at this
theorem num_add {q : Rat} {n : Int} (h : q.den = 1) : (q + (n : Rat)).num = q.num + n := by
  have : q = (q.num : Rat) := (eq_int q q.num).mp ⟨h, rfl⟩
  conv => lhs; rw [this]
  rw [← Rat.intCast_add]
  rfl
/-- the one or two nearest rounds of a way -/
def near (w : Rat) : List Int := if (w + rt 1 2).den = 1 then [(w + rt 1 2).num - 1, (w + rt 1 2).num] else [(w + rt 1 2).floor]
theorem near_more {t : Rat} {n x : Int} : near ((t + (n : Rat)) * (x : Rat)) = (near (t * (x : Rat))).map fun r => r + n * x := by
  have e : (t + (n : Rat)) * (x : Rat) + rt 1 2 = t * (x : Rat) + rt 1 2 + ((n * x : Int) : Rat) := by
    rw [Rat.intCast_mul]; grind
  unfold near
  rw [e]
  by_cases h : (t * (x : Rat) + rt 1 2).den = 1
  · rw [if_pos h, if_pos (den_add.mpr h), num_add h]
    simp
    omega
  · rw [if_neg h, if_neg (fun z => h (den_add.mp z)), Rat.floor_add_intCast]
    simp
/-- a stem's numbers: turn p / q, squared n / m -/
theorem stem_pos {p q n m : Int} (hq : 1 ≤ q) (hm : 1 ≤ m) (h : m * p * p < n * (q * q)) : 0 < rt n m - rt p q * rt p q := by
  have h1 := rt_mul_self (a := n) (b := m) (by omega)
  have h2 := rt_mul_self (a := p) (b := q) (by omega)
  have p0 : (0 : Rat) < ((m * (q * q) : Int) : Rat) := Rat.intCast_pos.mpr (Int.mul_pos (by omega) (Int.mul_pos (by omega) (by omega)))
  have e : (rt n m - rt p q * rt p q) * ((m * (q * q) : Int) : Rat) = ((n * (q * q) - m * p * p : Int) : Rat) := by
    simp only [Rat.intCast_mul, Rat.intCast_sub]
    grind
  have h3 : (0 : Rat) < ((n * (q * q) - m * p * p : Int) : Rat) := Rat.intCast_pos.mpr (by omega)
  rw [← e] at h3
  exact (Rat.mul_pos_iff_of_pos_right p0).mp h3
theorem floor_above (a b : Int) (hb : 1 ≤ b) : a < (a.fdiv b + 1) * b := by
  have i1 := Int.mul_fdiv_add_fmod a b
  have i3 : a.fmod b < b := Int.fmod_lt_of_pos _ (by omega)
  rw [Int.add_mul, Int.mul_comm (a.fdiv b)]
  omega
theorem more_t {p q n : Int} (hq : 1 ≤ q) : rt (p + n * q) q = rt p q + (n : Rat) := by
  symm
  refine rt_eq (by omega) ?_
  have h2 := rt_mul_self (a := p) (b := q) (by omega)
  simp only [Rat.intCast_mul, Rat.intCast_add]
  grind
theorem more_s {p q n : Int} {s : Rat} (hq : 1 ≤ q) : s + rt (2 * p * n) q + ((n * n : Int) : Rat) - (rt p q + (n : Rat)) * (rt p q + (n : Rat)) = s - rt p q * rt p q := by
  have e : rt (2 * p * n) q = rt p q * (2 * (n : Rat)) := by
    symm
    refine rt_eq (by omega) ?_
    have h2 := rt_mul_self (a := p) (b := q) (by omega)
    simp only [Rat.intCast_mul]
    grind
  rw [e, Rat.intCast_mul]
  grind
end Ma
end

section
set_option maxRecDepth 100000
set_option maxHeartbeats 4000000
set_option exponentiation.threshold 9000
namespace K14
open Mi Ma Mg
/-! ### what is drawn -/
def kc : Kc := ⟨48611, 3329, 2147483563, 61813, 3329, 2147483647, 2063, 48611, 73939, 2147483587⟩
theorem s_dip (k : Nat) {cs : List Int} {a r e : Int} {T : Store} (m : Int) (J : Jr e cs a r) (he : e < 2 ^ 20) (hm : 1 ≤ m) (hm2 : m < 2 ^ 4000) :
    ∃ d cs' a' r', run p (k + 1) (.fn 7 [.cell 0, .int m]) (jar cs a r :: T) = .ok (.int d) (jar cs' a' r' :: T) ∧ 0 ≤ d ∧ d < m ∧ Jr (e + 1) cs' a' r' :=
  run_dip (b := dipA kc) f_7 (dipA_ok (by decide)) (by omega) k J he hm hm2
theorem s_of (k : Nat) {cs : List Int} {a r e : Int} {T : Store} {l : List D} (J : Jr e cs a r) (he : e < 2 ^ 20) (h1 : 1 ≤ l.length) (h2 : l.length ≤ 1000) :
    ∃ d cs' a' r', run p (k + 2) (.fn 8 [.cell 0, .lst l]) (jar cs a r :: T) = .ok d (jar cs' a' r' :: T) ∧ d ∈ l ∧ Jr (e + 1) cs' a' r' := by
  rw [run_fn f_8 rfl]
  obtain ⟨i, c1, a1, r1, e1, l1, u1, J1⟩ := s_dip k l.length J (T := T) he (by omega) (by omega)
  obtain ⟨d, hd, hm⟩ := at_some l1 u1
  refine ⟨d, c1, a1, r1, ?_, hm, J1⟩
  simp [finF, b__law_of, evSs, evS, evE, evEs, evO, evT, evI, Res.bind, Res.bindL, Res.bindO, ResL.bind, ResL.bindL, ResL.bindO, Mi.start, truth, callM, fill, newM, selfM, putM, putMs, putD, noExc, putP, putPs, evPar, elems, cmpM, cmpI, bin_ii, biM, neg_i, lenB, isND, idxM, iniM, partD, asBool, flipB, eqM_ii, eqM_ss, eqM_bb, eqM_rr, eqM_ri, neM_ii, neM_ss, neM_bb, neM_rr, neM_ri, ks_ra, ks_i, ks_s, ks_l, ks_t, at_top, at_bot, bin_ra_add, bin_ra_sub, bin_ra_mul, bin_ra_addi, bin_ra_subi, bin_ra_muli, neg_ra, raisM, k_0_0, k_0_1, k_0_2, k_0_3, k_1_0, k_1_1, k_1_2, k_1_3, k_int_0, k_int_1, k_int_2, k_int_3, k_str_0, k_str_1, k_str_2, k_str_3, k_list_0, k_list_1, k_list_2, k_list_3, k_tuple_0, k_tuple_1, k_tuple_2, k_tuple_3, k_NoneType_0, k_NoneType_1, k_NoneType_2, k_NoneType_3, g_0, List.lookup, f_7, e1, hd]
/-! ### a stem's numbers -/
structure Po (p q n m : Int) : Prop where
  q1 : 1 ≤ q
  q2 : q ≤ 40
  m1 : 1 ≤ m
  m2 : m ≤ 40
  p1 : -(3 * q) ≤ p
  p2 : p ≤ 3 * q
  n0 : 0 ≤ n
  n1 : n < 2 ^ 40
  r : m * p * p < n * (q * q)
def poD (p q n m : Int) : D := .lst [.int p, .int q, .int n, .int m]
theorem s_law_stem (k : Nat) {cs : List Int} {a r e : Int} {T : Store} (J : Jr e cs a r) (he : e < 100000) :
    ∃ p' q n m cs' a' r', run p (k + 3) (.fn 2 [.cell 0]) (jar cs a r :: T) = .ok (poD p' q n m) (jar cs' a' r' :: T) ∧ Po p' q n m ∧ Jr (e + 6) cs' a' r' := by
  rw [run_fn f_2 rfl]
  obtain ⟨d1, c1, a1, r1, h1, l1, u1, J1⟩ := s_dip (k + 1) 40 J (T := T) (by omega) (by omega) (by omega)
  obtain ⟨d2, c2, a2, r2, h2, l2, u2, J2⟩ := s_dip (k + 1) 40 J1 (T := T) (by omega) (by omega) (by omega)
  obtain ⟨d3, c3, a3, r3, h3, l3, u3, J3⟩ := s_dip (k + 1) (6 * (1 + d1) + 1) J2 (T := T) (by omega) (by omega) (by omega)
  obtain ⟨d4, c4, a4, r4, h4, l4, u4, J4⟩ := s_dip (k + 1) 9 J3 (T := T) (by omega) (by omega) (by omega)
  obtain ⟨d5, c5, a5, r5, h5, l5, u5, J5⟩ := s_dip (k + 1) 60 J4 (T := T) (by omega) (by omega) (by omega)
  obtain ⟨d6, c6, a6, r6, h6, m6, J6⟩ := s_of k (l := [.int 0, .int 1, .int 2, .int d4, .int d5, .int 1000]) J5 (T := T) (by omega) (by simp) (by simp)
  obtain ⟨x, rfl, hx⟩ : ∃ x : Int, d6 = .int x ∧ 0 ≤ x ∧ x ≤ 1000 := by
    simp only [List.mem_cons, List.not_mem_nil, or_false] at m6
    rcases m6 with rfl | rfl | rfl | rfl | rfl | rfl
    · exact ⟨_, rfl, by omega, by omega⟩
    · exact ⟨_, rfl, by omega, by omega⟩
    · exact ⟨_, rfl, by omega, by omega⟩
    · exact ⟨_, rfl, by omega, by omega⟩
    · exact ⟨_, rfl, by omega, by omega⟩
    · exact ⟨_, rfl, by omega, by omega⟩
  obtain ⟨q, hq⟩ : ∃ q, q = 1 + d1 := ⟨_, rfl⟩
  obtain ⟨m, hm⟩ : ∃ m, m = 1 + d2 := ⟨_, rfl⟩
  obtain ⟨t, ht⟩ : ∃ t, t = d3 - 3 * q := ⟨_, rfl⟩
  rw [← hq] at h3
  have bt : t.natAbs < 2 ^ 7 := by omega
  have bq : q.natAbs < 2 ^ 6 := by omega
  have bm : m.natAbs < 2 ^ 6 := by omega
  have mm {x y : Int} (h : x.natAbs < 2 ^ 6) : Mu x y = true := mu_l (by omega)
  have e1 := ab_mul bm bt
  have m3 : Mu (m * t) t = true := mu_l (ab_mono e1 (by omega))
  have qq : 0 < q * q := Int.mul_pos (by omega) (by omega)
  have qb := ab_mul bq bq
  have sz : Sz (q * q) = true := sz_of qb (by omega)
  obtain ⟨L, hL⟩ : ∃ L, L = (m * t * t).fdiv (q * q) := ⟨_, rfl⟩
  have fa := floor_above (m * t * t) (q * q) (by omega)
  rw [← hL] at fa
  have tt : 0 ≤ t * t := by rcases Int.le_total 0 t with h | h
                            · exact Int.mul_nonneg h h
                            · exact Int.mul_nonneg_of_nonpos_of_nonpos h h
  have mtt : 0 ≤ m * t * t := by rw [Int.mul_assoc]; exact Int.mul_nonneg (by omega) tt
  have L0 : 0 ≤ L := by rw [hL]; exact Int.fdiv_nonneg mtt (by omega)
  have L1 : L.natAbs < 2 ^ 20 := by
    have := natAbs_fdiv_le' (m * t * t) (q * q) (by omega)
    rw [← hL] at this
    have b3 := ab_mul e1 bt
    omega
  refine ⟨t, q, L + 1 + x, m, c6, a6, r6, ?_, ⟨by omega, by omega, by omega, by omega, by omega, by omega, by omega, by omega, ?_⟩, J6.mono (by omega)⟩
  · have m1 : Mu 6 q = true := mu_l (by decide)
    have m2 : Mu 3 q = true := mu_l (by decide)
    show finF (evSs p (run p (k + 2)) b__law_stem ⟨[some (.cell 0), none, none, none, none], none⟩ (jar cs a r :: T)) = _
    unfold b__law_stem
    rw [ss_cons (fr' := ⟨[some (.cell 0), none, none, some (.int q), some (.int m)], none⟩) (S' := jar c2 a2 r2 :: T) (by simp [evSs, evS, evE, evEs, evO, evT, evI, Res.bind, Res.bindL, Res.bindO, ResL.bind, ResL.bindL, ResL.bindO, Mi.start, truth, callM, fill, newM, selfM, putM, putMs, putD, noExc, putP, putPs, evPar, elems, cmpM, cmpI, bin_ii, biM, neg_i, lenB, isND, idxM, iniM, partD, asBool, flipB, eqM_ii, eqM_ss, eqM_bb, eqM_rr, eqM_ri, neM_ii, neM_ss, neM_bb, neM_rr, neM_ri, ks_ra, ks_i, ks_s, ks_l, ks_t, at_top, at_bot, bin_ra_add, bin_ra_sub, bin_ra_mul, bin_ra_addi, bin_ra_subi, bin_ra_muli, neg_ra, raisM, k_0_0, k_0_1, k_0_2, k_0_3, k_1_0, k_1_1, k_1_2, k_1_3, k_int_0, k_int_1, k_int_2, k_int_3, k_str_0, k_str_1, k_str_2, k_str_3, k_list_0, k_list_1, k_list_2, k_list_3, k_tuple_0, k_tuple_1, k_tuple_2, k_tuple_3, k_NoneType_0, k_NoneType_1, k_NoneType_2, k_NoneType_3, g_0, List.lookup, f_7, h1, h2, hq, hm]) rfl]
    rw [ss_cons (fr' := ⟨[some (.cell 0), some (.int t), none, some (.int q), some (.int m)], none⟩) (S' := jar c3 a3 r3 :: T) (by simp [evSs, evS, evE, evEs, evO, evT, evI, Res.bind, Res.bindL, Res.bindO, ResL.bind, ResL.bindL, ResL.bindO, Mi.start, truth, callM, fill, newM, selfM, putM, putMs, putD, noExc, putP, putPs, evPar, elems, cmpM, cmpI, bin_ii, biM, neg_i, lenB, isND, idxM, iniM, partD, asBool, flipB, eqM_ii, eqM_ss, eqM_bb, eqM_rr, eqM_ri, neM_ii, neM_ss, neM_bb, neM_rr, neM_ri, ks_ra, ks_i, ks_s, ks_l, ks_t, at_top, at_bot, bin_ra_add, bin_ra_sub, bin_ra_mul, bin_ra_addi, bin_ra_subi, bin_ra_muli, neg_ra, raisM, k_0_0, k_0_1, k_0_2, k_0_3, k_1_0, k_1_1, k_1_2, k_1_3, k_int_0, k_int_1, k_int_2, k_int_3, k_str_0, k_str_1, k_str_2, k_str_3, k_list_0, k_list_1, k_list_2, k_list_3, k_tuple_0, k_tuple_1, k_tuple_2, k_tuple_3, k_NoneType_0, k_NoneType_1, k_NoneType_2, k_NoneType_3, g_0, List.lookup, f_7, m1, m2, h3, ht]) rfl]
    rw [ss_cons (fr' := ⟨[some (.cell 0), some (.int t), some (.int (L + 1)), some (.int q), some (.int m)], none⟩) (S' := jar c3 a3 r3 :: T) (by
      have : ¬ q * q = 0 := by omega
      have q0 : ¬ q = 0 := by omega
      simp [evSs, evS, evE, evEs, evO, evT, evI, Res.bind, Res.bindL, Res.bindO, ResL.bind, ResL.bindL, ResL.bindO, Mi.start, truth, callM, fill, newM, selfM, putM, putMs, putD, noExc, putP, putPs, evPar, elems, cmpM, cmpI, bin_ii, biM, neg_i, lenB, isND, idxM, iniM, partD, asBool, flipB, eqM_ii, eqM_ss, eqM_bb, eqM_rr, eqM_ri, neM_ii, neM_ss, neM_bb, neM_rr, neM_ri, ks_ra, ks_i, ks_s, ks_l, ks_t, at_top, at_bot, bin_ra_add, bin_ra_sub, bin_ra_mul, bin_ra_addi, bin_ra_subi, bin_ra_muli, neg_ra, raisM, k_0_0, k_0_1, k_0_2, k_0_3, k_1_0, k_1_1, k_1_2, k_1_3, k_int_0, k_int_1, k_int_2, k_int_3, k_str_0, k_str_1, k_str_2, k_str_3, k_list_0, k_list_1, k_list_2, k_list_3, k_tuple_0, k_tuple_1, k_tuple_2, k_tuple_3, k_NoneType_0, k_NoneType_1, k_NoneType_2, k_NoneType_3, g_0, List.lookup, mm bm, mm bq, m3, this, q0, sz, hL]) rfl]
    simp [finF, evSs, evS, evE, evEs, evO, evT, evI, Res.bind, Res.bindL, Res.bindO, ResL.bind, ResL.bindL, ResL.bindO, Mi.start, truth, callM, fill, newM, selfM, putM, putMs, putD, noExc, putP, putPs, evPar, elems, cmpM, cmpI, bin_ii, biM, neg_i, lenB, isND, idxM, iniM, partD, asBool, flipB, eqM_ii, eqM_ss, eqM_bb, eqM_rr, eqM_ri, neM_ii, neM_ss, neM_bb, neM_rr, neM_ri, ks_ra, ks_i, ks_s, ks_l, ks_t, at_top, at_bot, bin_ra_add, bin_ra_sub, bin_ra_mul, bin_ra_addi, bin_ra_subi, bin_ra_muli, neg_ra, raisM, k_0_0, k_0_1, k_0_2, k_0_3, k_1_0, k_1_1, k_1_2, k_1_3, k_int_0, k_int_1, k_int_2, k_int_3, k_str_0, k_str_1, k_str_2, k_str_3, k_list_0, k_list_1, k_list_2, k_list_3, k_tuple_0, k_tuple_1, k_tuple_2, k_tuple_3, k_NoneType_0, k_NoneType_1, k_NoneType_2, k_NoneType_3, g_0, List.lookup, f_7, f_8, h4, h5, h6, lim, poD]
  · refine Int.lt_of_lt_of_le fa (Int.mul_le_mul_of_nonneg_right (by omega) (by omega))
end K14
end

section
set_option maxRecDepth 100000
set_option maxHeartbeats 4000000
set_option exponentiation.threshold 9000
namespace K14
open Mi Ma Mg
/-! ### compared -/
def cmpR (q r : Rat) : Int := (if 0 < q.num * r.den - r.num * q.den then 1 else 0) - (if q.num * r.den - r.num * q.den < 0 then 1 else 0)
theorem cmpR_lt {q r : Rat} : cmpR q r < 0 ↔ q < r := by
  rw [lt_num]
  unfold cmpR
  by_cases h : q.num * r.den - r.num * q.den < 0
  · rw [if_neg (by omega), if_pos h]
    exact ⟨fun _ => h, fun _ => by decide⟩
  · rw [if_neg h]
    refine ⟨fun z => ?_, fun z => absurd z h⟩
    split at z <;> omega
theorem cmpR_le {q r : Rat} : cmpR q r < 1 ↔ q ≤ r := by
  have h2 : r < q ↔ 0 < q.num * r.den - r.num * q.den := by rw [lt_num]; omega
  rw [← Rat.not_lt, h2]
  unfold cmpR
  by_cases h : 0 < q.num * r.den - r.num * q.den
  · rw [if_pos h, if_neg (by omega)]
    exact ⟨fun z => absurd z (by omega), fun z => absurd h z⟩
  · rw [if_neg h]
    refine ⟨fun _ => h, fun _ => ?_⟩
    split <;> omega
theorem s_compared (k : Nat) {q r : Rat} {d : D} (hq : Lw 3900 q) (hr : Lw 3900 r) (h : asR d r) (S : Store) : run p (k + 5) (.fn 35 [ra q, d]) S = .ok (.int (cmpR q r)) S := by
  rw [run_fn f_35 rfl]
  have o := s_other k h S
  have m1 : Mu q.num r.den = true := mu_of hq.n hr.di
  have m2 : Mu r.num q.den = true := mu_of hr.n hq.di
  simp [finF, b_Ratio_compared, evSs, evS, evE, evEs, evO, evT, evI, Res.bind, Res.bindL, Res.bindO, ResL.bind, ResL.bindL, ResL.bindO, Mi.start, truth, callM, fill, newM, selfM, putM, putMs, putD, noExc, putP, putPs, evPar, elems, cmpM, cmpI, bin_ii, biM, neg_i, lenB, isND, idxM, iniM, partD, asBool, flipB, eqM_ii, eqM_ss, eqM_bb, eqM_rr, eqM_ri, neM_ii, neM_ss, neM_bb, neM_rr, neM_ri, ks_ra, ks_i, ks_s, ks_l, ks_t, at_top, at_bot, bin_ra_add, bin_ra_sub, bin_ra_mul, bin_ra_addi, bin_ra_subi, bin_ra_muli, neg_ra, raisM, k_0_0, k_0_1, k_0_2, k_0_3, k_1_0, k_1_1, k_1_2, k_1_3, k_int_0, k_int_1, k_int_2, k_int_3, k_str_0, k_str_1, k_str_2, k_str_3, k_list_0, k_list_1, k_list_2, k_list_3, k_tuple_0, k_tuple_1, k_tuple_2, k_tuple_3, k_NoneType_0, k_NoneType_1, k_NoneType_2, k_NoneType_3, g_0, List.lookup, f_39, o, m1, m2, cmpR, -Int.sub_pos]
section
variable {S : Store}
theorem m_compared {q : Rat} : methF p (ra q) 3 S = some 35 := by simp [ra, methF, methI, c_1, List.lookup]
theorem m_below {q : Rat} : methF p (ra q) 4 S = some 36 := by simp [ra, methF, methI, c_1, List.lookup]
end
theorem s_is_below (k : Nat) {q r : Rat} {d : D} (hq : Lw 3900 q) (hr : Lw 3900 r) (h : asR d r) (S : Store) : run p (k + 6) (.fn 36 [ra q, d]) S = .ok (.bl (decide (q < r))) S := by
  rw [run_fn f_36 rfl]
  have o := s_compared k hq hr h S
  simp [finF, b_Ratio_is_below, evSs, evS, evE, evEs, evO, evT, evI, Res.bind, Res.bindL, Res.bindO, ResL.bind, ResL.bindL, ResL.bindO, Mi.start, truth, callM, fill, newM, selfM, putM, putMs, putD, noExc, putP, putPs, evPar, elems, cmpM, cmpI, bin_ii, biM, neg_i, lenB, isND, idxM, iniM, partD, asBool, flipB, eqM_ii, eqM_ss, eqM_bb, eqM_rr, eqM_ri, neM_ii, neM_ss, neM_bb, neM_rr, neM_ri, ks_ra, ks_i, ks_s, ks_l, ks_t, at_top, at_bot, bin_ra_add, bin_ra_sub, bin_ra_mul, bin_ra_addi, bin_ra_subi, bin_ra_muli, neg_ra, raisM, k_0_0, k_0_1, k_0_2, k_0_3, k_1_0, k_1_1, k_1_2, k_1_3, k_int_0, k_int_1, k_int_2, k_int_3, k_str_0, k_str_1, k_str_2, k_str_3, k_list_0, k_list_1, k_list_2, k_list_3, k_tuple_0, k_tuple_1, k_tuple_2, k_tuple_3, k_NoneType_0, k_NoneType_1, k_NoneType_2, k_NoneType_3, g_0, List.lookup, m_compared, f_35, o, cmpR_lt]
/-! ### numbers that are let -/
theorem dn_lv {k : Nat} {S : Store} : isOk (run p (k + 2) (.dn .lv) S) = true := rfl
theorem x_len : p.xs.length = 3 := rfl
theorem x_0 : p.xs[0]? = some (⟨[1], [0]⟩ : XI) := rfl
theorem x_1 : p.xs[1]? = some (⟨[1], [1]⟩ : XI) := rfl
theorem st1 : asR (.int 1) (1 : Rat) := asR.int 1
theorem s_below_ok (k : Nat) {q r : Rat} {d e : D} (hd : asR d q) (he : asR e r) (hq : Lw 3900 q) (hr : Lw 3900 r) (h1 : ¬ q < r) (h2 : q < 1) (x : PySem.Str) (S : Store) : run p (k + 8) (.fn 17 [d, e, .str x]) S = .ok .non S := by
  rw [run_fn f_17 rfl]
  have l1 : Lw 3900 (1 : Rat) := Lw.int (a := 1) (by decide) (by omega)
  have e1 := s_is_below (k + 1) hq hr he S
  have e2 := s_is_below (k + 1) hq l1 st1 S
  simp [finF, b_need_below_one, evSs, evS, evE, evEs, evO, evT, evI, Res.bind, Res.bindL, Res.bindO, ResL.bind, ResL.bindL, ResL.bindO, Mi.start, truth, callM, fill, newM, selfM, putM, putMs, putD, noExc, putP, putPs, evPar, elems, cmpM, cmpI, bin_ii, biM, neg_i, lenB, isND, idxM, iniM, partD, asBool, flipB, eqM_ii, eqM_ss, eqM_bb, eqM_rr, eqM_ri, neM_ii, neM_ss, neM_bb, neM_rr, neM_ri, ks_ra, ks_i, ks_s, ks_l, ks_t, at_top, at_bot, bin_ra_add, bin_ra_sub, bin_ra_mul, bin_ra_addi, bin_ra_subi, bin_ra_muli, neg_ra, raisM, k_0_0, k_0_1, k_0_2, k_0_3, k_1_0, k_1_1, k_1_2, k_1_3, k_int_0, k_int_1, k_int_2, k_int_3, k_str_0, k_str_1, k_str_2, k_str_3, k_list_0, k_list_1, k_list_2, k_list_3, k_tuple_0, k_tuple_1, k_tuple_2, k_tuple_3, k_NoneType_0, k_NoneType_1, k_NoneType_2, k_NoneType_3, g_0, List.lookup, f_23, s_is_ratio (k + 5) hd, c_1, f_22, s_ratio_of (k + 3) hd, m_below, f_36, e1, e2, h1, h2]
/-- no ratio -/
def NoR (d : D) : Prop := ∀ (k : Nat) (S : Store), run p (k + 2) (.fn 23 [d]) S = .ok (.bl false) S
theorem s_below_nor (k : Nat) {d e : D} (h : NoR d) (x : PySem.Str) (S : Store) : run p (k + 8) (.fn 17 [d, e, .str x]) S = .exc 1 [(1, .str x)] S := by
  rw [run_fn f_17 rfl]
  simp [finF, b_need_below_one, evSs, evS, evE, evEs, evO, evT, evI, Res.bind, Res.bindL, Res.bindO, ResL.bind, ResL.bindL, ResL.bindO, Mi.start, truth, callM, fill, newM, selfM, putM, putMs, putD, noExc, putP, putPs, evPar, elems, cmpM, cmpI, bin_ii, biM, neg_i, lenB, isND, idxM, iniM, partD, asBool, flipB, eqM_ii, eqM_ss, eqM_bb, eqM_rr, eqM_ri, neM_ii, neM_ss, neM_bb, neM_rr, neM_ri, ks_ra, ks_i, ks_s, ks_l, ks_t, at_top, at_bot, bin_ra_add, bin_ra_sub, bin_ra_mul, bin_ra_addi, bin_ra_subi, bin_ra_muli, neg_ra, raisM, k_0_0, k_0_1, k_0_2, k_0_3, k_1_0, k_1_1, k_1_2, k_1_3, k_int_0, k_int_1, k_int_2, k_int_3, k_str_0, k_str_1, k_str_2, k_str_3, k_list_0, k_list_1, k_list_2, k_list_3, k_tuple_0, k_tuple_1, k_tuple_2, k_tuple_3, k_NoneType_0, k_NoneType_1, k_NoneType_2, k_NoneType_3, g_0, List.lookup, f_23, h (k + 5), dn_lv, x_len, x_1, raisM]
theorem s_below_no (k : Nat) {q r : Rat} {d e : D} (hd : asR d q) (he : asR e r) (hq : Lw 3900 q) (hr : Lw 3900 r) (h : q < r ∨ ¬ q < 1) (x : PySem.Str) (S : Store) : run p (k + 8) (.fn 17 [d, e, .str x]) S = .exc 1 [(1, .str x)] S := by
  rw [run_fn f_17 rfl]
  have l1 : Lw 3900 (1 : Rat) := Lw.int (a := 1) (by decide) (by omega)
  have e1 := s_is_below (k + 1) hq hr he S
  have e2 := s_is_below (k + 1) hq l1 st1 S
  by_cases h1 : q < r
  · simp [finF, b_need_below_one, evSs, evS, evE, evEs, evO, evT, evI, Res.bind, Res.bindL, Res.bindO, ResL.bind, ResL.bindL, ResL.bindO, Mi.start, truth, callM, fill, newM, selfM, putM, putMs, putD, noExc, putP, putPs, evPar, elems, cmpM, cmpI, bin_ii, biM, neg_i, lenB, isND, idxM, iniM, partD, asBool, flipB, eqM_ii, eqM_ss, eqM_bb, eqM_rr, eqM_ri, neM_ii, neM_ss, neM_bb, neM_rr, neM_ri, ks_ra, ks_i, ks_s, ks_l, ks_t, at_top, at_bot, bin_ra_add, bin_ra_sub, bin_ra_mul, bin_ra_addi, bin_ra_subi, bin_ra_muli, neg_ra, raisM, k_0_0, k_0_1, k_0_2, k_0_3, k_1_0, k_1_1, k_1_2, k_1_3, k_int_0, k_int_1, k_int_2, k_int_3, k_str_0, k_str_1, k_str_2, k_str_3, k_list_0, k_list_1, k_list_2, k_list_3, k_tuple_0, k_tuple_1, k_tuple_2, k_tuple_3, k_NoneType_0, k_NoneType_1, k_NoneType_2, k_NoneType_3, g_0, List.lookup, f_23, s_is_ratio (k + 5) hd, c_1, f_22, s_ratio_of (k + 3) hd, m_below, f_36, e1, h1, dn_lv, x_len, x_1, raisM]
  · have h2 : ¬ q < 1 := h.resolve_left h1
    simp [finF, b_need_below_one, evSs, evS, evE, evEs, evO, evT, evI, Res.bind, Res.bindL, Res.bindO, ResL.bind, ResL.bindL, ResL.bindO, Mi.start, truth, callM, fill, newM, selfM, putM, putMs, putD, noExc, putP, putPs, evPar, elems, cmpM, cmpI, bin_ii, biM, neg_i, lenB, isND, idxM, iniM, partD, asBool, flipB, eqM_ii, eqM_ss, eqM_bb, eqM_rr, eqM_ri, neM_ii, neM_ss, neM_bb, neM_rr, neM_ri, ks_ra, ks_i, ks_s, ks_l, ks_t, at_top, at_bot, bin_ra_add, bin_ra_sub, bin_ra_mul, bin_ra_addi, bin_ra_subi, bin_ra_muli, neg_ra, raisM, k_0_0, k_0_1, k_0_2, k_0_3, k_1_0, k_1_1, k_1_2, k_1_3, k_int_0, k_int_1, k_int_2, k_int_3, k_str_0, k_str_1, k_str_2, k_str_3, k_list_0, k_list_1, k_list_2, k_list_3, k_tuple_0, k_tuple_1, k_tuple_2, k_tuple_3, k_NoneType_0, k_NoneType_1, k_NoneType_2, k_NoneType_3, g_0, List.lookup, f_23, s_is_ratio (k + 5) hd, c_1, f_22, s_ratio_of (k + 3) hd, m_below, f_36, e1, e2, h1, h2, dn_lv, x_len, x_1, raisM]
theorem nor_of {d : D} (h1 : isKs p d [.own 1] = some false) (h2 : (isKs p d [.ty "int"] = some false) ∨ ∃ b, d = .bl b) : NoR d := by
  intro k S
  rw [run_fn f_23 rfl]
  have e : run p (k + 1) (.fn 24 [d]) S = .ok (.bl false) S := by
    rw [run_fn f_24 rfl]
    rcases h2 with h2 | ⟨b, rfl⟩
    · simp [finF, b_is_integer, evSs, evS, evE, evEs, evO, evT, evI, Res.bind, Res.bindL, Res.bindO, ResL.bind, ResL.bindL, ResL.bindO, Mi.start, truth, callM, fill, newM, selfM, putM, putMs, putD, noExc, putP, putPs, evPar, elems, cmpM, cmpI, bin_ii, biM, neg_i, lenB, isND, idxM, iniM, partD, asBool, flipB, eqM_ii, eqM_ss, eqM_bb, eqM_rr, eqM_ri, neM_ii, neM_ss, neM_bb, neM_rr, neM_ri, ks_ra, ks_i, ks_s, ks_l, ks_t, at_top, at_bot, bin_ra_add, bin_ra_sub, bin_ra_mul, bin_ra_addi, bin_ra_subi, bin_ra_muli, neg_ra, raisM, k_0_0, k_0_1, k_0_2, k_0_3, k_1_0, k_1_1, k_1_2, k_1_3, k_int_0, k_int_1, k_int_2, k_int_3, k_str_0, k_str_1, k_str_2, k_str_3, k_list_0, k_list_1, k_list_2, k_list_3, k_tuple_0, k_tuple_1, k_tuple_2, k_tuple_3, k_NoneType_0, k_NoneType_1, k_NoneType_2, k_NoneType_3, g_0, List.lookup, h2]
    · have i1 : isKs p (.bl b) [.ty "int"] = some true := by cases b <;> rfl
      have i2 : isKs p (.bl b) [.ty "bool"] = some true := by cases b <;> rfl
      simp [finF, b_is_integer, evSs, evS, evE, evEs, evO, evT, evI, Res.bind, Res.bindL, Res.bindO, ResL.bind, ResL.bindL, ResL.bindO, Mi.start, truth, callM, fill, newM, selfM, putM, putMs, putD, noExc, putP, putPs, evPar, elems, cmpM, cmpI, bin_ii, biM, neg_i, lenB, isND, idxM, iniM, partD, asBool, flipB, eqM_ii, eqM_ss, eqM_bb, eqM_rr, eqM_ri, neM_ii, neM_ss, neM_bb, neM_rr, neM_ri, ks_ra, ks_i, ks_s, ks_l, ks_t, at_top, at_bot, bin_ra_add, bin_ra_sub, bin_ra_mul, bin_ra_addi, bin_ra_subi, bin_ra_muli, neg_ra, raisM, k_0_0, k_0_1, k_0_2, k_0_3, k_1_0, k_1_1, k_1_2, k_1_3, k_int_0, k_int_1, k_int_2, k_int_3, k_str_0, k_str_1, k_str_2, k_str_3, k_list_0, k_list_1, k_list_2, k_list_3, k_tuple_0, k_tuple_1, k_tuple_2, k_tuple_3, k_NoneType_0, k_NoneType_1, k_NoneType_2, k_NoneType_3, g_0, List.lookup, i1, i2]
  simp [finF, b_is_ratio, evSs, evS, evE, evEs, evO, evT, evI, Res.bind, Res.bindL, Res.bindO, ResL.bind, ResL.bindL, ResL.bindO, Mi.start, truth, callM, fill, newM, selfM, putM, putMs, putD, noExc, putP, putPs, evPar, elems, cmpM, cmpI, bin_ii, biM, neg_i, lenB, isND, idxM, iniM, partD, asBool, flipB, eqM_ii, eqM_ss, eqM_bb, eqM_rr, eqM_ri, neM_ii, neM_ss, neM_bb, neM_rr, neM_ri, ks_ra, ks_i, ks_s, ks_l, ks_t, at_top, at_bot, bin_ra_add, bin_ra_sub, bin_ra_mul, bin_ra_addi, bin_ra_subi, bin_ra_muli, neg_ra, raisM, k_0_0, k_0_1, k_0_2, k_0_3, k_1_0, k_1_1, k_1_2, k_1_3, k_int_0, k_int_1, k_int_2, k_int_3, k_str_0, k_str_1, k_str_2, k_str_3, k_list_0, k_list_1, k_list_2, k_list_3, k_tuple_0, k_tuple_1, k_tuple_2, k_tuple_3, k_NoneType_0, k_NoneType_1, k_NoneType_2, k_NoneType_3, g_0, List.lookup, h1, f_24, e]
theorem s_int_no {d : D} (k : Nat) (S : Store) (h2 : (isKs p d [.ty "int"] = some false) ∨ ∃ b, d = .bl b) : run p (k + 1) (.fn 24 [d]) S = .ok (.bl false) S := by
  rw [run_fn f_24 rfl]
  rcases h2 with h2 | ⟨b, rfl⟩
  · simp [finF, b_is_integer, evSs, evS, evE, evEs, evO, evT, evI, Res.bind, Res.bindL, Res.bindO, ResL.bind, ResL.bindL, ResL.bindO, Mi.start, truth, callM, fill, newM, selfM, putM, putMs, putD, noExc, putP, putPs, evPar, elems, cmpM, cmpI, bin_ii, biM, neg_i, lenB, isND, idxM, iniM, partD, asBool, flipB, eqM_ii, eqM_ss, eqM_bb, eqM_rr, eqM_ri, neM_ii, neM_ss, neM_bb, neM_rr, neM_ri, ks_ra, ks_i, ks_s, ks_l, ks_t, at_top, at_bot, bin_ra_add, bin_ra_sub, bin_ra_mul, bin_ra_addi, bin_ra_subi, bin_ra_muli, neg_ra, raisM, k_0_0, k_0_1, k_0_2, k_0_3, k_1_0, k_1_1, k_1_2, k_1_3, k_int_0, k_int_1, k_int_2, k_int_3, k_str_0, k_str_1, k_str_2, k_str_3, k_list_0, k_list_1, k_list_2, k_list_3, k_tuple_0, k_tuple_1, k_tuple_2, k_tuple_3, k_NoneType_0, k_NoneType_1, k_NoneType_2, k_NoneType_3, g_0, List.lookup, h2]
  · have i1 : isKs p (.bl b) [.ty "int"] = some true := by cases b <;> rfl
    have i2 : isKs p (.bl b) [.ty "bool"] = some true := by cases b <;> rfl
    simp [finF, b_is_integer, evSs, evS, evE, evEs, evO, evT, evI, Res.bind, Res.bindL, Res.bindO, ResL.bind, ResL.bindL, ResL.bindO, Mi.start, truth, callM, fill, newM, selfM, putM, putMs, putD, noExc, putP, putPs, evPar, elems, cmpM, cmpI, bin_ii, biM, neg_i, lenB, isND, idxM, iniM, partD, asBool, flipB, eqM_ii, eqM_ss, eqM_bb, eqM_rr, eqM_ri, neM_ii, neM_ss, neM_bb, neM_rr, neM_ri, ks_ra, ks_i, ks_s, ks_l, ks_t, at_top, at_bot, bin_ra_add, bin_ra_sub, bin_ra_mul, bin_ra_addi, bin_ra_subi, bin_ra_muli, neg_ra, raisM, k_0_0, k_0_1, k_0_2, k_0_3, k_1_0, k_1_1, k_1_2, k_1_3, k_int_0, k_int_1, k_int_2, k_int_3, k_str_0, k_str_1, k_str_2, k_str_3, k_list_0, k_list_1, k_list_2, k_list_3, k_tuple_0, k_tuple_1, k_tuple_2, k_tuple_3, k_NoneType_0, k_NoneType_1, k_NoneType_2, k_NoneType_3, g_0, List.lookup, i1, i2]
theorem s_within (k : Nat) {i lo hi : Int} (S : Store) : run p (k + 2) (.fn 18 [.int i, .int lo, .int hi]) S = .ok (.bl (decide (lo ≤ i) && decide (i ≤ hi))) S := by
  rw [run_fn f_18 rfl]
  by_cases h : lo ≤ i <;> simp [finF, b_is_within, evSs, evS, evE, evEs, evO, evT, evI, Res.bind, Res.bindL, Res.bindO, ResL.bind, ResL.bindL, ResL.bindO, Mi.start, truth, callM, fill, newM, selfM, putM, putMs, putD, noExc, putP, putPs, evPar, elems, cmpM, cmpI, bin_ii, biM, neg_i, lenB, isND, idxM, iniM, partD, asBool, flipB, eqM_ii, eqM_ss, eqM_bb, eqM_rr, eqM_ri, neM_ii, neM_ss, neM_bb, neM_rr, neM_ri, ks_ra, ks_i, ks_s, ks_l, ks_t, at_top, at_bot, bin_ra_add, bin_ra_sub, bin_ra_mul, bin_ra_addi, bin_ra_subi, bin_ra_muli, neg_ra, raisM, k_0_0, k_0_1, k_0_2, k_0_3, k_1_0, k_1_1, k_1_2, k_1_3, k_int_0, k_int_1, k_int_2, k_int_3, k_str_0, k_str_1, k_str_2, k_str_3, k_list_0, k_list_1, k_list_2, k_list_3, k_tuple_0, k_tuple_1, k_tuple_2, k_tuple_3, k_NoneType_0, k_NoneType_1, k_NoneType_2, k_NoneType_3, g_0, List.lookup, f_24, s_is_int, h]
theorem s_within_no (k : Nat) {d lo hi : D} (S : Store) (h2 : (isKs p d [.ty "int"] = some false) ∨ ∃ b, d = .bl b) : run p (k + 2) (.fn 18 [d, lo, hi]) S = .ok (.bl false) S := by
  rw [run_fn f_18 rfl]
  simp [finF, b_is_within, evSs, evS, evE, evEs, evO, evT, evI, Res.bind, Res.bindL, Res.bindO, ResL.bind, ResL.bindL, ResL.bindO, Mi.start, truth, callM, fill, newM, selfM, putM, putMs, putD, noExc, putP, putPs, evPar, elems, cmpM, cmpI, bin_ii, biM, neg_i, lenB, isND, idxM, iniM, partD, asBool, flipB, eqM_ii, eqM_ss, eqM_bb, eqM_rr, eqM_ri, neM_ii, neM_ss, neM_bb, neM_rr, neM_ri, ks_ra, ks_i, ks_s, ks_l, ks_t, at_top, at_bot, bin_ra_add, bin_ra_sub, bin_ra_mul, bin_ra_addi, bin_ra_subi, bin_ra_muli, neg_ra, raisM, k_0_0, k_0_1, k_0_2, k_0_3, k_1_0, k_1_1, k_1_2, k_1_3, k_int_0, k_int_1, k_int_2, k_int_3, k_str_0, k_str_1, k_str_2, k_str_3, k_list_0, k_list_1, k_list_2, k_list_3, k_tuple_0, k_tuple_1, k_tuple_2, k_tuple_3, k_NoneType_0, k_NoneType_1, k_NoneType_2, k_NoneType_3, g_0, List.lookup, f_24, s_int_no k S h2]
/-! ### the greatest divisor -/
theorem s_divisor (k : Nat) {a b : Int} (ha : 0 ≤ a) (hb : 0 ≤ b) (hb2 : b < 1000) (S : Store) : run p (k + 1) (.fn 12 [.int a, .int b]) S = .ok (.int (Int.gcd a b)) S := by
  rw [run_fn f_12 rfl]
  generalize run p k = call
  have key : ∀ (n : Nat) (a b : Int), 0 ≤ a → 0 ≤ b → b < n → whlM (fun fr S => evE p call (.cmp .gt (.var 1) (.con (.int (0)))) fr S) (fun fr S => evSs p call (.cons (.par [0, 1] (.cons (.var 1) (.cons (.bin .mod (.bi .int (.cons (.var 0) .nil)) (.var 1)) .nil))) .nil) fr S) n ⟨[some (.int a), some (.int b)], none⟩ S = .nx ⟨[some (.int (Int.gcd a b)), some (.int 0)], none⟩ S := by
    intro n
    induction n with
    | zero => intro a b _ h1 h2; omega
    | succ n ih =>
      intro a b ha hb hn
      by_cases h : 0 < b
      · have fb := fm_bd a (show 1 ≤ b by omega)
        have e := ih b (a.fmod b) (by omega) fb.1 (by omega)
        have hb0 : ¬ b = 0 := by omega
        rw [whlM]
        have e1 : evSs p call (.cons (.par [0, 1] (.cons (.var 1) (.cons (.bin .mod (.bi .int (.cons (.var 0) .nil)) (.var 1)) .nil))) .nil) ⟨[some (.int a), some (.int b)], none⟩ S = .nx ⟨[some (.int b), some (.int (a.fmod b))], none⟩ S := by
          simp [evSs, evS, evE, evEs, evO, evT, evI, Res.bind, Res.bindL, Res.bindO, ResL.bind, ResL.bindL, ResL.bindO, Mi.start, truth, callM, fill, newM, selfM, putM, putMs, putD, noExc, putP, putPs, evPar, elems, cmpM, cmpI, bin_ii, biM, neg_i, lenB, isND, idxM, iniM, partD, asBool, flipB, eqM_ii, eqM_ss, eqM_bb, eqM_rr, eqM_ri, neM_ii, neM_ss, neM_bb, neM_rr, neM_ri, ks_ra, ks_i, ks_s, ks_l, ks_t, at_top, at_bot, bin_ra_add, bin_ra_sub, bin_ra_mul, bin_ra_addi, bin_ra_subi, bin_ra_muli, neg_ra, raisM, k_0_0, k_0_1, k_0_2, k_0_3, k_1_0, k_1_1, k_1_2, k_1_3, k_int_0, k_int_1, k_int_2, k_int_3, k_str_0, k_str_1, k_str_2, k_str_3, k_list_0, k_list_1, k_list_2, k_list_3, k_tuple_0, k_tuple_1, k_tuple_2, k_tuple_3, k_NoneType_0, k_NoneType_1, k_NoneType_2, k_NoneType_3, g_0, List.lookup, hb0]
        have e2 : evE p call (.cmp .gt (.var 1) (.con (.int (0)))) ⟨[some (.int a), some (.int b)], none⟩ S = .ok (.bl true) S := by simp [evSs, evS, evE, evEs, evO, evT, evI, Res.bind, Res.bindL, Res.bindO, ResL.bind, ResL.bindL, ResL.bindO, Mi.start, truth, callM, fill, newM, selfM, putM, putMs, putD, noExc, putP, putPs, evPar, elems, cmpM, cmpI, bin_ii, biM, neg_i, lenB, isND, idxM, iniM, partD, asBool, flipB, eqM_ii, eqM_ss, eqM_bb, eqM_rr, eqM_ri, neM_ii, neM_ss, neM_bb, neM_rr, neM_ri, ks_ra, ks_i, ks_s, ks_l, ks_t, at_top, at_bot, bin_ra_add, bin_ra_sub, bin_ra_mul, bin_ra_addi, bin_ra_subi, bin_ra_muli, neg_ra, raisM, k_0_0, k_0_1, k_0_2, k_0_3, k_1_0, k_1_1, k_1_2, k_1_3, k_int_0, k_int_1, k_int_2, k_int_3, k_str_0, k_str_1, k_str_2, k_str_3, k_list_0, k_list_1, k_list_2, k_list_3, k_tuple_0, k_tuple_1, k_tuple_2, k_tuple_3, k_NoneType_0, k_NoneType_1, k_NoneType_2, k_NoneType_3, g_0, List.lookup, h]
        rw [e2]
        simp only [Res.bindO, truth]
        rw [e1]
        simp only
        rw [e]
        have g : Int.gcd b (a.fmod b) = Int.gcd a b := by
          have e9 := Int.gcd_add_mul_left_right b (a.fmod b) (a.fdiv b)
          rw [show a.fmod b + b * a.fdiv b = a by have := Int.mul_fdiv_add_fmod a b; omega] at e9
          rw [Int.gcd_comm a b]
          exact e9.symm
        rw [g]
      · have hb0 : b = 0 := by omega
        subst hb0
        have e2 : evE p call (.cmp .gt (.var 1) (.con (.int (0)))) ⟨[some (.int a), some (.int 0)], none⟩ S = .ok (.bl false) S := by simp [evSs, evS, evE, evEs, evO, evT, evI, Res.bind, Res.bindL, Res.bindO, ResL.bind, ResL.bindL, ResL.bindO, Mi.start, truth, callM, fill, newM, selfM, putM, putMs, putD, noExc, putP, putPs, evPar, elems, cmpM, cmpI, bin_ii, biM, neg_i, lenB, isND, idxM, iniM, partD, asBool, flipB, eqM_ii, eqM_ss, eqM_bb, eqM_rr, eqM_ri, neM_ii, neM_ss, neM_bb, neM_rr, neM_ri, ks_ra, ks_i, ks_s, ks_l, ks_t, at_top, at_bot, bin_ra_add, bin_ra_sub, bin_ra_mul, bin_ra_addi, bin_ra_subi, bin_ra_muli, neg_ra, raisM, k_0_0, k_0_1, k_0_2, k_0_3, k_1_0, k_1_1, k_1_2, k_1_3, k_int_0, k_int_1, k_int_2, k_int_3, k_str_0, k_str_1, k_str_2, k_str_3, k_list_0, k_list_1, k_list_2, k_list_3, k_tuple_0, k_tuple_1, k_tuple_2, k_tuple_3, k_NoneType_0, k_NoneType_1, k_NoneType_2, k_NoneType_3, g_0, List.lookup]
        rw [whlM, e2]
        simp only [Res.bindO, truth]
        have : (Int.gcd a 0 : Int) = a := by simp [Int.gcd_zero_right]; omega
        rw [this]
  have e := key 1000 a b ha hb (by omega)
  show finF (evSs p call b__law_divisor ⟨[some (.int a), some (.int b)], none⟩ S) = _
  unfold b__law_divisor
  rw [ss_cons (show evS p call (.whl _ _) _ S = _ from e) rfl]
  simp [finF, evSs, evS, evE, evEs, evO, evT, evI, Res.bind, Res.bindL, Res.bindO, ResL.bind, ResL.bindL, ResL.bindO, Mi.start, truth, callM, fill, newM, selfM, putM, putMs, putD, noExc, putP, putPs, evPar, elems, cmpM, cmpI, bin_ii, biM, neg_i, lenB, isND, idxM, iniM, partD, asBool, flipB, eqM_ii, eqM_ss, eqM_bb, eqM_rr, eqM_ri, neM_ii, neM_ss, neM_bb, neM_rr, neM_ri, ks_ra, ks_i, ks_s, ks_l, ks_t, at_top, at_bot, bin_ra_add, bin_ra_sub, bin_ra_mul, bin_ra_addi, bin_ra_subi, bin_ra_muli, neg_ra, raisM, k_0_0, k_0_1, k_0_2, k_0_3, k_1_0, k_1_1, k_1_2, k_1_3, k_int_0, k_int_1, k_int_2, k_int_3, k_str_0, k_str_1, k_str_2, k_str_3, k_list_0, k_list_1, k_list_2, k_list_3, k_tuple_0, k_tuple_1, k_tuple_2, k_tuple_3, k_NoneType_0, k_NoneType_1, k_NoneType_2, k_NoneType_3, g_0, List.lookup]
end K14
end

section
set_option maxRecDepth 100000
set_option maxHeartbeats 4000000
set_option exponentiation.threshold 9000
namespace K14
open Mi Ma Mg
/-! ### nearest rounds, the first stud within -/
section
variable {S : Store} {t : Rat}
theorem at_whole {k : Nat} : attrM p (run p (k + 2)) (ra t) 7 S = .ok (.bl (decide (t.den = 1))) S := by
  simp [ra, attrM, attrI, c_1, List.lookup, noExc, run_low]
  have : run p (k + 1) (.fn 28 [ra t]) S = .ok (.bl (decide (t.den = 1))) S := by
    rw [run_fn f_28 rfl]
    have e : ((t.den : Int) = 1) ↔ t.den = 1 := by omega
    simp [finF, b_Ratio_is_whole, evSs, evS, evE, evEs, evO, evT, evI, Res.bind, Res.bindL, Res.bindO, ResL.bind, ResL.bindL, ResL.bindO, Mi.start, truth, callM, fill, newM, selfM, putM, putMs, putD, noExc, putP, putPs, evPar, elems, cmpM, cmpI, bin_ii, biM, neg_i, lenB, isND, idxM, iniM, partD, asBool, flipB, eqM_ii, eqM_ss, eqM_bb, eqM_rr, eqM_ri, neM_ii, neM_ss, neM_bb, neM_rr, neM_ri, ks_ra, ks_i, ks_s, ks_l, ks_t, at_top, at_bot, bin_ra_add, bin_ra_sub, bin_ra_mul, bin_ra_addi, bin_ra_subi, bin_ra_muli, neg_ra, raisM, k_0_0, k_0_1, k_0_2, k_0_3, k_1_0, k_1_1, k_1_2, k_1_3, k_int_0, k_int_1, k_int_2, k_int_3, k_str_0, k_str_1, k_str_2, k_str_3, k_list_0, k_list_1, k_list_2, k_list_3, k_tuple_0, k_tuple_1, k_tuple_2, k_tuple_3, k_NoneType_0, k_NoneType_1, k_NoneType_2, k_NoneType_3, g_0, List.lookup, e]
  unfold ra at this
  rw [this]
end
theorem s_rounds_near (k : Nat) {w : Rat} (hw : Lw 3000 w) (S : Store) : run p (k + 6) (.fn 21 [ra w]) S = .ok (.tup ((near w).map .int)) S := by
  rw [run_fn f_21 rfl]
  have n := s_ratio (k + 2) 1 2 S (by omega) (by decide)
  have l2 : Lw 10 (rt 1 2) := Lw.rt (by omega) (by decide) (by decide)
  have a := s_add k (hw.mono (by omega)) (l2.mono (by omega)) (asR.ra _) S
  have lh : Lw 3900 (w + rt 1 2) := (hw.add l2).mono (by omega)
  have b := at_below (k := k + 3) (S := S) lh
  unfold near
  by_cases h : (w + rt 1 2).den = 1
  · simp [finF, b_rounds_near, evSs, evS, evE, evEs, evO, evT, evI, Res.bind, Res.bindL, Res.bindO, ResL.bind, ResL.bindL, ResL.bindO, Mi.start, truth, callM, fill, newM, selfM, putM, putMs, putD, noExc, putP, putPs, evPar, elems, cmpM, cmpI, bin_ii, biM, neg_i, lenB, isND, idxM, iniM, partD, asBool, flipB, eqM_ii, eqM_ss, eqM_bb, eqM_rr, eqM_ri, neM_ii, neM_ss, neM_bb, neM_rr, neM_ri, ks_ra, ks_i, ks_s, ks_l, ks_t, at_top, at_bot, bin_ra_add, bin_ra_sub, bin_ra_mul, bin_ra_addi, bin_ra_subi, bin_ra_muli, neg_ra, raisM, k_0_0, k_0_1, k_0_2, k_0_3, k_1_0, k_1_1, k_1_2, k_1_3, k_int_0, k_int_1, k_int_2, k_int_3, k_str_0, k_str_1, k_str_2, k_str_3, k_list_0, k_list_1, k_list_2, k_list_3, k_tuple_0, k_tuple_1, k_tuple_2, k_tuple_3, k_NoneType_0, k_NoneType_1, k_NoneType_2, k_NoneType_3, g_0, List.lookup, c_1, f_27, n, a, at_whole (k := k + 3), h, lim]
  · simp [finF, b_rounds_near, evSs, evS, evE, evEs, evO, evT, evI, Res.bind, Res.bindL, Res.bindO, ResL.bind, ResL.bindL, ResL.bindO, Mi.start, truth, callM, fill, newM, selfM, putM, putMs, putD, noExc, putP, putPs, evPar, elems, cmpM, cmpI, bin_ii, biM, neg_i, lenB, isND, idxM, iniM, partD, asBool, flipB, eqM_ii, eqM_ss, eqM_bb, eqM_rr, eqM_ri, neM_ii, neM_ss, neM_bb, neM_rr, neM_ri, ks_ra, ks_i, ks_s, ks_l, ks_t, at_top, at_bot, bin_ra_add, bin_ra_sub, bin_ra_mul, bin_ra_addi, bin_ra_subi, bin_ra_muli, neg_ra, raisM, k_0_0, k_0_1, k_0_2, k_0_3, k_1_0, k_1_1, k_1_2, k_1_3, k_int_0, k_int_1, k_int_2, k_int_3, k_str_0, k_str_1, k_str_2, k_str_3, k_list_0, k_list_1, k_list_2, k_list_3, k_tuple_0, k_tuple_1, k_tuple_2, k_tuple_3, k_NoneType_0, k_NoneType_1, k_NoneType_2, k_NoneType_3, g_0, List.lookup, c_1, f_27, n, a, at_whole (k := k + 3), h, lim, b]
theorem s_nearest (k : Nat) {t s : Rat} {a : Int} (ht : Lw 1000 t) (ha : a.natAbs < 2 ^ 40) (S : Store) : run p (k + 7) (.fn 15 [st t s, .int a]) S = .ok (.tup ((near (t * (a : Rat))).map .int)) S := by
  rw [run_fn f_15 rfl]
  have la : Lw 100 (a : Rat) := lw_i (ab_mono ha (by omega))
  have f1 := s_mul (k + 1) (ht.mono (by omega)) (la.mono (by omega)) (asR.int a) S
  have f2 := s_rounds_near k ((ht.mul la).mono (show 1000 + 100 ≤ 3000 by omega)) S
  simp [finF, b_nearest_rounds, evSs, evS, evE, evEs, evO, evT, evI, Res.bind, Res.bindL, Res.bindO, ResL.bind, ResL.bindL, ResL.bindO, Mi.start, truth, callM, fill, newM, selfM, putM, putMs, putD, noExc, putP, putPs, evPar, elems, cmpM, cmpI, bin_ii, biM, neg_i, lenB, isND, idxM, iniM, partD, asBool, flipB, eqM_ii, eqM_ss, eqM_bb, eqM_rr, eqM_ri, neM_ii, neM_ss, neM_bb, neM_rr, neM_ri, ks_ra, ks_i, ks_s, ks_l, ks_t, at_top, at_bot, bin_ra_add, bin_ra_sub, bin_ra_mul, bin_ra_addi, bin_ra_subi, bin_ra_muli, neg_ra, raisM, k_0_0, k_0_1, k_0_2, k_0_3, k_1_0, k_1_1, k_1_2, k_1_3, k_int_0, k_int_1, k_int_2, k_int_3, k_str_0, k_str_1, k_str_2, k_str_3, k_list_0, k_list_1, k_list_2, k_list_3, k_tuple_0, k_tuple_1, k_tuple_2, k_tuple_3, k_NoneType_0, k_NoneType_1, k_NoneType_2, k_NoneType_3, g_0, List.lookup, f_16, f_20, s_need_stem, s_need_integer (k + 4), at_turn, f1, f_21, f2]
theorem s_place' (k : Nat) {t s : Rat} {a : Int} (ht : Lw 1000 t) (ha : a.natAbs < 2 ^ 40) (S : Store) : run p (k + 7) (.fn 13 [st t s, .int a]) S = .ok (ra (plc t a)) S := s_place k ht ha S
theorem lw_plc {t : Rat} {a : Int} (ht : Lw 1000 t) (ha : a.natAbs < 2 ^ 40) : Lw 3000 (plc t a) := by
  have la : Lw 100 (a : Rat) := lw_i (ab_mono ha (by omega))
  have lm := ht.mul la
  have lf : Lw 1200 ((t * (a : Rat)).floor : Rat) := by
    refine Lw.int (Nat.lt_of_le_of_lt ?_ (lm.mono (show 1100 ≤ 1200 by omega)).n) (by omega)
    rw [← floor_eq]
    exact natAbs_fdiv_le' _ _ (den0 _)
  exact (lm.sub lf).mono (by omega)
def cndT (t lo hi : Rat) : D → Bool
  | .int i => decide (lo ≤ plc t i) && decide (plc t i ≤ hi)
  | _ => false
def cndP (P Q L H U : Int) : D → Bool
  | .int i => decide (L * Q ≤ (i * P).fmod Q * U) && decide ((i * P).fmod Q * U ≤ H * Q)
  | _ => false
theorem s_first_within (k : Nat) {t s lo hi : Rat} {dl dh : D} {M : Int} (ht : Lw 1000 t) (hl : asR dl lo) (hh : asR dh hi) (ll : Lw 3900 lo) (lh : Lw 3900 hi) (l0 : ¬ lo < 0) (l1 : lo < 1) (h0 : ¬ hi < lo) (h1 : hi < 1) (M1 : 1 ≤ M) (M2 : M ≤ 1000) (S : Store) :
    run p (k + 9) (.fn 10 [st t s, dl, dh, .int M]) S = .ok (found (rngL 1 M.toNat) (cndT t lo hi)) S := by
  refine run_eq f_10 rfl ?_
  have e1 := s_below_ok k hl (asR.int 0) ll (Lw.int (by decide) (by omega)) (by simpa using l0) l1 "low" S
  have e2 := s_below_ok k hh hl lh ll h0 h1 "high" S
  have e3 := s_within (k + 6) (i := M) (lo := 1) (hi := 1000) S
  let F := fun v4 v5 => (⟨[some (st t s), some dl, some dh, some (.int M), v4, v5], none⟩ : Fr)
  show Rt (evSs p (run p (k + 8)) b_first_within (F none none) S) _
  unfold b_first_within
  refine Rt.cons (fr' := F none none) (S' := S) (by simp [F, evSs, evS, evE, evEs, evO, evT, evI, Res.bind, Res.bindL, Res.bindO, ResL.bind, ResL.bindL, ResL.bindO, Mi.start, truth, callM, fill, newM, selfM, putM, putMs, putD, noExc, putP, putPs, evPar, elems, cmpM, cmpI, bin_ii, biM, neg_i, lenB, isND, idxM, iniM, partD, asBool, flipB, eqM_ii, eqM_ss, eqM_bb, eqM_rr, eqM_ri, neM_ii, neM_ss, neM_bb, neM_rr, neM_ri, ks_ra, ks_i, ks_s, ks_l, ks_t, at_top, at_bot, bin_ra_add, bin_ra_sub, bin_ra_mul, bin_ra_addi, bin_ra_subi, bin_ra_muli, neg_ra, raisM, k_0_0, k_0_1, k_0_2, k_0_3, k_1_0, k_1_1, k_1_2, k_1_3, k_int_0, k_int_1, k_int_2, k_int_3, k_str_0, k_str_1, k_str_2, k_str_3, k_list_0, k_list_1, k_list_2, k_list_3, k_tuple_0, k_tuple_1, k_tuple_2, k_tuple_3, k_NoneType_0, k_NoneType_1, k_NoneType_2, k_NoneType_3, g_0, List.lookup, f_16, s_need_stem]) ?_
  refine Rt.cons (fr' := F none none) (S' := S) (by simp [F, evSs, evS, evE, evEs, evO, evT, evI, Res.bind, Res.bindL, Res.bindO, ResL.bind, ResL.bindL, ResL.bindO, Mi.start, truth, callM, fill, newM, selfM, putM, putMs, putD, noExc, putP, putPs, evPar, elems, cmpM, cmpI, bin_ii, biM, neg_i, lenB, isND, idxM, iniM, partD, asBool, flipB, eqM_ii, eqM_ss, eqM_bb, eqM_rr, eqM_ri, neM_ii, neM_ss, neM_bb, neM_rr, neM_ri, ks_ra, ks_i, ks_s, ks_l, ks_t, at_top, at_bot, bin_ra_add, bin_ra_sub, bin_ra_mul, bin_ra_addi, bin_ra_subi, bin_ra_muli, neg_ra, raisM, k_0_0, k_0_1, k_0_2, k_0_3, k_1_0, k_1_1, k_1_2, k_1_3, k_int_0, k_int_1, k_int_2, k_int_3, k_str_0, k_str_1, k_str_2, k_str_3, k_list_0, k_list_1, k_list_2, k_list_3, k_tuple_0, k_tuple_1, k_tuple_2, k_tuple_3, k_NoneType_0, k_NoneType_1, k_NoneType_2, k_NoneType_3, g_0, List.lookup, f_17, e1]) ?_
  refine Rt.cons (fr' := F none none) (S' := S) (by simp [F, evSs, evS, evE, evEs, evO, evT, evI, Res.bind, Res.bindL, Res.bindO, ResL.bind, ResL.bindL, ResL.bindO, Mi.start, truth, callM, fill, newM, selfM, putM, putMs, putD, noExc, putP, putPs, evPar, elems, cmpM, cmpI, bin_ii, biM, neg_i, lenB, isND, idxM, iniM, partD, asBool, flipB, eqM_ii, eqM_ss, eqM_bb, eqM_rr, eqM_ri, neM_ii, neM_ss, neM_bb, neM_rr, neM_ri, ks_ra, ks_i, ks_s, ks_l, ks_t, at_top, at_bot, bin_ra_add, bin_ra_sub, bin_ra_mul, bin_ra_addi, bin_ra_subi, bin_ra_muli, neg_ra, raisM, k_0_0, k_0_1, k_0_2, k_0_3, k_1_0, k_1_1, k_1_2, k_1_3, k_int_0, k_int_1, k_int_2, k_int_3, k_str_0, k_str_1, k_str_2, k_str_3, k_list_0, k_list_1, k_list_2, k_list_3, k_tuple_0, k_tuple_1, k_tuple_2, k_tuple_3, k_NoneType_0, k_NoneType_1, k_NoneType_2, k_NoneType_3, g_0, List.lookup, f_17, e2]) ?_
  refine Rt.no (x := .bl false) (S' := S) (by simp [F, evSs, evS, evE, evEs, evO, evT, evI, Res.bind, Res.bindL, Res.bindO, ResL.bind, ResL.bindL, ResL.bindO, Mi.start, truth, callM, fill, newM, selfM, putM, putMs, putD, noExc, putP, putPs, evPar, elems, cmpM, cmpI, bin_ii, biM, neg_i, lenB, isND, idxM, iniM, partD, asBool, flipB, eqM_ii, eqM_ss, eqM_bb, eqM_rr, eqM_ri, neM_ii, neM_ss, neM_bb, neM_rr, neM_ri, ks_ra, ks_i, ks_s, ks_l, ks_t, at_top, at_bot, bin_ra_add, bin_ra_sub, bin_ra_mul, bin_ra_addi, bin_ra_subi, bin_ra_muli, neg_ra, raisM, k_0_0, k_0_1, k_0_2, k_0_3, k_1_0, k_1_1, k_1_2, k_1_3, k_int_0, k_int_1, k_int_2, k_int_3, k_str_0, k_str_1, k_str_2, k_str_3, k_list_0, k_list_1, k_list_2, k_list_3, k_tuple_0, k_tuple_1, k_tuple_2, k_tuple_3, k_NoneType_0, k_NoneType_1, k_NoneType_2, k_NoneType_3, g_0, List.lookup, f_18, g_0, e3, M1, M2]) rfl ?_
  have er : evI p (run p (k + 8)) (.rng2 (.con (.int (1))) (.bin .add (.var 3) (.con (.int (1))))) (F none none) S = .ok (rngL 1 M.toNat) S := by
    have h2 : -1000000000 ≤ M + 1 := by omega
    have h3 : M + 1 ≤ 1000000000 := by omega
    have h4 : M + 1 - 1 = M := by omega
    simp [F, evSs, evS, evE, evEs, evO, evT, evI, Res.bind, Res.bindL, Res.bindO, ResL.bind, ResL.bindL, ResL.bindO, Mi.start, truth, callM, fill, newM, selfM, putM, putMs, putD, noExc, putP, putPs, evPar, elems, cmpM, cmpI, bin_ii, biM, neg_i, lenB, isND, idxM, iniM, partD, asBool, flipB, eqM_ii, eqM_ss, eqM_bb, eqM_rr, eqM_ri, neM_ii, neM_ss, neM_bb, neM_rr, neM_ri, ks_ra, ks_i, ks_s, ks_l, ks_t, at_top, at_bot, bin_ra_add, bin_ra_sub, bin_ra_mul, bin_ra_addi, bin_ra_subi, bin_ra_muli, neg_ra, raisM, k_0_0, k_0_1, k_0_2, k_0_3, k_1_0, k_1_1, k_1_2, k_1_3, k_int_0, k_int_1, k_int_2, k_int_3, k_str_0, k_str_1, k_str_2, k_str_3, k_list_0, k_list_1, k_list_2, k_list_3, k_tuple_0, k_tuple_1, k_tuple_2, k_tuple_3, k_NoneType_0, k_NoneType_1, k_NoneType_2, k_NoneType_3, g_0, List.lookup, h2, h3, h4]
  refine find_rt er (fun fr S' => (∃ v4 v5, fr = F v4 v5) ∧ S' = S) (cndT t lo hi) ?_ ⟨⟨_, _, rfl⟩, rfl⟩ (fun fr S' h => ⟨rfl, h.2⟩)
  rintro d hd fr S' ⟨⟨v4, v5, rfl⟩, rfl⟩
  obtain ⟨i, rfl, i1, i2⟩ := rng_mem hd
  have hi40 : i.natAbs < 2 ^ 40 := by omega
  have pl := s_place_at (k + 2) (s := s) ht hi40 S'
  have lp := (lw_plc ht hi40).mono (show 3000 ≤ 3900 by omega)
  have b1 := s_is_below (k + 2) lp ll hl S'
  have b2 := s_compared (k + 3) lp lh hh S'
  have pl' : run p (k + 2 + 6) (.fn 19 [st t s, .int i]) S' = .ok (ra (plc t i)) S' := pl
  generalize hq : plc t i = q at *
  constructor
  · intro hc
    simp only [cndT, hq, Bool.and_eq_true, decide_eq_true_eq] at hc
    obtain ⟨hc1, hc2⟩ := hc
    have n1 : ¬ q < lo := Rat.not_lt.mpr hc1
    have n2 : cmpR q hi < 1 := cmpR_le.mpr hc2
    refine ⟨F (some (.int i)) (some (ra q)), S', trn_of (σ' := (F (some (.int i)) v5).σ) (by simp [F, putP]) ?_, ⟨_, _, rfl⟩, rfl⟩
    simp [F, evSs, evS, evE, evEs, evO, evT, evI, Res.bind, Res.bindL, Res.bindO, ResL.bind, ResL.bindL, ResL.bindO, Mi.start, truth, callM, fill, newM, selfM, putM, putMs, putD, noExc, putP, putPs, evPar, elems, cmpM, cmpI, bin_ii, biM, neg_i, lenB, isND, idxM, iniM, partD, asBool, flipB, eqM_ii, eqM_ss, eqM_bb, eqM_rr, eqM_ri, neM_ii, neM_ss, neM_bb, neM_rr, neM_ri, ks_ra, ks_i, ks_s, ks_l, ks_t, at_top, at_bot, bin_ra_add, bin_ra_sub, bin_ra_mul, bin_ra_addi, bin_ra_subi, bin_ra_muli, neg_ra, raisM, k_0_0, k_0_1, k_0_2, k_0_3, k_1_0, k_1_1, k_1_2, k_1_3, k_int_0, k_int_1, k_int_2, k_int_3, k_str_0, k_str_1, k_str_2, k_str_3, k_list_0, k_list_1, k_list_2, k_list_3, k_tuple_0, k_tuple_1, k_tuple_2, k_tuple_3, k_NoneType_0, k_NoneType_1, k_NoneType_2, k_NoneType_3, g_0, List.lookup, f_19, pl', m_below, f_36, b1, n1, m_compared, f_35, b2, n2]
  · intro hc
    simp only [cndT, hq, Bool.and_eq_false_iff, decide_eq_false_iff_not] at hc
    refine ⟨F (some (.int i)) (some (ra q)), S', trn_of (σ' := (F (some (.int i)) v5).σ) (by simp [F, putP]) ?_, ⟨_, _, rfl⟩, rfl⟩
    by_cases n1 : q < lo
    · simp [F, evSs, evS, evE, evEs, evO, evT, evI, Res.bind, Res.bindL, Res.bindO, ResL.bind, ResL.bindL, ResL.bindO, Mi.start, truth, callM, fill, newM, selfM, putM, putMs, putD, noExc, putP, putPs, evPar, elems, cmpM, cmpI, bin_ii, biM, neg_i, lenB, isND, idxM, iniM, partD, asBool, flipB, eqM_ii, eqM_ss, eqM_bb, eqM_rr, eqM_ri, neM_ii, neM_ss, neM_bb, neM_rr, neM_ri, ks_ra, ks_i, ks_s, ks_l, ks_t, at_top, at_bot, bin_ra_add, bin_ra_sub, bin_ra_mul, bin_ra_addi, bin_ra_subi, bin_ra_muli, neg_ra, raisM, k_0_0, k_0_1, k_0_2, k_0_3, k_1_0, k_1_1, k_1_2, k_1_3, k_int_0, k_int_1, k_int_2, k_int_3, k_str_0, k_str_1, k_str_2, k_str_3, k_list_0, k_list_1, k_list_2, k_list_3, k_tuple_0, k_tuple_1, k_tuple_2, k_tuple_3, k_NoneType_0, k_NoneType_1, k_NoneType_2, k_NoneType_3, g_0, List.lookup, f_19, pl', m_below, f_36, b1, n1]
    · have n2 : ¬ cmpR q hi < 1 := fun z => (hc.resolve_left fun y => y (Rat.not_lt.mp n1)) (cmpR_le.mp z)
      simp [F, evSs, evS, evE, evEs, evO, evT, evI, Res.bind, Res.bindL, Res.bindO, ResL.bind, ResL.bindL, ResL.bindO, Mi.start, truth, callM, fill, newM, selfM, putM, putMs, putD, noExc, putP, putPs, evPar, elems, cmpM, cmpI, bin_ii, biM, neg_i, lenB, isND, idxM, iniM, partD, asBool, flipB, eqM_ii, eqM_ss, eqM_bb, eqM_rr, eqM_ri, neM_ii, neM_ss, neM_bb, neM_rr, neM_ri, ks_ra, ks_i, ks_s, ks_l, ks_t, at_top, at_bot, bin_ra_add, bin_ra_sub, bin_ra_mul, bin_ra_addi, bin_ra_subi, bin_ra_muli, neg_ra, raisM, k_0_0, k_0_1, k_0_2, k_0_3, k_1_0, k_1_1, k_1_2, k_1_3, k_int_0, k_int_1, k_int_2, k_int_3, k_str_0, k_str_1, k_str_2, k_str_3, k_list_0, k_list_1, k_list_2, k_list_3, k_tuple_0, k_tuple_1, k_tuple_2, k_tuple_3, k_NoneType_0, k_NoneType_1, k_NoneType_2, k_NoneType_3, g_0, List.lookup, f_19, pl', m_below, f_36, b1, n1, m_compared, f_35, b2, n2]
theorem s_law_first (k : Nat) {P Q L H U M : Int} (hP : P.natAbs < 2 ^ 20) (hQ : Q.natAbs < 2 ^ 20) (hQ0 : Q ≠ 0) (hL : L.natAbs < 2 ^ 20) (hH : H.natAbs < 2 ^ 20) (hU : U.natAbs < 2 ^ 20) (M1 : 1 ≤ M) (M2 : M ≤ 1000) (S : Store) :
    run p (k + 1) (.fn 11 [.int P, .int Q, .int L, .int H, .int U, .int M]) S = .ok (found (rngL 1 M.toNat) (cndP P Q L H U)) S := by
  refine run_eq f_11 rfl ?_
  let F := fun v6 v7 => (⟨[some (.int P), some (.int Q), some (.int L), some (.int H), some (.int U), some (.int M), v6, v7], none⟩ : Fr)
  show Rt (evSs p (run p k) b__law_first (F none none) S) _
  unfold b__law_first
  have er : evI p (run p k) (.rng2 (.con (.int (1))) (.bin .add (.var 5) (.con (.int (1))))) (F none none) S = .ok (rngL 1 M.toNat) S := by
    have h2 : -1000000000 ≤ M + 1 := by omega
    have h3 : M + 1 ≤ 1000000000 := by omega
    have h4 : M + 1 - 1 = M := by omega
    simp [F, evSs, evS, evE, evEs, evO, evT, evI, Res.bind, Res.bindL, Res.bindO, ResL.bind, ResL.bindL, ResL.bindO, Mi.start, truth, callM, fill, newM, selfM, putM, putMs, putD, noExc, putP, putPs, evPar, elems, cmpM, cmpI, bin_ii, biM, neg_i, lenB, isND, idxM, iniM, partD, asBool, flipB, eqM_ii, eqM_ss, eqM_bb, eqM_rr, eqM_ri, neM_ii, neM_ss, neM_bb, neM_rr, neM_ri, ks_ra, ks_i, ks_s, ks_l, ks_t, at_top, at_bot, bin_ra_add, bin_ra_sub, bin_ra_mul, bin_ra_addi, bin_ra_subi, bin_ra_muli, neg_ra, raisM, k_0_0, k_0_1, k_0_2, k_0_3, k_1_0, k_1_1, k_1_2, k_1_3, k_int_0, k_int_1, k_int_2, k_int_3, k_str_0, k_str_1, k_str_2, k_str_3, k_list_0, k_list_1, k_list_2, k_list_3, k_tuple_0, k_tuple_1, k_tuple_2, k_tuple_3, k_NoneType_0, k_NoneType_1, k_NoneType_2, k_NoneType_3, g_0, List.lookup, h2, h3, h4]
  refine find_rt er (fun fr S' => (∃ v4 v5, fr = F v4 v5) ∧ S' = S) (cndP P Q L H U) ?_ ⟨⟨_, _, rfl⟩, rfl⟩ (fun fr S' h => ⟨rfl, h.2⟩)
  rintro d hd fr S' ⟨⟨v6, v7, rfl⟩, rfl⟩
  obtain ⟨i, rfl, i1, i2⟩ := rng_mem hd
  have mm {x y : Int} (h : x.natAbs < 2 ^ 20) : Mu x y = true := mu_l (by omega)
  have mi : Mu i P = true := mu_l (by omega)
  have mu {x : Int} : Mu x U = true := by
    have e : Nat.blt U.natAbs (2 ^ 60) = true := Nat.blt_eq.mpr (by omega)
    unfold Mu
    rw [e]; simp
  obtain ⟨h, hh⟩ : ∃ h, h = (i * P).fmod Q := ⟨_, rfl⟩
  constructor
  · intro hc
    simp only [cndP, ← hh, Bool.and_eq_true, decide_eq_true_eq] at hc
    refine ⟨F (some (.int i)) (some (.int h)), S', trn_of (σ' := (F (some (.int i)) v7).σ) (by simp [F, putP]) ?_, ⟨_, _, rfl⟩, rfl⟩
    simp [F, evSs, evS, evE, evEs, evO, evT, evI, Res.bind, Res.bindL, Res.bindO, ResL.bind, ResL.bindL, ResL.bindO, Mi.start, truth, callM, fill, newM, selfM, putM, putMs, putD, noExc, putP, putPs, evPar, elems, cmpM, cmpI, bin_ii, biM, neg_i, lenB, isND, idxM, iniM, partD, asBool, flipB, eqM_ii, eqM_ss, eqM_bb, eqM_rr, eqM_ri, neM_ii, neM_ss, neM_bb, neM_rr, neM_ri, ks_ra, ks_i, ks_s, ks_l, ks_t, at_top, at_bot, bin_ra_add, bin_ra_sub, bin_ra_mul, bin_ra_addi, bin_ra_subi, bin_ra_muli, neg_ra, raisM, k_0_0, k_0_1, k_0_2, k_0_3, k_1_0, k_1_1, k_1_2, k_1_3, k_int_0, k_int_1, k_int_2, k_int_3, k_str_0, k_str_1, k_str_2, k_str_3, k_list_0, k_list_1, k_list_2, k_list_3, k_tuple_0, k_tuple_1, k_tuple_2, k_tuple_3, k_NoneType_0, k_NoneType_1, k_NoneType_2, k_NoneType_3, g_0, List.lookup, mi, hQ0, mm hL, mm hH, mu, ← hh, hc.1, hc.2]
  · intro hc
    simp only [cndP, ← hh, Bool.and_eq_false_iff, decide_eq_false_iff_not] at hc
    refine ⟨F (some (.int i)) (some (.int h)), S', trn_of (σ' := (F (some (.int i)) v7).σ) (by simp [F, putP]) ?_, ⟨_, _, rfl⟩, rfl⟩
    by_cases n1 : L * Q ≤ h * U
    · have n2 : ¬ h * U ≤ H * Q := hc.resolve_left fun z => z n1
      simp [F, evSs, evS, evE, evEs, evO, evT, evI, Res.bind, Res.bindL, Res.bindO, ResL.bind, ResL.bindL, ResL.bindO, Mi.start, truth, callM, fill, newM, selfM, putM, putMs, putD, noExc, putP, putPs, evPar, elems, cmpM, cmpI, bin_ii, biM, neg_i, lenB, isND, idxM, iniM, partD, asBool, flipB, eqM_ii, eqM_ss, eqM_bb, eqM_rr, eqM_ri, neM_ii, neM_ss, neM_bb, neM_rr, neM_ri, ks_ra, ks_i, ks_s, ks_l, ks_t, at_top, at_bot, bin_ra_add, bin_ra_sub, bin_ra_mul, bin_ra_addi, bin_ra_subi, bin_ra_muli, neg_ra, raisM, k_0_0, k_0_1, k_0_2, k_0_3, k_1_0, k_1_1, k_1_2, k_1_3, k_int_0, k_int_1, k_int_2, k_int_3, k_str_0, k_str_1, k_str_2, k_str_3, k_list_0, k_list_1, k_list_2, k_list_3, k_tuple_0, k_tuple_1, k_tuple_2, k_tuple_3, k_NoneType_0, k_NoneType_1, k_NoneType_2, k_NoneType_3, g_0, List.lookup, mi, hQ0, mm hL, mm hH, mu, ← hh, n1, n2]
    · simp [F, evSs, evS, evE, evEs, evO, evT, evI, Res.bind, Res.bindL, Res.bindO, ResL.bind, ResL.bindL, ResL.bindO, Mi.start, truth, callM, fill, newM, selfM, putM, putMs, putD, noExc, putP, putPs, evPar, elems, cmpM, cmpI, bin_ii, biM, neg_i, lenB, isND, idxM, iniM, partD, asBool, flipB, eqM_ii, eqM_ss, eqM_bb, eqM_rr, eqM_ri, neM_ii, neM_ss, neM_bb, neM_rr, neM_ri, ks_ra, ks_i, ks_s, ks_l, ks_t, at_top, at_bot, bin_ra_add, bin_ra_sub, bin_ra_mul, bin_ra_addi, bin_ra_subi, bin_ra_muli, neg_ra, raisM, k_0_0, k_0_1, k_0_2, k_0_3, k_1_0, k_1_1, k_1_2, k_1_3, k_int_0, k_int_1, k_int_2, k_int_3, k_str_0, k_str_1, k_str_2, k_str_3, k_list_0, k_list_1, k_list_2, k_list_3, k_tuple_0, k_tuple_1, k_tuple_2, k_tuple_3, k_NoneType_0, k_NoneType_1, k_NoneType_2, k_NoneType_3, g_0, List.lookup, mi, hQ0, mm hL, mm hH, mu, ← hh, n1]
theorem found_congr {L : List D} {c d : D → Bool} (h : ∀ x ∈ L, c x = d x) : found L c = found L d := by
  unfold found
  have : L.find? c = L.find? d := by
    induction L with
    | nil => rfl
    | cons x L ih =>
      rw [List.find?_cons, List.find?_cons, h x (by simp), ih fun y hy => h y (List.mem_cons_of_mem _ hy)]
  rw [this]
theorem found_same {P Q L H U : Int} {M : Nat} (hQ : 1 ≤ Q) (hU : 1 ≤ U) : found (rngL 1 M) (cndT (rt P Q) (rt L U) (rt H U)) = found (rngL 1 M) (cndP P Q L H U) := by
  refine found_congr fun d hd => ?_
  obtain ⟨i, rfl, i1, i2⟩ := rng_mem hd
  simp only [cndT, cndP]
  rw [plc_rt hQ]
  have e1 : rt L U ≤ rt ((i * P).fmod Q) Q ↔ L * Q ≤ (i * P).fmod Q * U := rt_le hU hQ
  have e2 : rt ((i * P).fmod Q) Q ≤ rt H U ↔ (i * P).fmod Q * U ≤ H * Q := rt_le hQ hU
  rw [decide_eq_decide.mpr e1, decide_eq_decide.mpr e2]
/-- what is found is an integer, or none -/
theorem found_int {M : Nat} (c : D → Bool) : (∃ i : Int, found (rngL 1 M) c = .int i) ∨ found (rngL 1 M) c = .non := by
  unfold found
  cases h : (rngL 1 M).find? c with
  | none => exact .inr rfl
  | some d =>
    obtain ⟨i, rfl, _⟩ := rng_mem (List.mem_of_find?_eq_some h)
    exact .inl ⟨i, rfl⟩
end K14
end

section
set_option maxRecDepth 100000
set_option maxHeartbeats 4000000
set_option exponentiation.threshold 9000
namespace K14
open Mi Ma Mg
/-! ### stretches -/
theorem s_stretch (k : Nat) {cs : List Int} {a r e P Q : Int} {T : Store} (J : Jr e cs a r) (he : e < 100000) (q1 : 1 ≤ Q) (q2 : Q ≤ 40) :
    ∃ L H U cs' a' r', run p (k + 3) (.fn 9 [.cell 0, .int P, .int Q]) (jar cs a r :: T) = .ok (.tup [.int L, .int H, .int U]) (jar cs' a' r' :: T) ∧ 0 ≤ L ∧ L ≤ H ∧ H < U ∧ U ≤ 60 ∧ Jr (e + 5) cs' a' r' := by
  rw [run_fn f_9 rfl]
  obtain ⟨w, c1, a1, r1, h1, l1, u1, J1⟩ := s_dip (k + 1) 4 J (T := T) (by omega) (by omega) (by omega)
  obtain ⟨d2, c2, a2, r2, h2, l2, u2, J2⟩ := s_dip (k + 1) 60 J1 (T := T) (by omega) (by omega) (by omega)
  obtain ⟨d3, c3, a3, r3, h3, m3, J3⟩ := s_of k (l := [.int Q, .int 60, .int 7, .int 1]) J2 (T := T) (by omega) (by simp) (by simp)
  obtain ⟨u, rfl, hu1, hu2⟩ : ∃ x : Int, d3 = .int x ∧ 1 ≤ x ∧ x ≤ 60 := by
    simp only [List.mem_cons, List.not_mem_nil, or_false] at m3
    rcases m3 with rfl | rfl | rfl | rfl
    · exact ⟨_, rfl, by omega, by omega⟩
    · exact ⟨_, rfl, by omega, by omega⟩
    · exact ⟨_, rfl, by omega, by omega⟩
    · exact ⟨_, rfl, by omega, by omega⟩
  have mm : Mu (1 + d2) P = true := mu_l (by omega)
  have q0 : ¬ Q = 0 := by omega
  obtain ⟨L, hL⟩ : ∃ L, L = ((1 + d2) * P).fmod Q := ⟨_, rfl⟩
  have fb := fm_bd ((1 + d2) * P) q1
  rw [← hL] at fb
  by_cases w0 : w = 0
  · refine ⟨L, L, Q, c3, a3, r3, ?_, by omega, by omega, by omega, by omega, J3.mono (by omega)⟩
    simp [finF, b__law_stretch, evSs, evS, evE, evEs, evO, evT, evI, Res.bind, Res.bindL, Res.bindO, ResL.bind, ResL.bindL, ResL.bindO, Mi.start, truth, callM, fill, newM, selfM, putM, putMs, putD, noExc, putP, putPs, evPar, elems, cmpM, cmpI, bin_ii, biM, neg_i, lenB, isND, idxM, iniM, partD, asBool, flipB, eqM_ii, eqM_ss, eqM_bb, eqM_rr, eqM_ri, neM_ii, neM_ss, neM_bb, neM_rr, neM_ri, ks_ra, ks_i, ks_s, ks_l, ks_t, at_top, at_bot, bin_ra_add, bin_ra_sub, bin_ra_mul, bin_ra_addi, bin_ra_subi, bin_ra_muli, neg_ra, raisM, k_0_0, k_0_1, k_0_2, k_0_3, k_1_0, k_1_1, k_1_2, k_1_3, k_int_0, k_int_1, k_int_2, k_int_3, k_str_0, k_str_1, k_str_2, k_str_3, k_list_0, k_list_1, k_list_2, k_list_3, k_tuple_0, k_tuple_1, k_tuple_2, k_tuple_3, k_NoneType_0, k_NoneType_1, k_NoneType_2, k_NoneType_3, g_0, List.lookup, f_7, f_8, h1, h2, h3, w0, mm, q0, ← hL, lim]
  · by_cases w1 : w = 1
    · obtain ⟨d4, c4, a4, r4, h4, l4, u4, J4⟩ := s_dip (k + 1) (Q - L) J3 (T := T) (by omega) (by omega) (by omega)
      refine ⟨L, L + d4, Q, c4, a4, r4, ?_, by omega, by omega, by omega, by omega, J4.mono (by omega)⟩
      simp [finF, b__law_stretch, evSs, evS, evE, evEs, evO, evT, evI, Res.bind, Res.bindL, Res.bindO, ResL.bind, ResL.bindL, ResL.bindO, Mi.start, truth, callM, fill, newM, selfM, putM, putMs, putD, noExc, putP, putPs, evPar, elems, cmpM, cmpI, bin_ii, biM, neg_i, lenB, isND, idxM, iniM, partD, asBool, flipB, eqM_ii, eqM_ss, eqM_bb, eqM_rr, eqM_ri, neM_ii, neM_ss, neM_bb, neM_rr, neM_ri, ks_ra, ks_i, ks_s, ks_l, ks_t, at_top, at_bot, bin_ra_add, bin_ra_sub, bin_ra_mul, bin_ra_addi, bin_ra_subi, bin_ra_muli, neg_ra, raisM, k_0_0, k_0_1, k_0_2, k_0_3, k_1_0, k_1_1, k_1_2, k_1_3, k_int_0, k_int_1, k_int_2, k_int_3, k_str_0, k_str_1, k_str_2, k_str_3, k_list_0, k_list_1, k_list_2, k_list_3, k_tuple_0, k_tuple_1, k_tuple_2, k_tuple_3, k_NoneType_0, k_NoneType_1, k_NoneType_2, k_NoneType_3, g_0, List.lookup, f_7, f_8, h1, h2, h3, w1, mm, q0, ← hL, lim, h4]
    · obtain ⟨d4, c4, a4, r4, h4, l4, u4, J4⟩ := s_dip (k + 1) u J3 (T := T) (by omega) (by omega) (by omega)
      obtain ⟨d5, c5, a5, r5, h5, l5, u5, J5⟩ := s_dip (k + 1) (u - d4) J4 (T := T) (by omega) (by omega) (by omega)
      refine ⟨d4, d4 + d5, u, c5, a5, r5, ?_, by omega, by omega, by omega, by omega, J5.mono (by omega)⟩
      simp [finF, b__law_stretch, evSs, evS, evE, evEs, evO, evT, evI, Res.bind, Res.bindL, Res.bindO, ResL.bind, ResL.bindL, ResL.bindO, Mi.start, truth, callM, fill, newM, selfM, putM, putMs, putD, noExc, putP, putPs, evPar, elems, cmpM, cmpI, bin_ii, biM, neg_i, lenB, isND, idxM, iniM, partD, asBool, flipB, eqM_ii, eqM_ss, eqM_bb, eqM_rr, eqM_ri, neM_ii, neM_ss, neM_bb, neM_rr, neM_ri, ks_ra, ks_i, ks_s, ks_l, ks_t, at_top, at_bot, bin_ra_add, bin_ra_sub, bin_ra_mul, bin_ra_addi, bin_ra_subi, bin_ra_muli, neg_ra, raisM, k_0_0, k_0_1, k_0_2, k_0_3, k_1_0, k_1_1, k_1_2, k_1_3, k_int_0, k_int_1, k_int_2, k_int_3, k_str_0, k_str_1, k_str_2, k_str_3, k_list_0, k_list_1, k_list_2, k_list_3, k_tuple_0, k_tuple_1, k_tuple_2, k_tuple_3, k_NoneType_0, k_NoneType_1, k_NoneType_2, k_NoneType_3, g_0, List.lookup, f_7, f_8, h1, h2, h3, w0, w1, h4, h5, lim]
/-- a stem's ratios -/
structure Ps (P Q N M : Int) (t s : Rat) : Prop where
  po : Po P Q N M
  ht : t = rt P Q
  hs : s = rt N M
section
variable {P Q N M : Int} {t s : Rat}
theorem Ps.bp (h : Ps P Q N M t s) : P.natAbs < 2 ^ 7 := by have := h.po.p1; have := h.po.p2; have := h.po.q1; have := h.po.q2; omega
theorem Ps.bq (h : Ps P Q N M t s) : Q.natAbs < 2 ^ 6 := by have := h.po.q1; have := h.po.q2; omega
theorem Ps.bm (h : Ps P Q N M t s) : M.natAbs < 2 ^ 6 := by have := h.po.m1; have := h.po.m2; omega
theorem Ps.bn (h : Ps P Q N M t s) : N.natAbs < 2 ^ 40 := by have := h.po.n0; have := h.po.n1; omega
theorem Ps.lt (h : Ps P Q N M t s) : Lw 7 t := by rw [h.ht]; exact Lw.rt (by have := h.po.q1; omega) h.bp (ab_mono h.bq (by omega))
theorem Ps.ls (h : Ps P Q N M t s) : Lw 40 s := by rw [h.hs]; exact Lw.rt (by have := h.po.m1; omega) h.bn (ab_mono h.bm (by omega))
theorem Ps.pos (h : Ps P Q N M t s) : 0 < s - t * t := by rw [h.ht, h.hs]; exact stem_pos h.po.q1 h.po.m1 h.po.r
end
theorem found_ne {call : Call} {n : Nat} {c : D → Bool} {S : Store} : neM p call (found (rngL 1 n) c) (found (rngL 1 n) c) S = .ok (.bl false) S ∧ eqM p call (found (rngL 1 n) c) (found (rngL 1 n) c) S = .ok (.bl true) S ∧ isB true true (found (rngL 1 n) c) S = .ok (.bl false) S := by
  rcases found_int (M := n) c with ⟨i, h⟩ | h
  · rw [h]
    exact ⟨by simp [neM_ii], by simp [eqM_ii], rfl⟩
  · rw [h]
    have o := okE_ok (S := S) ((Pl.non (n := 0)).ok (by omega))
    refine ⟨?_, ?_, rfl⟩
    · rw [neM_pl o o]; simp [PySem.PyData.eqv]
    · rw [eqM_pl o o]; simp [PySem.PyData.eqv]
theorem s_within_right (k : Nat) {P Q N M : Int} {t s : Rat} (h : Ps P Q N M t s) {cs : List Int} {a r e : Int} {T : Store} (J : Jr e cs a r) (he : e < 90000) :
    ∃ cs' a' r', run p (k + 10) (.fn 3 [.cell 0, poD P Q N M, st t s]) (jar cs a r :: T) = .ok (.bl true) (jar cs' a' r' :: T) ∧ Jr (e + 8) cs' a' r' := by
  rw [run_fn f_3 rfl]
  have q1 := h.po.q1
  have q2 := h.po.q2
  obtain ⟨L, H, U, c1, a1, r1, e1, hL, hLH, hHU, hU60, J1⟩ := s_stretch (k + 6) (P := P) J (T := T) (by omega) q1 q2
  obtain ⟨d2, c2, a2, r2, e2, l2, u2, J2⟩ := s_dip (k + 8) 60 J1 (T := T) (by omega) (by omega) (by omega)
  obtain ⟨d3, c3, a3, r3, e3, l3, u3, J3⟩ := s_dip (k + 8) 60 J2 (T := T) (by omega) (by omega) (by omega)
  obtain ⟨d4, c4, a4, r4, e4, m4, J4⟩ := s_of (k + 7) (l := [.int 60, .int Q, .int 1, .int (1 + d2), .int (1 + d3), .int 1000]) J3 (T := T) (by omega) (by simp) (by simp)
  obtain ⟨m, rfl, hm1, hm2⟩ : ∃ x : Int, d4 = .int x ∧ 1 ≤ x ∧ x ≤ 1000 := by
    simp only [List.mem_cons, List.not_mem_nil, or_false] at m4
    rcases m4 with rfl | rfl | rfl | rfl | rfl | rfl
    · exact ⟨_, rfl, by omega, by omega⟩
    · exact ⟨_, rfl, by omega, by omega⟩
    · exact ⟨_, rfl, by omega, by omega⟩
    · exact ⟨_, rfl, by omega, by omega⟩
    · exact ⟨_, rfl, by omega, by omega⟩
    · exact ⟨_, rfl, by omega, by omega⟩
  have lt := h.lt.mono (show 7 ≤ 1000 by omega)
  have bL : L.natAbs < 2 ^ 6 := by omega
  have bH : H.natAbs < 2 ^ 6 := by omega
  have bU : U.natAbs < 2 ^ 6 := by omega
  have U1 : 1 ≤ U := by omega
  obtain ⟨X, hX⟩ : ∃ X, X = jar c4 a4 r4 :: T := ⟨_, rfl⟩
  have n1 := s_ratio (k + 6) L U X (by omega) (sz_of bU (by omega))
  have n2 := s_ratio (k + 6) H U X (by omega) (sz_of bU (by omega))
  have l1 : Lw 6 (rt L U) := Lw.rt (by omega) bL bU
  have l2 : Lw 6 (rt H U) := Lw.rt (by omega) bH bU
  have w1 := s_first_within k (s := s) lt (asR.ra (rt L U)) (asR.ra (rt H U)) (l1.mono (by omega)) (l2.mono (by omega)) (show ¬ rt L U < ((0 : Int) : Rat) from (rt_nonneg U1).mpr hL) (show rt L U < ((1 : Int) : Rat) from (rt_lt_one U1).mpr (by omega)) (by
    rw [rt_lt U1 U1]
    have := Int.mul_le_mul_of_nonneg_right hLH (show 0 ≤ U by omega)
    omega) (show rt H U < ((1 : Int) : Rat) from (rt_lt_one U1).mpr (by omega)) hm1 hm2 X
  have w2 := s_first_within k (s := s) lt (asR.int 0) (asR.int 0) (Lw.int (by decide) (by omega)) (Lw.int (by decide) (by omega)) (by simp) (by decide) (by simp) (by decide) hm1 hm2 X
  have b20 {x : Int} {n : Nat} (h : x.natAbs < 2 ^ n) (hn : n ≤ 20) : x.natAbs < 2 ^ 20 := ab_mono h hn
  have v1 := s_law_first (k + 8) (b20 h.bp (by omega)) (b20 h.bq (by omega)) (by omega) (b20 bL (by omega)) (b20 bH (by omega)) (b20 bU (by omega)) hm1 hm2 X
  have v2 := s_law_first (k + 8) (P := P) (Q := Q) (L := 0) (H := 0) (U := 1) (b20 h.bp (by omega)) (b20 h.bq (by omega)) (by omega) (by decide) (by decide) (by decide) hm1 hm2 X
  have s1 := found_same (P := P) (Q := Q) (L := L) (H := H) (U := U) (M := m.toNat) q1 U1
  have s2 := found_same (P := P) (Q := Q) (L := 0) (H := 0) (U := 1) (M := m.toNat) q1 (by omega)
  rw [← h.ht] at s1 s2
  rw [rt_one] at s2
  rw [s1] at w1
  rw [s2] at w2
  obtain ⟨y1, y2, y3⟩ := found_ne (call := run p (k + 9)) (n := m.toNat) (c := cndP P Q L H U) (S := X)
  obtain ⟨z1, z2, z3⟩ := found_ne (call := run p (k + 9)) (n := m.toNat) (c := cndP P Q 0 0 1) (S := X)
  refine ⟨c4, a4, r4, ?_, J4.mono (by omega)⟩
  rw [← hX] at e4 ⊢
  generalize found (rngL 1 m.toNat) (cndP P Q L H U) = f1 at *
  generalize found (rngL 1 m.toNat) (cndP P Q 0 0 1) = f2 at *
  let F := fun v3 v4 v5 v6 v7 v8 v9 v10 => (⟨[some (.cell 0), some (poD P Q N M), some (st t s), v3, v4, v5, v6, v7, v8, v9, v10], none⟩ : Fr)
  show finF (evSs p (run p (k + 9)) b__law_within_right (F none none none none none none none none) _) = _
  unfold b__law_within_right
  rw [ss_cons (fr' := F none none none (some (.int P)) (some (.int Q)) none none none) (S' := jar cs a r :: T) (by simp [F, evSs, evS, evE, evEs, evO, evT, evI, Res.bind, Res.bindL, Res.bindO, ResL.bind, ResL.bindL, ResL.bindO, Mi.start, truth, callM, fill, newM, selfM, putM, putMs, putD, noExc, putP, putPs, evPar, elems, cmpM, cmpI, bin_ii, biM, neg_i, lenB, isND, idxM, iniM, partD, asBool, flipB, eqM_ii, eqM_ss, eqM_bb, eqM_rr, eqM_ri, neM_ii, neM_ss, neM_bb, neM_rr, neM_ri, ks_ra, ks_i, ks_s, ks_l, ks_t, at_top, at_bot, bin_ra_add, bin_ra_sub, bin_ra_mul, bin_ra_addi, bin_ra_subi, bin_ra_muli, neg_ra, raisM, k_0_0, k_0_1, k_0_2, k_0_3, k_1_0, k_1_1, k_1_2, k_1_3, k_int_0, k_int_1, k_int_2, k_int_3, k_str_0, k_str_1, k_str_2, k_str_3, k_list_0, k_list_1, k_list_2, k_list_3, k_tuple_0, k_tuple_1, k_tuple_2, k_tuple_3, k_NoneType_0, k_NoneType_1, k_NoneType_2, k_NoneType_3, g_0, List.lookup, poD, at0, at1]) rfl]
  rw [ss_cons (fr' := F none none none (some (.int P)) (some (.int Q)) (some (.int L)) (some (.int H)) (some (.int U))) (S' := jar c1 a1 r1 :: T) (by simp [F, evSs, evS, evE, evEs, evO, evT, evI, Res.bind, Res.bindL, Res.bindO, ResL.bind, ResL.bindL, ResL.bindO, Mi.start, truth, callM, fill, newM, selfM, putM, putMs, putD, noExc, putP, putPs, evPar, elems, cmpM, cmpI, bin_ii, biM, neg_i, lenB, isND, idxM, iniM, partD, asBool, flipB, eqM_ii, eqM_ss, eqM_bb, eqM_rr, eqM_ri, neM_ii, neM_ss, neM_bb, neM_rr, neM_ri, ks_ra, ks_i, ks_s, ks_l, ks_t, at_top, at_bot, bin_ra_add, bin_ra_sub, bin_ra_mul, bin_ra_addi, bin_ra_subi, bin_ra_muli, neg_ra, raisM, k_0_0, k_0_1, k_0_2, k_0_3, k_1_0, k_1_1, k_1_2, k_1_3, k_int_0, k_int_1, k_int_2, k_int_3, k_str_0, k_str_1, k_str_2, k_str_3, k_list_0, k_list_1, k_list_2, k_list_3, k_tuple_0, k_tuple_1, k_tuple_2, k_tuple_3, k_NoneType_0, k_NoneType_1, k_NoneType_2, k_NoneType_3, g_0, List.lookup, f_9, e1, putP, putPs]) rfl]
  rw [ss_cons (fr' := F (some (.int m)) none none (some (.int P)) (some (.int Q)) (some (.int L)) (some (.int H)) (some (.int U))) (S' := X) (by simp [F, evSs, evS, evE, evEs, evO, evT, evI, Res.bind, Res.bindL, Res.bindO, ResL.bind, ResL.bindL, ResL.bindO, Mi.start, truth, callM, fill, newM, selfM, putM, putMs, putD, noExc, putP, putPs, evPar, elems, cmpM, cmpI, bin_ii, biM, neg_i, lenB, isND, idxM, iniM, partD, asBool, flipB, eqM_ii, eqM_ss, eqM_bb, eqM_rr, eqM_ri, neM_ii, neM_ss, neM_bb, neM_rr, neM_ri, ks_ra, ks_i, ks_s, ks_l, ks_t, at_top, at_bot, bin_ra_add, bin_ra_sub, bin_ra_mul, bin_ra_addi, bin_ra_subi, bin_ra_muli, neg_ra, raisM, k_0_0, k_0_1, k_0_2, k_0_3, k_1_0, k_1_1, k_1_2, k_1_3, k_int_0, k_int_1, k_int_2, k_int_3, k_str_0, k_str_1, k_str_2, k_str_3, k_list_0, k_list_1, k_list_2, k_list_3, k_tuple_0, k_tuple_1, k_tuple_2, k_tuple_3, k_NoneType_0, k_NoneType_1, k_NoneType_2, k_NoneType_3, g_0, List.lookup, f_7, f_8, e2, e3, e4, lim]) rfl]
  rw [ss_cons (fr' := F (some (.int m)) (some f1) none (some (.int P)) (some (.int Q)) (some (.int L)) (some (.int H)) (some (.int U))) (S' := X) (by simp [F, evSs, evS, evE, evEs, evO, evT, evI, Res.bind, Res.bindL, Res.bindO, ResL.bind, ResL.bindL, ResL.bindO, Mi.start, truth, callM, fill, newM, selfM, putM, putMs, putD, noExc, putP, putPs, evPar, elems, cmpM, cmpI, bin_ii, biM, neg_i, lenB, isND, idxM, iniM, partD, asBool, flipB, eqM_ii, eqM_ss, eqM_bb, eqM_rr, eqM_ri, neM_ii, neM_ss, neM_bb, neM_rr, neM_ri, ks_ra, ks_i, ks_s, ks_l, ks_t, at_top, at_bot, bin_ra_add, bin_ra_sub, bin_ra_mul, bin_ra_addi, bin_ra_subi, bin_ra_muli, neg_ra, raisM, k_0_0, k_0_1, k_0_2, k_0_3, k_1_0, k_1_1, k_1_2, k_1_3, k_int_0, k_int_1, k_int_2, k_int_3, k_str_0, k_str_1, k_str_2, k_str_3, k_list_0, k_list_1, k_list_2, k_list_3, k_tuple_0, k_tuple_1, k_tuple_2, k_tuple_3, k_NoneType_0, k_NoneType_1, k_NoneType_2, k_NoneType_3, g_0, List.lookup, c_1, f_27, n1, n2, f_10, w1]) rfl]
  rw [ss_cons (fr' := F (some (.int m)) (some f1) none (some (.int P)) (some (.int Q)) (some (.int L)) (some (.int H)) (some (.int U))) (S' := X) (s_if_no (by simp [F, evSs, evS, evE, evEs, evO, evT, evI, Res.bind, Res.bindL, Res.bindO, ResL.bind, ResL.bindL, ResL.bindO, Mi.start, truth, callM, fill, newM, selfM, putM, putMs, putD, noExc, putP, putPs, evPar, elems, cmpM, cmpI, bin_ii, biM, neg_i, lenB, isND, idxM, iniM, partD, asBool, flipB, eqM_ii, eqM_ss, eqM_bb, eqM_rr, eqM_ri, neM_ii, neM_ss, neM_bb, neM_rr, neM_ri, ks_ra, ks_i, ks_s, ks_l, ks_t, at_top, at_bot, bin_ra_add, bin_ra_sub, bin_ra_mul, bin_ra_addi, bin_ra_subi, bin_ra_muli, neg_ra, raisM, k_0_0, k_0_1, k_0_2, k_0_3, k_1_0, k_1_1, k_1_2, k_1_3, k_int_0, k_int_1, k_int_2, k_int_3, k_str_0, k_str_1, k_str_2, k_str_3, k_list_0, k_list_1, k_list_2, k_list_3, k_tuple_0, k_tuple_1, k_tuple_2, k_tuple_3, k_NoneType_0, k_NoneType_1, k_NoneType_2, k_NoneType_3, g_0, List.lookup, f_11, v1, y1, y3])) rfl]
  rw [ss_cons (fr' := F (some (.int m)) (some f1) (some f2) (some (.int P)) (some (.int Q)) (some (.int L)) (some (.int H)) (some (.int U))) (S' := X) (by
    have := w2
    simp [F, evSs, evS, evE, evEs, evO, evT, evI, Res.bind, Res.bindL, Res.bindO, ResL.bind, ResL.bindL, ResL.bindO, Mi.start, truth, callM, fill, newM, selfM, putM, putMs, putD, noExc, putP, putPs, evPar, elems, cmpM, cmpI, bin_ii, biM, neg_i, lenB, isND, idxM, iniM, partD, asBool, flipB, eqM_ii, eqM_ss, eqM_bb, eqM_rr, eqM_ri, neM_ii, neM_ss, neM_bb, neM_rr, neM_ri, ks_ra, ks_i, ks_s, ks_l, ks_t, at_top, at_bot, bin_ra_add, bin_ra_sub, bin_ra_mul, bin_ra_addi, bin_ra_subi, bin_ra_muli, neg_ra, raisM, k_0_0, k_0_1, k_0_2, k_0_3, k_1_0, k_1_1, k_1_2, k_1_3, k_int_0, k_int_1, k_int_2, k_int_3, k_str_0, k_str_1, k_str_2, k_str_3, k_list_0, k_list_1, k_list_2, k_list_3, k_tuple_0, k_tuple_1, k_tuple_2, k_tuple_3, k_NoneType_0, k_NoneType_1, k_NoneType_2, k_NoneType_3, g_0, List.lookup, f_10] at this ⊢
    simp [this]) rfl]
  simp [finF, F, evSs, evS, evE, evEs, evO, evT, evI, Res.bind, Res.bindL, Res.bindO, ResL.bind, ResL.bindL, ResL.bindO, Mi.start, truth, callM, fill, newM, selfM, putM, putMs, putD, noExc, putP, putPs, evPar, elems, cmpM, cmpI, bin_ii, biM, neg_i, lenB, isND, idxM, iniM, partD, asBool, flipB, eqM_ii, eqM_ss, eqM_bb, eqM_rr, eqM_ri, neM_ii, neM_ss, neM_bb, neM_rr, neM_ri, ks_ra, ks_i, ks_s, ks_l, ks_t, at_top, at_bot, bin_ra_add, bin_ra_sub, bin_ra_mul, bin_ra_addi, bin_ra_subi, bin_ra_muli, neg_ra, raisM, k_0_0, k_0_1, k_0_2, k_0_3, k_1_0, k_1_1, k_1_2, k_1_3, k_int_0, k_int_1, k_int_2, k_int_3, k_str_0, k_str_1, k_str_2, k_str_3, k_list_0, k_list_1, k_list_2, k_list_3, k_tuple_0, k_tuple_1, k_tuple_2, k_tuple_3, k_NoneType_0, k_NoneType_1, k_NoneType_2, k_NoneType_3, g_0, List.lookup, f_11, v2, z2]
end K14
end

section
set_option maxRecDepth 100000
set_option maxHeartbeats 4000000
set_option exponentiation.threshold 9000
namespace K14
open Mi Ma Mg
/-! ### pairs of studs; more rounds -/
theorem s_pair_right (k : Nat) {P Q N M : Int} {t s : Rat} (h : Ps P Q N M t s) {cs : List Int} {a r e : Int} {T : Store} (J : Jr e cs a r) (he : e < 90000) :
    ∃ cs' a' r', run p (k + 8) (.fn 4 [.cell 0, poD P Q N M, st t s]) (jar cs a r :: T) = .ok (.bl true) (jar cs' a' r' :: T) ∧ Jr (e + 5) cs' a' r' := by
  rw [run_fn f_4 rfl]
  have q1 := h.po.q1
  have q2 := h.po.q2
  have bP := h.bp
  have lt := h.lt.mono (show 7 ≤ 1000 by omega)
  obtain ⟨d1, c1, a1, r1, e1, m1, J1⟩ := s_of (k + 5) (l := [.int 9, .int 60, .int 10000]) J (T := T) (by omega) (by simp) (by simp)
  obtain ⟨z, rfl, hz1, hz2⟩ : ∃ x : Int, d1 = .int x ∧ 1 ≤ x ∧ x ≤ 10000 := by
    simp only [List.mem_cons, List.not_mem_nil, or_false] at m1
    rcases m1 with rfl | rfl | rfl
    · exact ⟨_, rfl, by omega, by omega⟩
    · exact ⟨_, rfl, by omega, by omega⟩
    · exact ⟨_, rfl, by omega, by omega⟩
  obtain ⟨d2, c2, a2, r2, e2, l2, u2, J2⟩ := s_dip (k + 6) (2 * z + 1) J1 (T := T) (by omega) (by omega) (by omega)
  obtain ⟨d3, c3, a3, r3, e3, l3, u3, J3⟩ := s_dip (k + 6) (2 * z + 1) J2 (T := T) (by omega) (by omega) (by omega)
  obtain ⟨d4, c4, a4, r4, e4, l4, u4, J4⟩ := s_dip (k + 6) 2 J3 (T := T) (by omega) (by omega) (by omega)
  obtain ⟨x, hx⟩ : ∃ x, x = d2 - z := ⟨_, rfl⟩
  obtain ⟨f, hf⟩ : ∃ f, f = d3 - z := ⟨_, rfl⟩
  have fb := fm_bd f (show (1 : Int) ≤ 41 by omega)
  obtain ⟨w, hw⟩ : ∃ w, w = f.fmod 41 - 20 := ⟨_, rfl⟩
  have qw : (Q * w).natAbs < 2 ^ (6 + 6) := ab_mul h.bq (by omega)
  have mz : Mu 2 z = true := mu_l (by decide)
  have mq : Mu Q w = true := mu_l (by omega)
  obtain ⟨y, hy⟩ : ∃ y, y = if d4 = 0 then x + f else x + Q * w := ⟨_, rfl⟩
  have yb : y.natAbs < 2 ^ 20 := by rw [hy]; split <;> omega
  have xb : x.natAbs < 2 ^ 20 := by omega
  obtain ⟨g, hg⟩ : ∃ g, g = if P = 0 then 1 else (Int.gcd P Q : Int) := ⟨_, rfl⟩
  have g0 : Int.gcd P Q ≠ 0 := Int.gcd_ne_zero_right (by omega)
  have gl : (Int.gcd P Q : Int) ≤ Q := by
    have := Int.gcd_le_natAbs_right P (b := Q) (by omega)
    omega
  have gb : 1 ≤ g ∧ g ≤ 40 := by rw [hg]; split <;> omega
  obtain ⟨b, hb⟩ : ∃ b, b = if P = 0 then 1 else Q.fdiv g := ⟨_, rfl⟩
  have same : (plc t x = plc t y) ↔ (x - y).fmod b = 0 := by
    rw [h.ht, plc_pair q1]
    by_cases hp : P = 0
    · rw [hb, if_pos hp, hp]
      simp
    · rw [hb, if_neg hp, hg, if_neg hp]
      exact dvd_gcd q1 hp
  have b0 : ¬ b = 0 := by
    rw [hb]
    split
    · omega
    · rename_i hp
      rw [hg, if_neg hp]
      intro z
      obtain ⟨c, hc⟩ := Int.gcd_dvd_right (a := P) (b := Q)
      have : Q.fdiv (Int.gcd P Q) = c := by
        conv => lhs; rw [hc]
        have : (↑(Int.gcd P (↑(Int.gcd P Q) * c)) : Int) = (Int.gcd P Q : Int) := by rw [← hc]
        rw [this]
        exact Int.mul_fdiv_cancel_left _ (by omega)
      rw [this] at z
      rw [z] at hc
      omega
  obtain ⟨X, hX⟩ : ∃ X, X = jar c4 a4 r4 :: T := ⟨_, rfl⟩
  have dv := s_divisor (k + 6) (a := if P < 0 then -P else P) (b := Q) (by split <;> omega) (by omega) (by omega) X
  have dv2 : (Int.gcd (if P < 0 then -P else P) Q : Int) = Int.gcd P Q := by split <;> simp [Int.neg_gcd]
  rw [dv2] at dv
  have p1 := s_place' k (s := s) lt (ab_mono xb (by omega)) X
  have p2 := s_place' k (s := s) lt (ab_mono yb (by omega)) X
  have pe := s_eq (k + 6) (plc t x) (plc t y) X
  refine ⟨c4, a4, r4, ?_, J4.mono (by omega)⟩
  rw [← hX] at e4 ⊢
  generalize plc t x = px at *
  generalize plc t y = py at *
  let F := fun v3 v4 v5 v6 v7 v8 v9 v10 => (⟨[some (.cell 0), some (poD P Q N M), some (st t s), v3, v4, v5, v6, v7, v8, v9, v10], none⟩ : Fr)
  show finF (evSs p (run p (k + 7)) b__law_pair_right (F none none none none none none none none) _) = _
  unfold b__law_pair_right
  rw [ss_cons (fr' := F none none none none (some (.int P)) (some (.int Q)) none none) (S' := jar cs a r :: T) (by simp [F, evSs, evS, evE, evEs, evO, evT, evI, Res.bind, Res.bindL, Res.bindO, ResL.bind, ResL.bindL, ResL.bindO, Mi.start, truth, callM, fill, newM, selfM, putM, putMs, putD, noExc, putP, putPs, evPar, elems, cmpM, cmpI, bin_ii, biM, neg_i, lenB, isND, idxM, iniM, partD, asBool, flipB, eqM_ii, eqM_ss, eqM_bb, eqM_rr, eqM_ri, neM_ii, neM_ss, neM_bb, neM_rr, neM_ri, ks_ra, ks_i, ks_s, ks_l, ks_t, at_top, at_bot, bin_ra_add, bin_ra_sub, bin_ra_mul, bin_ra_addi, bin_ra_subi, bin_ra_muli, neg_ra, raisM, k_0_0, k_0_1, k_0_2, k_0_3, k_1_0, k_1_1, k_1_2, k_1_3, k_int_0, k_int_1, k_int_2, k_int_3, k_str_0, k_str_1, k_str_2, k_str_3, k_list_0, k_list_1, k_list_2, k_list_3, k_tuple_0, k_tuple_1, k_tuple_2, k_tuple_3, k_NoneType_0, k_NoneType_1, k_NoneType_2, k_NoneType_3, g_0, List.lookup, poD, at0, at1]) rfl]
  rw [ss_cons (fr' := F (some (.int z)) none none none (some (.int P)) (some (.int Q)) none none) (S' := jar c1 a1 r1 :: T) (by simp [F, evSs, evS, evE, evEs, evO, evT, evI, Res.bind, Res.bindL, Res.bindO, ResL.bind, ResL.bindL, ResL.bindO, Mi.start, truth, callM, fill, newM, selfM, putM, putMs, putD, noExc, putP, putPs, evPar, elems, cmpM, cmpI, bin_ii, biM, neg_i, lenB, isND, idxM, iniM, partD, asBool, flipB, eqM_ii, eqM_ss, eqM_bb, eqM_rr, eqM_ri, neM_ii, neM_ss, neM_bb, neM_rr, neM_ri, ks_ra, ks_i, ks_s, ks_l, ks_t, at_top, at_bot, bin_ra_add, bin_ra_sub, bin_ra_mul, bin_ra_addi, bin_ra_subi, bin_ra_muli, neg_ra, raisM, k_0_0, k_0_1, k_0_2, k_0_3, k_1_0, k_1_1, k_1_2, k_1_3, k_int_0, k_int_1, k_int_2, k_int_3, k_str_0, k_str_1, k_str_2, k_str_3, k_list_0, k_list_1, k_list_2, k_list_3, k_tuple_0, k_tuple_1, k_tuple_2, k_tuple_3, k_NoneType_0, k_NoneType_1, k_NoneType_2, k_NoneType_3, g_0, List.lookup, f_8, e1, lim]) rfl]
  rw [ss_cons (fr' := F (some (.int z)) none none none (some (.int P)) (some (.int Q)) (some (.int x)) (some (.int f))) (S' := jar c3 a3 r3 :: T) (by simp [F, evSs, evS, evE, evEs, evO, evT, evI, Res.bind, Res.bindL, Res.bindO, ResL.bind, ResL.bindL, ResL.bindO, Mi.start, truth, callM, fill, newM, selfM, putM, putMs, putD, noExc, putP, putPs, evPar, elems, cmpM, cmpI, bin_ii, biM, neg_i, lenB, isND, idxM, iniM, partD, asBool, flipB, eqM_ii, eqM_ss, eqM_bb, eqM_rr, eqM_ri, neM_ii, neM_ss, neM_bb, neM_rr, neM_ri, ks_ra, ks_i, ks_s, ks_l, ks_t, at_top, at_bot, bin_ra_add, bin_ra_sub, bin_ra_mul, bin_ra_addi, bin_ra_subi, bin_ra_muli, neg_ra, raisM, k_0_0, k_0_1, k_0_2, k_0_3, k_1_0, k_1_1, k_1_2, k_1_3, k_int_0, k_int_1, k_int_2, k_int_3, k_str_0, k_str_1, k_str_2, k_str_3, k_list_0, k_list_1, k_list_2, k_list_3, k_tuple_0, k_tuple_1, k_tuple_2, k_tuple_3, k_NoneType_0, k_NoneType_1, k_NoneType_2, k_NoneType_3, g_0, List.lookup, f_7, mz, e2, e3, hx, hf]) rfl]
  rw [ss_cons (fr' := F (some (.int z)) (some (.int y)) none none (some (.int P)) (some (.int Q)) (some (.int x)) (some (.int f))) (S' := X) (by
    by_cases h4 : d4 = 0
    · simp [F, evSs, evS, evE, evEs, evO, evT, evI, Res.bind, Res.bindL, Res.bindO, ResL.bind, ResL.bindL, ResL.bindO, Mi.start, truth, callM, fill, newM, selfM, putM, putMs, putD, noExc, putP, putPs, evPar, elems, cmpM, cmpI, bin_ii, biM, neg_i, lenB, isND, idxM, iniM, partD, asBool, flipB, eqM_ii, eqM_ss, eqM_bb, eqM_rr, eqM_ri, neM_ii, neM_ss, neM_bb, neM_rr, neM_ri, ks_ra, ks_i, ks_s, ks_l, ks_t, at_top, at_bot, bin_ra_add, bin_ra_sub, bin_ra_mul, bin_ra_addi, bin_ra_subi, bin_ra_muli, neg_ra, raisM, k_0_0, k_0_1, k_0_2, k_0_3, k_1_0, k_1_1, k_1_2, k_1_3, k_int_0, k_int_1, k_int_2, k_int_3, k_str_0, k_str_1, k_str_2, k_str_3, k_list_0, k_list_1, k_list_2, k_list_3, k_tuple_0, k_tuple_1, k_tuple_2, k_tuple_3, k_NoneType_0, k_NoneType_1, k_NoneType_2, k_NoneType_3, g_0, List.lookup, f_7, e4, hy, h4]
    · simp [F, evSs, evS, evE, evEs, evO, evT, evI, Res.bind, Res.bindL, Res.bindO, ResL.bind, ResL.bindL, ResL.bindO, Mi.start, truth, callM, fill, newM, selfM, putM, putMs, putD, noExc, putP, putPs, evPar, elems, cmpM, cmpI, bin_ii, biM, neg_i, lenB, isND, idxM, iniM, partD, asBool, flipB, eqM_ii, eqM_ss, eqM_bb, eqM_rr, eqM_ri, neM_ii, neM_ss, neM_bb, neM_rr, neM_ri, ks_ra, ks_i, ks_s, ks_l, ks_t, at_top, at_bot, bin_ra_add, bin_ra_sub, bin_ra_mul, bin_ra_addi, bin_ra_subi, bin_ra_muli, neg_ra, raisM, k_0_0, k_0_1, k_0_2, k_0_3, k_1_0, k_1_1, k_1_2, k_1_3, k_int_0, k_int_1, k_int_2, k_int_3, k_str_0, k_str_1, k_str_2, k_str_3, k_list_0, k_list_1, k_list_2, k_list_3, k_tuple_0, k_tuple_1, k_tuple_2, k_tuple_3, k_NoneType_0, k_NoneType_1, k_NoneType_2, k_NoneType_3, g_0, List.lookup, f_7, e4, hy, h4, ← hw, mq]) rfl]
  rw [ss_cons (fr' := F (some (.int z)) (some (.int y)) (some (.int g)) none (some (.int P)) (some (.int Q)) (some (.int x)) (some (.int f))) (S' := X) (by
    by_cases hp : P = 0
    · simp [F, evSs, evS, evE, evEs, evO, evT, evI, Res.bind, Res.bindL, Res.bindO, ResL.bind, ResL.bindL, ResL.bindO, Mi.start, truth, callM, fill, newM, selfM, putM, putMs, putD, noExc, putP, putPs, evPar, elems, cmpM, cmpI, bin_ii, biM, neg_i, lenB, isND, idxM, iniM, partD, asBool, flipB, eqM_ii, eqM_ss, eqM_bb, eqM_rr, eqM_ri, neM_ii, neM_ss, neM_bb, neM_rr, neM_ri, ks_ra, ks_i, ks_s, ks_l, ks_t, at_top, at_bot, bin_ra_add, bin_ra_sub, bin_ra_mul, bin_ra_addi, bin_ra_subi, bin_ra_muli, neg_ra, raisM, k_0_0, k_0_1, k_0_2, k_0_3, k_1_0, k_1_1, k_1_2, k_1_3, k_int_0, k_int_1, k_int_2, k_int_3, k_str_0, k_str_1, k_str_2, k_str_3, k_list_0, k_list_1, k_list_2, k_list_3, k_tuple_0, k_tuple_1, k_tuple_2, k_tuple_3, k_NoneType_0, k_NoneType_1, k_NoneType_2, k_NoneType_3, g_0, List.lookup, hg, hp]
    · simp only [F, evS, evE, evEs]
      simp [evSs, evS, evE, evEs, evO, evT, evI, Res.bind, Res.bindL, Res.bindO, ResL.bind, ResL.bindL, ResL.bindO, Mi.start, truth, callM, fill, newM, selfM, putM, putMs, putD, noExc, putP, putPs, evPar, elems, cmpM, cmpI, bin_ii, biM, neg_i, lenB, isND, idxM, iniM, partD, asBool, flipB, eqM_ii, eqM_ss, eqM_bb, eqM_rr, eqM_ri, neM_ii, neM_ss, neM_bb, neM_rr, neM_ri, ks_ra, ks_i, ks_s, ks_l, ks_t, at_top, at_bot, bin_ra_add, bin_ra_sub, bin_ra_mul, bin_ra_addi, bin_ra_subi, bin_ra_muli, neg_ra, raisM, k_0_0, k_0_1, k_0_2, k_0_3, k_1_0, k_1_1, k_1_2, k_1_3, k_int_0, k_int_1, k_int_2, k_int_3, k_str_0, k_str_1, k_str_2, k_str_3, k_list_0, k_list_1, k_list_2, k_list_3, k_tuple_0, k_tuple_1, k_tuple_2, k_tuple_3, k_NoneType_0, k_NoneType_1, k_NoneType_2, k_NoneType_3, g_0, List.lookup, hg, hp, f_12]
      rw [dv]) rfl]
  rw [ss_cons (fr' := F (some (.int z)) (some (.int y)) (some (.int g)) (some (.int b)) (some (.int P)) (some (.int Q)) (some (.int x)) (some (.int f))) (S' := X) (by
    have gz : ¬ g = 0 := by omega
    have gs : Sz g = true := sz_of (show g.natAbs < 2 ^ 6 by omega) (by omega)
    by_cases hp : P = 0
    · simp [F, evSs, evS, evE, evEs, evO, evT, evI, Res.bind, Res.bindL, Res.bindO, ResL.bind, ResL.bindL, ResL.bindO, Mi.start, truth, callM, fill, newM, selfM, putM, putMs, putD, noExc, putP, putPs, evPar, elems, cmpM, cmpI, bin_ii, biM, neg_i, lenB, isND, idxM, iniM, partD, asBool, flipB, eqM_ii, eqM_ss, eqM_bb, eqM_rr, eqM_ri, neM_ii, neM_ss, neM_bb, neM_rr, neM_ri, ks_ra, ks_i, ks_s, ks_l, ks_t, at_top, at_bot, bin_ra_add, bin_ra_sub, bin_ra_mul, bin_ra_addi, bin_ra_subi, bin_ra_muli, neg_ra, raisM, k_0_0, k_0_1, k_0_2, k_0_3, k_1_0, k_1_1, k_1_2, k_1_3, k_int_0, k_int_1, k_int_2, k_int_3, k_str_0, k_str_1, k_str_2, k_str_3, k_list_0, k_list_1, k_list_2, k_list_3, k_tuple_0, k_tuple_1, k_tuple_2, k_tuple_3, k_NoneType_0, k_NoneType_1, k_NoneType_2, k_NoneType_3, g_0, List.lookup, hb, hp]
    · simp [F, evSs, evS, evE, evEs, evO, evT, evI, Res.bind, Res.bindL, Res.bindO, ResL.bind, ResL.bindL, ResL.bindO, Mi.start, truth, callM, fill, newM, selfM, putM, putMs, putD, noExc, putP, putPs, evPar, elems, cmpM, cmpI, bin_ii, biM, neg_i, lenB, isND, idxM, iniM, partD, asBool, flipB, eqM_ii, eqM_ss, eqM_bb, eqM_rr, eqM_ri, neM_ii, neM_ss, neM_bb, neM_rr, neM_ri, ks_ra, ks_i, ks_s, ks_l, ks_t, at_top, at_bot, bin_ra_add, bin_ra_sub, bin_ra_mul, bin_ra_addi, bin_ra_subi, bin_ra_muli, neg_ra, raisM, k_0_0, k_0_1, k_0_2, k_0_3, k_1_0, k_1_1, k_1_2, k_1_3, k_int_0, k_int_1, k_int_2, k_int_3, k_str_0, k_str_1, k_str_2, k_str_3, k_list_0, k_list_1, k_list_2, k_list_3, k_tuple_0, k_tuple_1, k_tuple_2, k_tuple_3, k_NoneType_0, k_NoneType_1, k_NoneType_2, k_NoneType_3, g_0, List.lookup, hb, hp, gz, gs]) rfl]
  simp [finF, F, evSs, evS, evE, evEs, evO, evT, evI, Res.bind, Res.bindL, Res.bindO, ResL.bind, ResL.bindL, ResL.bindO, Mi.start, truth, callM, fill, newM, selfM, putM, putMs, putD, noExc, putP, putPs, evPar, elems, cmpM, cmpI, bin_ii, biM, neg_i, lenB, isND, idxM, iniM, partD, asBool, flipB, eqM_ii, eqM_ss, eqM_bb, eqM_rr, eqM_ri, neM_ii, neM_ss, neM_bb, neM_rr, neM_ri, ks_ra, ks_i, ks_s, ks_l, ks_t, at_top, at_bot, bin_ra_add, bin_ra_sub, bin_ra_mul, bin_ra_addi, bin_ra_subi, bin_ra_muli, neg_ra, raisM, k_0_0, k_0_1, k_0_2, k_0_3, k_1_0, k_1_1, k_1_2, k_1_3, k_int_0, k_int_1, k_int_2, k_int_3, k_str_0, k_str_1, k_str_2, k_str_3, k_list_0, k_list_1, k_list_2, k_list_3, k_tuple_0, k_tuple_1, k_tuple_2, k_tuple_3, k_NoneType_0, k_NoneType_1, k_NoneType_2, k_NoneType_3, g_0, List.lookup, f_13, p1, p2, f_37, pe, b0]
  exact same
theorem s_pushed_right (k : Nat) {P Q N M : Int} {t s : Rat} (h : Ps P Q N M t s) {cs : List Int} {a r e : Int} {T : Store} (J : Jr e cs a r) (he : e < 90000) :
    ∃ cs' a' r', run p (k + 10) (.fn 6 [.cell 0, poD P Q N M, st t s]) (jar cs a r :: T) = .ok (.bl true) (jar cs' a' r' :: T) ∧ Jr (e + 2) cs' a' r' := by
  rw [run_fn f_6 rfl]
  have q1 := h.po.q1
  have q2 := h.po.q2
  have m1 := h.po.m1
  have bP := h.bp
  have bQ := h.bq
  have bN := h.bn
  obtain ⟨d1, c1, a1, r1, e1, l1, u1, J1⟩ := s_dip (k + 8) 11 J (T := T) (by omega) (by omega) (by omega)
  obtain ⟨d2, c2, a2, r2, e2, l2, u2, J2⟩ := s_dip (k + 8) 201 J1 (T := T) (by omega) (by omega) (by omega)
  obtain ⟨n, hn⟩ : ∃ n, n = d1 - 5 := ⟨_, rfl⟩
  obtain ⟨x, hx⟩ : ∃ x, x = d2 - 100 := ⟨_, rfl⟩
  have nb : n.natAbs < 2 ^ 4 := by omega
  have xb : x.natAbs < 2 ^ 40 := by omega
  obtain ⟨X, hX⟩ : ∃ X, X = jar c2 a2 r2 :: T := ⟨_, rfl⟩
  have lt := h.lt.mono (show 7 ≤ 1000 by omega)
  have nq := ab_mul nb bQ
  have n1 := s_ratio (k + 6) (P + n * Q) Q X (by omega) (sz_of bQ (by omega))
  have et : rt (P + n * Q) Q = t + (n : Rat) := by rw [h.ht]; exact more_t q1
  rw [et] at n1
  have n2 := s_ratio (k + 6) N M X (by omega) (sz_of h.bm (by omega))
  rw [← h.hs] at n2
  have n3 := s_ratio (k + 6) (2 * P * n) Q X (by omega) (sz_of bQ (by omega))
  have p2 : (2 * P).natAbs < 2 ^ 8 := by omega
  have l3 : Lw 20 (rt (2 * P * n) Q) := Lw.rt (by omega) (ab_mono (ab_mul p2 nb) (by omega)) (ab_mono bQ (by omega))
  have lnn : Lw 20 ((n * n : Int) : Rat) := Lw.int (ab_mono (ab_mul nb nb) (by omega)) (by omega)
  have g1 := s_add (k + 4) (h.ls.mono (by omega)) (l3.mono (by omega)) (asR.ra _) X
  have lg := h.ls.add l3
  have g2 := s_add (k + 4) (lg.mono (by omega)) (lnn.mono (by omega)) (asR.int (n * n)) X
  obtain ⟨s', hs'⟩ : ∃ s', s' = s + rt (2 * P * n) Q + ((n * n : Int) : Rat) := ⟨_, rfl⟩
  have rise : s' - (t + (n : Rat)) * (t + (n : Rat)) = s - t * t := by rw [hs', h.ht]; exact more_s q1
  rw [← hs'] at g2
  have ls' : Lw 200 s' := by rw [hs']; exact (lg.add lnn).mono (by omega)
  have lt' : Lw 100 (t + (n : Rat)) := (h.lt.add (Lw.int (e := 4) nb (by omega))).mono (by omega)
  have sgn1 : 1 ≤ sgn (s' - (t + (n : Rat)) * (t + (n : Rat))) := by
    rw [rise]
    have hp := h.pos
    have h0 : 0 < (s - t * t).num := by
      have h1 := Rat.num_nonneg.mpr (Rat.le_of_lt hp)
      have h2 : (s - t * t).num ≠ 0 := fun z => by
        rw [Rat.num_eq_zero.mp z] at hp
        exact Rat.lt_irrefl hp
      omega
    unfold sgn
    rw [if_pos h0, if_neg (by omega)]; omega
  have mk := s_stem (k + 1) (asR.ra (t + (n : Rat))) (asR.ra s') (lt'.mono (by omega)) (ls'.mono (by omega)) sgn1 X
  have p1 := s_place' (k + 2) (s := s') (lt'.mono (show 100 ≤ 1000 by omega)) xb X
  have p2 := s_place' (k + 2) (s := s) lt xb X
  rw [plc_more] at p1
  have nr1 := s_nearest (k + 2) (s := s') (lt'.mono (show 100 ≤ 1000 by omega)) xb X
  have nr2 := s_nearest (k + 2) (s := s) lt xb X
  rw [near_more] at nr1
  have nl : (near (t * (x : Rat))).length ≤ 2 := by unfold near; split <;> simp
  generalize plc t x = pl at *
  generalize near (t * (x : Rat)) = L at *
  have e3 := s_eq (k + 7) (s - t * t) (s - t * t) X
  have e4 := s_eq (k + 7) pl pl X
  refine ⟨c2, a2, r2, ?_, J2.mono (by omega)⟩
  rw [← hX] at e2 ⊢
  let F := fun v3 v4 v5 v6 v7 v8 v9 v10 => (⟨[some (.cell 0), some (poD P Q N M), some (st t s), v3, v4, v5, v6, v7, v8, v9, v10], none⟩ : Fr)
  show finF (evSs p (run p (k + 9)) b__law_pushed_right (F none none none none none none none none) _) = _
  unfold b__law_pushed_right
  rw [ss_cons (fr' := F none (some (.int P)) (some (.int Q)) (some (.int N)) (some (.int M)) none none none) (S' := jar cs a r :: T) (by simp [F, evSs, evS, evE, evEs, evO, evT, evI, Res.bind, Res.bindL, Res.bindO, ResL.bind, ResL.bindL, ResL.bindO, Mi.start, truth, callM, fill, newM, selfM, putM, putMs, putD, noExc, putP, putPs, evPar, elems, cmpM, cmpI, bin_ii, biM, neg_i, lenB, isND, idxM, iniM, partD, asBool, flipB, eqM_ii, eqM_ss, eqM_bb, eqM_rr, eqM_ri, neM_ii, neM_ss, neM_bb, neM_rr, neM_ri, ks_ra, ks_i, ks_s, ks_l, ks_t, at_top, at_bot, bin_ra_add, bin_ra_sub, bin_ra_mul, bin_ra_addi, bin_ra_subi, bin_ra_muli, neg_ra, raisM, k_0_0, k_0_1, k_0_2, k_0_3, k_1_0, k_1_1, k_1_2, k_1_3, k_int_0, k_int_1, k_int_2, k_int_3, k_str_0, k_str_1, k_str_2, k_str_3, k_list_0, k_list_1, k_list_2, k_list_3, k_tuple_0, k_tuple_1, k_tuple_2, k_tuple_3, k_NoneType_0, k_NoneType_1, k_NoneType_2, k_NoneType_3, g_0, List.lookup, poD, putP, putPs]) rfl]
  rw [ss_cons (fr' := F none (some (.int P)) (some (.int Q)) (some (.int N)) (some (.int M)) (some (.int n)) (some (.int x)) none) (S' := X) (by simp [F, evSs, evS, evE, evEs, evO, evT, evI, Res.bind, Res.bindL, Res.bindO, ResL.bind, ResL.bindL, ResL.bindO, Mi.start, truth, callM, fill, newM, selfM, putM, putMs, putD, noExc, putP, putPs, evPar, elems, cmpM, cmpI, bin_ii, biM, neg_i, lenB, isND, idxM, iniM, partD, asBool, flipB, eqM_ii, eqM_ss, eqM_bb, eqM_rr, eqM_ri, neM_ii, neM_ss, neM_bb, neM_rr, neM_ri, ks_ra, ks_i, ks_s, ks_l, ks_t, at_top, at_bot, bin_ra_add, bin_ra_sub, bin_ra_mul, bin_ra_addi, bin_ra_subi, bin_ra_muli, neg_ra, raisM, k_0_0, k_0_1, k_0_2, k_0_3, k_1_0, k_1_1, k_1_2, k_1_3, k_int_0, k_int_1, k_int_2, k_int_3, k_str_0, k_str_1, k_str_2, k_str_3, k_list_0, k_list_1, k_list_2, k_list_3, k_tuple_0, k_tuple_1, k_tuple_2, k_tuple_3, k_NoneType_0, k_NoneType_1, k_NoneType_2, k_NoneType_3, g_0, List.lookup, f_7, e1, e2, lim, putP, putPs, hn, hx]) rfl]
  have m1 : Mu n Q = true := mu_l (by omega)
  have m2 : Mu 2 P = true := mu_l (by decide)
  have m3 : Mu (2 * P) n = true := mu_l (by omega)
  have m4 : Mu n n = true := mu_l (by omega)
  have m5 : Mu n x = true := mu_l (by omega)
  rw [ss_cons (fr' := F (some (st (t + (n : Rat)) s')) (some (.int P)) (some (.int Q)) (some (.int N)) (some (.int M)) (some (.int n)) (some (.int x)) none) (S' := X) (by
    simp [F, evSs, evS, evE, evEs, evO, evT, evI, Res.bind, Res.bindL, Res.bindO, ResL.bind, ResL.bindL, ResL.bindO, Mi.start, truth, callM, fill, newM, selfM, putM, putMs, putD, noExc, putP, putPs, evPar, elems, cmpM, cmpI, bin_ii, biM, neg_i, lenB, isND, idxM, iniM, partD, asBool, flipB, eqM_ii, eqM_ss, eqM_bb, eqM_rr, eqM_ri, neM_ii, neM_ss, neM_bb, neM_rr, neM_ri, ks_ra, ks_i, ks_s, ks_l, ks_t, at_top, at_bot, bin_ra_add, bin_ra_sub, bin_ra_mul, bin_ra_addi, bin_ra_subi, bin_ra_muli, neg_ra, raisM, k_0_0, k_0_1, k_0_2, k_0_3, k_1_0, k_1_1, k_1_2, k_1_3, k_int_0, k_int_1, k_int_2, k_int_3, k_str_0, k_str_1, k_str_2, k_str_3, k_list_0, k_list_1, k_list_2, k_list_3, k_tuple_0, k_tuple_1, k_tuple_2, k_tuple_3, k_NoneType_0, k_NoneType_1, k_NoneType_2, k_NoneType_3, g_0, List.lookup, m1, m2, m3, m4, c_0, c_1, f_25, f_27, n1, n2, n3, g1, g2, mk]) rfl]
  rw [ss_cons (fr' := F (some (st (t + (n : Rat)) s')) (some (.int P)) (some (.int Q)) (some (.int N)) (some (.int M)) (some (.int n)) (some (.int x)) none) (S' := X) (s_if_no (by
    have ar : attrM p (run p (k + 9)) (st (t + (n : Rat)) s') 2 X = .ok (ra (s - t * t)) X := by rw [at_rise, rise]
    simp [F, evSs, evS, evE, evEs, evO, evT, evI, Res.bind, Res.bindL, Res.bindO, ResL.bind, ResL.bindL, ResL.bindO, Mi.start, truth, callM, fill, newM, selfM, putM, putMs, putD, noExc, putP, putPs, evPar, elems, cmpM, cmpI, bin_ii, biM, neg_i, lenB, isND, idxM, iniM, partD, asBool, flipB, eqM_ii, eqM_ss, eqM_bb, eqM_rr, eqM_ri, neM_ii, neM_ss, neM_bb, neM_rr, neM_ri, ks_ra, ks_i, ks_s, ks_l, ks_t, at_top, at_bot, bin_ra_add, bin_ra_sub, bin_ra_mul, bin_ra_addi, bin_ra_subi, bin_ra_muli, neg_ra, raisM, k_0_0, k_0_1, k_0_2, k_0_3, k_1_0, k_1_1, k_1_2, k_1_3, k_int_0, k_int_1, k_int_2, k_int_3, k_str_0, k_str_1, k_str_2, k_str_3, k_list_0, k_list_1, k_list_2, k_list_3, k_tuple_0, k_tuple_1, k_tuple_2, k_tuple_3, k_NoneType_0, k_NoneType_1, k_NoneType_2, k_NoneType_3, g_0, List.lookup, ar, at_rise, run_low, e3, f_13, p1, p2, e4])) rfl]
  have cm : evE p (run p (k + 9)) (.comp (.bin .add (.var 10) (.bin .mul (.var 8) (.var 9))) (.slot 10) [10] (.ex (.call 15 (.cons (.var 2) (.cons (.var 9) .nil)))) .none) (F (some (st (t + (n : Rat)) s')) (some (.int P)) (some (.int Q)) (some (.int N)) (some (.int M)) (some (.int n)) (some (.int x)) none) X = .ok (.lst (L.map fun i => .int (i + n * x))) X := by
    refine comp_by (L := L) D.int (fun i => .int (i + n * x)) rfl ?_ (Nat.lt_of_le_of_lt nl (by decide)) (fun i hi => ⟨(F (some (st (t + (n : Rat)) s')) (some (.int P)) (some (.int Q)) (some (.int N)) (some (.int M)) (some (.int n)) (some (.int x)) (some (.int i))).σ, by simp [F, putP, wipeD], by simp [F, evSs, evS, evE, evEs, evO, evT, evI, Res.bind, Res.bindL, Res.bindO, ResL.bind, ResL.bindL, ResL.bindO, Mi.start, truth, callM, fill, newM, selfM, putM, putMs, putD, noExc, putP, putPs, evPar, elems, cmpM, cmpI, bin_ii, biM, neg_i, lenB, isND, idxM, iniM, partD, asBool, flipB, eqM_ii, eqM_ss, eqM_bb, eqM_rr, eqM_ri, neM_ii, neM_ss, neM_bb, neM_rr, neM_ri, ks_ra, ks_i, ks_s, ks_l, ks_t, at_top, at_bot, bin_ra_add, bin_ra_sub, bin_ra_mul, bin_ra_addi, bin_ra_subi, bin_ra_muli, neg_ra, raisM, k_0_0, k_0_1, k_0_2, k_0_3, k_1_0, k_1_1, k_1_2, k_1_3, k_int_0, k_int_1, k_int_2, k_int_3, k_str_0, k_str_1, k_str_2, k_str_3, k_list_0, k_list_1, k_list_2, k_list_3, k_tuple_0, k_tuple_1, k_tuple_2, k_tuple_3, k_NoneType_0, k_NoneType_1, k_NoneType_2, k_NoneType_3, g_0, List.lookup, m5]⟩)
    simp [F, evI, evE, evEs, Res.bind, Res.bindL, ResL.bind, ResL.bindL, callM, fill, f_15, nr2, elems]
  have o : okE (.lst ((L.map fun r => r + n * x).map .int)) X = some (.list ((L.map fun r => r + n * x).map .int)) := okE_ok ((Pl.lst (n := 0) (Pls.map fun i _ => Pl.int i) (by simp; omega)).ok (by omega))
  rw [ss_ret (d := .bl true) (S' := X) (by
    rw [evE]
    have lf : evE p (run p (k + 9)) (.bi .list (.cons (.call 15 (.cons (.var 3) (.cons (.var 9) .nil))) .nil)) (F (some (st (t + (n : Rat)) s')) (some (.int P)) (some (.int Q)) (some (.int N)) (some (.int M)) (some (.int n)) (some (.int x)) none) X = .ok (.lst ((L.map fun r => r + n * x).map .int)) X := by
      simp only [F, evE, evEs]
      simp only [List.map_map] at nr1
      simp [evSs, evS, evE, evEs, evO, evT, evI, Res.bind, Res.bindL, Res.bindO, ResL.bind, ResL.bindL, ResL.bindO, Mi.start, truth, callM, fill, newM, selfM, putM, putMs, putD, noExc, putP, putPs, evPar, elems, cmpM, cmpI, bin_ii, biM, neg_i, lenB, isND, idxM, iniM, partD, asBool, flipB, eqM_ii, eqM_ss, eqM_bb, eqM_rr, eqM_ri, neM_ii, neM_ss, neM_bb, neM_rr, neM_ri, ks_ra, ks_i, ks_s, ks_l, ks_t, at_top, at_bot, bin_ra_add, bin_ra_sub, bin_ra_mul, bin_ra_addi, bin_ra_subi, bin_ra_muli, neg_ra, raisM, k_0_0, k_0_1, k_0_2, k_0_3, k_1_0, k_1_1, k_1_2, k_1_3, k_int_0, k_int_1, k_int_2, k_int_3, k_str_0, k_str_1, k_str_2, k_str_3, k_list_0, k_list_1, k_list_2, k_list_3, k_tuple_0, k_tuple_1, k_tuple_2, k_tuple_3, k_NoneType_0, k_NoneType_1, k_NoneType_2, k_NoneType_3, g_0, List.lookup, f_15, nr1]
    rw [lf]
    simp only [Res.bind]
    rw [cm]
    have e9 : (L.map fun i => D.int (i + n * x)) = (L.map fun r => r + n * x).map .int := by simp [List.map_map, Function.comp_def]
    rw [e9]
    show eqM p _ _ _ X = _
    rw [eqM_pl o o, eqv_lst, eqvA_map (fun x y => eqv_int x y)]
    simp)]
  rfl
end K14
end

section
set_option maxRecDepth 100000
set_option maxHeartbeats 4000000
set_option exponentiation.threshold 9000
namespace K14
open Mi Ma Mg
/-! ### what is refused -/
abbrev HR : HI := ⟨14, "_law_heard", none, 1, .drop, [(0, .tup [.con (.str "stem"), .err 1]), (1, .tup [.con (.str "number"), .err 1])]⟩
section
variable {k : Nat} {S : Store}
theorem h_0 : p.hi[0]? = some HR := rfl
theorem dnc : dnC (run p (k + 2)) = run p k := by
  funext r S
  simp only [dnC, run]
theorem ev_heard {e : ME} {fr : Fr} {r : Res} (h : evE p (run p k) e fr (S ++ [.dead]) = r) : evE p (run p (k + 2)) (.heard 0 e) fr S = hearM p HR r := by
  simp only [evE, dn_lv, if_true, h_0, dnc, h]
theorem hear_stem {x : PySem.Str} : hearM p HR (.exc 0 [(1, .str x)] S) = .ok (.tup [.str "stem", .str x]) S := by
  simp [hearM, pickH, x_0, x_len, errsT, errs, tmM, atsM, atM, flat, okRes]
theorem hear_num {x : PySem.Str} : hearM p HR (.exc 1 [(1, .str x)] S) = .ok (.tup [.str "number", .str x]) S := by
  simp [hearM, pickH, x_1, x_len, errsT, errs, tmM, atsM, atM, flat, okRes]
theorem hear_ok {d : D} : hearM p HR (.ok d S) = .ok .non S := by
  simp [hearM, okM]
end
def NoS (d : D) : Prop := isKs p d [.own 0] = some false
/-- no number from low on below 1 -/
def NoB (d lo : D) : Prop := ∀ (k : Nat) (x : PySem.Str) (S : Store), run p (k + 8) (.fn 17 [d, lo, .str x]) S = .exc 1 [(1, .str x)] S
def NoM (d : D) : Prop := ∀ (k : Nat) (S : Store), run p (k + 2) (.fn 18 [d, .int 1, .int 1000]) S = .ok (.bl false) S
theorem w_stem (k : Nat) {d x y z : D} (h : NoS d) (S : Store) : run p (k + 4) (.fn 10 [d, x, y, z]) S = .exc 0 [(1, .str "stem")] S := by
  rw [run_fn f_10 rfl]
  have e : run p (k + 3) (.fn 16 [d, .str "stem"]) S = .exc 0 [(1, .str "stem")] S := by
    rw [run_fn f_16 rfl]
    unfold NoS at h
    simp [finF, b_need_stem, evSs, evS, evE, evEs, evO, evT, evI, Res.bind, Res.bindL, Res.bindO, ResL.bind, ResL.bindL, ResL.bindO, Mi.start, truth, callM, fill, newM, selfM, putM, putMs, putD, noExc, putP, putPs, evPar, elems, cmpM, cmpI, bin_ii, biM, neg_i, lenB, isND, idxM, iniM, partD, asBool, flipB, eqM_ii, eqM_ss, eqM_bb, eqM_rr, eqM_ri, neM_ii, neM_ss, neM_bb, neM_rr, neM_ri, ks_ra, ks_i, ks_s, ks_l, ks_t, at_top, at_bot, bin_ra_add, bin_ra_sub, bin_ra_mul, bin_ra_addi, bin_ra_subi, bin_ra_muli, neg_ra, raisM, k_0_0, k_0_1, k_0_2, k_0_3, k_1_0, k_1_1, k_1_2, k_1_3, k_int_0, k_int_1, k_int_2, k_int_3, k_str_0, k_str_1, k_str_2, k_str_3, k_list_0, k_list_1, k_list_2, k_list_3, k_tuple_0, k_tuple_1, k_tuple_2, k_tuple_3, k_NoneType_0, k_NoneType_1, k_NoneType_2, k_NoneType_3, g_0, List.lookup, h, dn_lv, x_len, x_0, raisM]
  simp [finF, b_first_within, evSs, evS, evE, evEs, evO, evT, evI, Res.bind, Res.bindL, Res.bindO, ResL.bind, ResL.bindL, ResL.bindO, Mi.start, truth, callM, fill, newM, selfM, putM, putMs, putD, noExc, putP, putPs, evPar, elems, cmpM, cmpI, bin_ii, biM, neg_i, lenB, isND, idxM, iniM, partD, asBool, flipB, eqM_ii, eqM_ss, eqM_bb, eqM_rr, eqM_ri, neM_ii, neM_ss, neM_bb, neM_rr, neM_ri, ks_ra, ks_i, ks_s, ks_l, ks_t, at_top, at_bot, bin_ra_add, bin_ra_sub, bin_ra_mul, bin_ra_addi, bin_ra_subi, bin_ra_muli, neg_ra, raisM, k_0_0, k_0_1, k_0_2, k_0_3, k_1_0, k_1_1, k_1_2, k_1_3, k_int_0, k_int_1, k_int_2, k_int_3, k_str_0, k_str_1, k_str_2, k_str_3, k_list_0, k_list_1, k_list_2, k_list_3, k_tuple_0, k_tuple_1, k_tuple_2, k_tuple_3, k_NoneType_0, k_NoneType_1, k_NoneType_2, k_NoneType_3, g_0, List.lookup, f_16, e]
section
variable {t s lo : Rat} {x y z : D} {S : Store}
theorem w_low (k : Nat) (h : NoB x (.int 0)) : run p (k + 9) (.fn 10 [st t s, x, y, z]) S = .exc 1 [(1, .str "low")] S := by
  rw [run_fn f_10 rfl]
  simp [finF, b_first_within, evSs, evS, evE, evEs, evO, evT, evI, Res.bind, Res.bindL, Res.bindO, ResL.bind, ResL.bindL, ResL.bindO, Mi.start, truth, callM, fill, newM, selfM, putM, putMs, putD, noExc, putP, putPs, evPar, elems, cmpM, cmpI, bin_ii, biM, neg_i, lenB, isND, idxM, iniM, partD, asBool, flipB, eqM_ii, eqM_ss, eqM_bb, eqM_rr, eqM_ri, neM_ii, neM_ss, neM_bb, neM_rr, neM_ri, ks_ra, ks_i, ks_s, ks_l, ks_t, at_top, at_bot, bin_ra_add, bin_ra_sub, bin_ra_mul, bin_ra_addi, bin_ra_subi, bin_ra_muli, neg_ra, raisM, k_0_0, k_0_1, k_0_2, k_0_3, k_1_0, k_1_1, k_1_2, k_1_3, k_int_0, k_int_1, k_int_2, k_int_3, k_str_0, k_str_1, k_str_2, k_str_3, k_list_0, k_list_1, k_list_2, k_list_3, k_tuple_0, k_tuple_1, k_tuple_2, k_tuple_3, k_NoneType_0, k_NoneType_1, k_NoneType_2, k_NoneType_3, g_0, List.lookup, f_16, s_need_stem, f_17, h k]
theorem w_high (k : Nat) (h0 : ¬ lo < 0) (h1 : lo < 1) (ll : Lw 3900 lo) (h : NoB y (ra lo)) : run p (k + 9) (.fn 10 [st t s, ra lo, y, z]) S = .exc 1 [(1, .str "high")] S := by
  rw [run_fn f_10 rfl]
  have e1 := s_below_ok k (asR.ra lo) (asR.int 0) ll (Lw.int (by decide) (by omega)) (by simpa using h0) h1 "low" S
  simp [finF, b_first_within, evSs, evS, evE, evEs, evO, evT, evI, Res.bind, Res.bindL, Res.bindO, ResL.bind, ResL.bindL, ResL.bindO, Mi.start, truth, callM, fill, newM, selfM, putM, putMs, putD, noExc, putP, putPs, evPar, elems, cmpM, cmpI, bin_ii, biM, neg_i, lenB, isND, idxM, iniM, partD, asBool, flipB, eqM_ii, eqM_ss, eqM_bb, eqM_rr, eqM_ri, neM_ii, neM_ss, neM_bb, neM_rr, neM_ri, ks_ra, ks_i, ks_s, ks_l, ks_t, at_top, at_bot, bin_ra_add, bin_ra_sub, bin_ra_mul, bin_ra_addi, bin_ra_subi, bin_ra_muli, neg_ra, raisM, k_0_0, k_0_1, k_0_2, k_0_3, k_1_0, k_1_1, k_1_2, k_1_3, k_int_0, k_int_1, k_int_2, k_int_3, k_str_0, k_str_1, k_str_2, k_str_3, k_list_0, k_list_1, k_list_2, k_list_3, k_tuple_0, k_tuple_1, k_tuple_2, k_tuple_3, k_NoneType_0, k_NoneType_1, k_NoneType_2, k_NoneType_3, g_0, List.lookup, f_16, s_need_stem, f_17, e1, h k]
theorem w_most (k : Nat) (h0 : ¬ lo < 0) (h1 : lo < 1) (ll : Lw 3900 lo) (h : NoM z) : run p (k + 9) (.fn 10 [st t s, ra lo, ra lo, z]) S = .exc 1 [(1, .str "most")] S := by
  rw [run_fn f_10 rfl]
  have e1 := s_below_ok k (asR.ra lo) (asR.int 0) ll (Lw.int (by decide) (by omega)) (by simpa using h0) h1 "low" S
  have e2 := s_below_ok k (asR.ra lo) (asR.ra lo) ll ll (Rat.lt_irrefl) h1 "high" S
  simp [finF, b_first_within, evSs, evS, evE, evEs, evO, evT, evI, Res.bind, Res.bindL, Res.bindO, ResL.bind, ResL.bindL, ResL.bindO, Mi.start, truth, callM, fill, newM, selfM, putM, putMs, putD, noExc, putP, putPs, evPar, elems, cmpM, cmpI, bin_ii, biM, neg_i, lenB, isND, idxM, iniM, partD, asBool, flipB, eqM_ii, eqM_ss, eqM_bb, eqM_rr, eqM_ri, neM_ii, neM_ss, neM_bb, neM_rr, neM_ri, ks_ra, ks_i, ks_s, ks_l, ks_t, at_top, at_bot, bin_ra_add, bin_ra_sub, bin_ra_mul, bin_ra_addi, bin_ra_subi, bin_ra_muli, neg_ra, raisM, k_0_0, k_0_1, k_0_2, k_0_3, k_1_0, k_1_1, k_1_2, k_1_3, k_int_0, k_int_1, k_int_2, k_int_3, k_str_0, k_str_1, k_str_2, k_str_3, k_list_0, k_list_1, k_list_2, k_list_3, k_tuple_0, k_tuple_1, k_tuple_2, k_tuple_3, k_NoneType_0, k_NoneType_1, k_NoneType_2, k_NoneType_3, g_0, List.lookup, f_16, s_need_stem, f_17, e1, e2, f_18, g_0, h (k + 6), dn_lv, x_len, x_1, raisM]
end
theorem nob_nor {d lo : D} (h : NoR d) : NoB d lo := fun k x S => s_below_nor k h x S
theorem nob_of {d e : D} {q r : Rat} (hd : asR d q) (he : asR e r) (hq : Lw 3900 q) (hr : Lw 3900 r) (h : q < r ∨ ¬ q < 1) : NoB d e := fun k x S => s_below_no k hd he hq hr h x S
theorem nom_int {i : Int} (h : ¬ (1 ≤ i ∧ i ≤ 1000)) : NoM (.int i) := fun k S => by
  rw [s_within k S]
  have : (decide (1 ≤ i) && decide (i ≤ 1000)) = false := by
    rw [← Bool.decide_and]; exact decide_eq_false h
  rw [this]
theorem nom_no {d : D} (h : (isKs p d [.ty "int"] = some false) ∨ ∃ b, d = .bl b) : NoM d := fun k S => s_within_no k S h
theorem isi_ra {q : Rat} : isKs p (ra q) [.ty "int"] = some false := by rw [ks_ra]; rfl
theorem s_refused (k : Nat) {P Q N M : Int} {t s : Rat} (h : Ps P Q N M t s) {cs : List Int} {a r e : Int} {T : Store} (J : Jr e cs a r) (he : e < 90000) :
    ∃ cs' a' r' T', run p (k + 14) (.fn 5 [.cell 0, st t s]) (jar cs a r :: T) = .ok (.bl true) (jar cs' a' r' :: T') ∧ Jr (e + 5) cs' a' r' := by
  rw [run_fn f_5 rfl]
  have b9 : (9 : Int).natAbs < 2 ^ 10 := by decide
  have lt := h.lt.mono (show 7 ≤ 1000 by omega)
  obtain ⟨odd, c1, a1, r1, e1, m1, J1⟩ := s_of (k + 11) (l := [.non, .str "1/2 1", .int 3, .tup [.int 1, .int 2], ra t]) J (T := T) (by omega) (by simp) (by simp)
  have ho : NoS odd := by
    simp only [List.mem_cons, List.not_mem_nil, or_false] at m1
    rcases m1 with rfl | rfl | rfl | rfl | rfl <;> rfl
  have n1 := s_ratio (k + 10) (-1) 9 (jar c1 a1 r1 :: T) (by omega) (by decide)
  have n2 := s_ratio (k + 10) 9 8 (jar c1 a1 r1 :: T) (by omega) (by decide)
  obtain ⟨bad, c2, a2, r2, e2, m2, J2⟩ := s_of (k + 11) (l := [.non, .bl true, .str "0", .int (-1), .int 1, ra (rt (-1) 9), ra (rt 9 8), .lst [.int 0]]) J1 (T := T) (by omega) (by simp) (by simp)
  have l0 : Lw 3900 ((0 : Int) : Rat) := Lw.int (by decide) (by omega)
  have hb : NoB bad (.int 0) := by
    simp only [List.mem_cons, List.not_mem_nil, or_false] at m2
    rcases m2 with rfl | rfl | rfl | rfl | rfl | rfl | rfl | rfl
    · exact nob_nor (nor_of rfl (.inl rfl))
    · exact nob_nor (nor_of rfl (.inr ⟨_, rfl⟩))
    · exact nob_nor (nor_of rfl (.inl rfl))
    · exact nob_of (asR.int (-1)) (asR.int 0) (Lw.int (by decide) (by omega)) l0 (.inl (by decide))
    · exact nob_of (asR.int 1) (asR.int 0) (Lw.int (by decide) (by omega)) l0 (.inr (by decide))
    · exact nob_of (asR.ra _) (asR.int 0) (Lw.rt (by omega) (by decide) (by decide)) l0 (.inl (by decide +kernel))
    · exact nob_of (asR.ra _) (asR.int 0) (Lw.rt (by omega) (by decide) (by decide)) l0 (.inr (by decide +kernel))
    · exact nob_nor (nor_of rfl (.inl rfl))
  have n3 := s_ratio (k + 10) 1 1 (jar c2 a2 r2 :: T) (by omega) (by decide)
  obtain ⟨non, c3, a3, r3, e3, m3, J3⟩ := s_of (k + 11) (l := [.int 0, .int (-1), .int 1001, .bl true, .non, .str "1", ra (rt 1 1), .lst [.int 5]]) J2 (T := T) (by omega) (by simp) (by simp)
  have hn : NoM non := by
    simp only [List.mem_cons, List.not_mem_nil, or_false] at m3
    rcases m3 with rfl | rfl | rfl | rfl | rfl | rfl | rfl | rfl
    · exact nom_int (by omega)
    · exact nom_int (by omega)
    · exact nom_int (by omega)
    · exact nom_no (.inr ⟨_, rfl⟩)
    · exact nom_no (.inl rfl)
    · exact nom_no (.inl rfl)
    · exact nom_no (.inl isi_ra)
    · exact nom_no (.inl rfl)
  obtain ⟨d4, c4, a4, r4, e4, l4, u4, J4⟩ := s_dip (k + 12) 9 J3 (T := T) (by omega) (by omega) (by omega)
  obtain ⟨lo, hlo⟩ : ∃ lo, lo = rt (1 + d4) 10 := ⟨_, rfl⟩
  have llo : Lw 10 lo := by rw [hlo]; exact Lw.rt (by omega) (by omega) (by decide)
  have lo0 : ¬ lo < 0 := by
    rw [hlo]; exact (rt_nonneg (by omega)).mpr (by omega)
  have lo1 : lo < 1 := by
    rw [hlo]; exact (rt_lt_one (by omega)).mpr (by omega)
  have n4 := s_ratio (k + 10) (1 + d4) 10 (jar c4 a4 r4 :: T) (by omega) (by decide)
  rw [← hlo] at n4
  have n5 := s_ratio (k + 10) 1 90 (jar c4 a4 r4 :: T) (by omega) (by decide)
  have l90 : Lw 10 (rt 1 90) := Lw.rt (by omega) (by decide) (by decide)
  have n6 := s_sub (k + 8) (llo.mono (by omega)) (l90.mono (by omega)) (asR.ra _) (jar c4 a4 r4 :: T)
  have n7 := s_ratio (k + 10) 10 9 (jar c4 a4 r4 :: T) (by omega) (by decide)
  obtain ⟨less, c5, a5, r5, e5, m5, J5⟩ := s_of (k + 11) (l := [ra (lo - rt 1 90), .int 0, .int 1, .non, .bl true, ra (rt 10 9), .str "1/2"]) J4 (T := T) (by omega) (by simp) (by simp)
  have hl : NoB less (ra lo) := by
    have llo' := llo.mono (show 10 ≤ 3900 by omega)
    simp only [List.mem_cons, List.not_mem_nil, or_false] at m5
    rcases m5 with rfl | rfl | rfl | rfl | rfl | rfl | rfl
    · refine nob_of (asR.ra _) (asR.ra lo) ((llo.sub l90).mono (by omega)) llo' (.inl ?_)
      have : (0 : Rat) < rt 1 90 := by decide +kernel
      grind
    · refine nob_of (asR.int 0) (asR.ra lo) l0 llo' (.inl ?_)
      have := rt_lt (a := 0) (b := 1) (c := 1 + d4) (d := 10) (by omega) (by omega)
      rw [rt_one] at this
      rw [hlo, this]; omega
    · exact nob_of (asR.int 1) (asR.ra lo) (Lw.int (by decide) (by omega)) llo' (.inr (by decide))
    · exact nob_nor (nor_of rfl (.inl rfl))
    · exact nob_nor (nor_of rfl (.inr ⟨_, rfl⟩))
    · exact nob_of (asR.ra _) (asR.ra lo) (Lw.rt (by omega) (by decide) (by decide)) llo' (.inr (by decide +kernel))
    · exact nob_nor (nor_of rfl (.inl rfl))
  let F := fun v2 v3 v4 v5 v6 v7 => (⟨[some (.cell 0), some (st t s), v2, v3, v4, v5, v6, v7], none⟩ : Fr)
  refine ⟨c5, a5, r5, T ++ [.dead] ++ [.lst [.tup [.str "stem", .str "stem"], .tup [.str "number", .str "low"], .tup [.str "number", .str "high"], .tup [.str "number", .str "most"], .non]] ++ [.dead] ++ [.dead] ++ [.dead] ++ [.dead], ?_, J5.mono (by omega)⟩
  obtain ⟨Y, hY⟩ : ∃ Y, Y = jar c5 a5 r5 :: T ++ [.dead] := ⟨_, rfl⟩
  show finF (evSs p (run p (k + 13)) b__law_refused_right (F none none none none none none) _) = _
  unfold b__law_refused_right
  rw [ss_cons (fr' := F none none (some odd) (some bad) none none) (S' := jar c2 a2 r2 :: T) (by
    simp only [F, evS, evE, evEs]
    simp [evSs, evS, evE, evEs, evO, evT, evI, Res.bind, Res.bindL, Res.bindO, ResL.bind, ResL.bindL, ResL.bindO, Mi.start, truth, callM, fill, newM, selfM, putM, putMs, putD, noExc, putP, putPs, evPar, elems, cmpM, cmpI, bin_ii, biM, neg_i, lenB, isND, idxM, iniM, partD, asBool, flipB, eqM_ii, eqM_ss, eqM_bb, eqM_rr, eqM_ri, neM_ii, neM_ss, neM_bb, neM_rr, neM_ri, ks_ra, ks_i, ks_s, ks_l, ks_t, at_top, at_bot, bin_ra_add, bin_ra_sub, bin_ra_mul, bin_ra_addi, bin_ra_subi, bin_ra_muli, neg_ra, raisM, k_0_0, k_0_1, k_0_2, k_0_3, k_1_0, k_1_1, k_1_2, k_1_3, k_int_0, k_int_1, k_int_2, k_int_3, k_str_0, k_str_1, k_str_2, k_str_3, k_list_0, k_list_1, k_list_2, k_list_3, k_tuple_0, k_tuple_1, k_tuple_2, k_tuple_3, k_NoneType_0, k_NoneType_1, k_NoneType_2, k_NoneType_3, g_0, List.lookup, at_turn, lim, f_8, e1, c_1, f_27, n1, n2, e2, putP, putPs]) rfl]
  rw [ss_cons (fr' := F none none (some odd) (some bad) (some non) (some (ra lo))) (S' := jar c4 a4 r4 :: T) (by
    simp only [F, evS, evE, evEs]
    simp [evSs, evS, evE, evEs, evO, evT, evI, Res.bind, Res.bindL, Res.bindO, ResL.bind, ResL.bindL, ResL.bindO, Mi.start, truth, callM, fill, newM, selfM, putM, putMs, putD, noExc, putP, putPs, evPar, elems, cmpM, cmpI, bin_ii, biM, neg_i, lenB, isND, idxM, iniM, partD, asBool, flipB, eqM_ii, eqM_ss, eqM_bb, eqM_rr, eqM_ri, neM_ii, neM_ss, neM_bb, neM_rr, neM_ri, ks_ra, ks_i, ks_s, ks_l, ks_t, at_top, at_bot, bin_ra_add, bin_ra_sub, bin_ra_mul, bin_ra_addi, bin_ra_subi, bin_ra_muli, neg_ra, raisM, k_0_0, k_0_1, k_0_2, k_0_3, k_1_0, k_1_1, k_1_2, k_1_3, k_int_0, k_int_1, k_int_2, k_int_3, k_str_0, k_str_1, k_str_2, k_str_3, k_list_0, k_list_1, k_list_2, k_list_3, k_tuple_0, k_tuple_1, k_tuple_2, k_tuple_3, k_NoneType_0, k_NoneType_1, k_NoneType_2, k_NoneType_3, g_0, List.lookup, lim, f_8, f_7, c_1, f_27, n3, e3, e4, n4, putP, putPs]) rfl]
  rw [ss_cons (fr' := F (some less) none (some odd) (some bad) (some non) (some (ra lo))) (S' := jar c5 a5 r5 :: T) (by
    simp only [F, evS, evE, evEs]
    simp [evSs, evS, evE, evEs, evO, evT, evI, Res.bind, Res.bindL, Res.bindO, ResL.bind, ResL.bindL, ResL.bindO, Mi.start, truth, callM, fill, newM, selfM, putM, putMs, putD, noExc, putP, putPs, evPar, elems, cmpM, cmpI, bin_ii, biM, neg_i, lenB, isND, idxM, iniM, partD, asBool, flipB, eqM_ii, eqM_ss, eqM_bb, eqM_rr, eqM_ri, neM_ii, neM_ss, neM_bb, neM_rr, neM_ri, ks_ra, ks_i, ks_s, ks_l, ks_t, at_top, at_bot, bin_ra_add, bin_ra_sub, bin_ra_mul, bin_ra_addi, bin_ra_subi, bin_ra_muli, neg_ra, raisM, k_0_0, k_0_1, k_0_2, k_0_3, k_1_0, k_1_1, k_1_2, k_1_3, k_int_0, k_int_1, k_int_2, k_int_3, k_str_0, k_str_1, k_str_2, k_str_3, k_list_0, k_list_1, k_list_2, k_list_3, k_tuple_0, k_tuple_1, k_tuple_2, k_tuple_3, k_NoneType_0, k_NoneType_1, k_NoneType_2, k_NoneType_3, g_0, List.lookup, lim, f_8, f_7, c_1, f_27, n5, n6, n7, e5]) rfl]
  let G := F (some less) (some (.cell Y.length)) (some odd) (some bad) (some non) (some (ra lo))
  rw [ss_cons (fr' := G) (S' := Y ++ .lst [.tup [.str "stem", .str "stem"]] :: []) (by
    have hh : evE p (run p (k + 13)) (.heard 0 (.call 10 (.cons (.var 4) (.cons (.var 5) (.cons (.var 5) (.cons (.var 6) .nil)))))) (F (some less) none (some odd) (some bad) (some non) (some (ra lo))) (jar c5 a5 r5 :: T) = .ok (.tup [.str "stem", .str "stem"]) Y := by
      refine (ev_heard (k := k + 11) (r := .exc 0 [(1, .str "stem")] Y) ?_).trans hear_stem
      rw [hY]
      simp [F, evSs, evS, evE, evEs, evO, evT, evI, Res.bind, Res.bindL, Res.bindO, ResL.bind, ResL.bindL, ResL.bindO, Mi.start, truth, callM, fill, newM, selfM, putM, putMs, putD, noExc, putP, putPs, evPar, elems, cmpM, cmpI, bin_ii, biM, neg_i, lenB, isND, idxM, iniM, partD, asBool, flipB, eqM_ii, eqM_ss, eqM_bb, eqM_rr, eqM_ri, neM_ii, neM_ss, neM_bb, neM_rr, neM_ri, ks_ra, ks_i, ks_s, ks_l, ks_t, at_top, at_bot, bin_ra_add, bin_ra_sub, bin_ra_mul, bin_ra_addi, bin_ra_subi, bin_ra_muli, neg_ra, raisM, k_0_0, k_0_1, k_0_2, k_0_3, k_1_0, k_1_1, k_1_2, k_1_3, k_int_0, k_int_1, k_int_2, k_int_3, k_str_0, k_str_1, k_str_2, k_str_3, k_list_0, k_list_1, k_list_2, k_list_3, k_tuple_0, k_tuple_1, k_tuple_2, k_tuple_3, k_NoneType_0, k_NoneType_1, k_NoneType_2, k_NoneType_3, g_0, List.lookup, f_10, w_stem (k + 7) ho]
    rw [evS, evE, evEs, hh]
    simp [Res.bindL, evEs, ResL.bindL, ResL.bind, lim, Res.bindO, F, G, putP]) rfl]
  have hv : G.σ[3]? = some (some (.cell Y.length)) := rfl
  have h2 (l : List D) (Z : Store) : evE p (run p (k + 13)) (.heard 0 (.call 10 (.cons (.var 1) (.cons (.var 5) (.cons (.var 5) (.cons (.var 6) .nil)))))) G (Y ++ .lst l :: Z) = .ok (.tup [.str "number", .str "low"]) (Y ++ .lst l :: (Z ++ [.dead])) := by
    refine (ev_heard (k := k + 11) (r := .exc 1 [(1, .str "low")] (Y ++ .lst l :: Z ++ [.dead])) ?_).trans (by rw [hear_num]; simp)
    simp [F, G, evSs, evS, evE, evEs, evO, evT, evI, Res.bind, Res.bindL, Res.bindO, ResL.bind, ResL.bindL, ResL.bindO, Mi.start, truth, callM, fill, newM, selfM, putM, putMs, putD, noExc, putP, putPs, evPar, elems, cmpM, cmpI, bin_ii, biM, neg_i, lenB, isND, idxM, iniM, partD, asBool, flipB, eqM_ii, eqM_ss, eqM_bb, eqM_rr, eqM_ri, neM_ii, neM_ss, neM_bb, neM_rr, neM_ri, ks_ra, ks_i, ks_s, ks_l, ks_t, at_top, at_bot, bin_ra_add, bin_ra_sub, bin_ra_mul, bin_ra_addi, bin_ra_subi, bin_ra_muli, neg_ra, raisM, k_0_0, k_0_1, k_0_2, k_0_3, k_1_0, k_1_1, k_1_2, k_1_3, k_int_0, k_int_1, k_int_2, k_int_3, k_str_0, k_str_1, k_str_2, k_str_3, k_list_0, k_list_1, k_list_2, k_list_3, k_tuple_0, k_tuple_1, k_tuple_2, k_tuple_3, k_NoneType_0, k_NoneType_1, k_NoneType_2, k_NoneType_3, g_0, List.lookup, f_10, w_low (k + 2) hb]
  have h3 (l : List D) (Z : Store) : evE p (run p (k + 13)) (.heard 0 (.call 10 (.cons (.var 1) (.cons (.var 7) (.cons (.var 2) (.cons (.var 6) .nil)))))) G (Y ++ .lst l :: Z) = .ok (.tup [.str "number", .str "high"]) (Y ++ .lst l :: (Z ++ [.dead])) := by
    refine (ev_heard (k := k + 11) (r := .exc 1 [(1, .str "high")] (Y ++ .lst l :: Z ++ [.dead])) ?_).trans (by rw [hear_num]; simp)
    simp [F, G, evSs, evS, evE, evEs, evO, evT, evI, Res.bind, Res.bindL, Res.bindO, ResL.bind, ResL.bindL, ResL.bindO, Mi.start, truth, callM, fill, newM, selfM, putM, putMs, putD, noExc, putP, putPs, evPar, elems, cmpM, cmpI, bin_ii, biM, neg_i, lenB, isND, idxM, iniM, partD, asBool, flipB, eqM_ii, eqM_ss, eqM_bb, eqM_rr, eqM_ri, neM_ii, neM_ss, neM_bb, neM_rr, neM_ri, ks_ra, ks_i, ks_s, ks_l, ks_t, at_top, at_bot, bin_ra_add, bin_ra_sub, bin_ra_mul, bin_ra_addi, bin_ra_subi, bin_ra_muli, neg_ra, raisM, k_0_0, k_0_1, k_0_2, k_0_3, k_1_0, k_1_1, k_1_2, k_1_3, k_int_0, k_int_1, k_int_2, k_int_3, k_str_0, k_str_1, k_str_2, k_str_3, k_list_0, k_list_1, k_list_2, k_list_3, k_tuple_0, k_tuple_1, k_tuple_2, k_tuple_3, k_NoneType_0, k_NoneType_1, k_NoneType_2, k_NoneType_3, g_0, List.lookup, f_10, w_high (k + 2) lo0 lo1 (llo.mono (by omega)) hl]
  have h4 (l : List D) (Z : Store) : evE p (run p (k + 13)) (.heard 0 (.call 10 (.cons (.var 1) (.cons (.var 7) (.cons (.var 7) (.cons (.var 6) .nil)))))) G (Y ++ .lst l :: Z) = .ok (.tup [.str "number", .str "most"]) (Y ++ .lst l :: (Z ++ [.dead])) := by
    refine (ev_heard (k := k + 11) (r := .exc 1 [(1, .str "most")] (Y ++ .lst l :: Z ++ [.dead])) ?_).trans (by rw [hear_num]; simp)
    simp [F, G, evSs, evS, evE, evEs, evO, evT, evI, Res.bind, Res.bindL, Res.bindO, ResL.bind, ResL.bindL, ResL.bindO, Mi.start, truth, callM, fill, newM, selfM, putM, putMs, putD, noExc, putP, putPs, evPar, elems, cmpM, cmpI, bin_ii, biM, neg_i, lenB, isND, idxM, iniM, partD, asBool, flipB, eqM_ii, eqM_ss, eqM_bb, eqM_rr, eqM_ri, neM_ii, neM_ss, neM_bb, neM_rr, neM_ri, ks_ra, ks_i, ks_s, ks_l, ks_t, at_top, at_bot, bin_ra_add, bin_ra_sub, bin_ra_mul, bin_ra_addi, bin_ra_subi, bin_ra_muli, neg_ra, raisM, k_0_0, k_0_1, k_0_2, k_0_3, k_1_0, k_1_1, k_1_2, k_1_3, k_int_0, k_int_1, k_int_2, k_int_3, k_str_0, k_str_1, k_str_2, k_str_3, k_list_0, k_list_1, k_list_2, k_list_3, k_tuple_0, k_tuple_1, k_tuple_2, k_tuple_3, k_NoneType_0, k_NoneType_1, k_NoneType_2, k_NoneType_3, g_0, List.lookup, f_10, w_most (k + 2) lo0 lo1 (llo.mono (by omega)) hn]
  have h5 (l : List D) (Z : Store) : evE p (run p (k + 13)) (.heard 0 (.call 10 (.cons (.var 1) (.cons (.con (.int (0))) (.cons (.new 1 (.cons (.con (.int (999))) (.cons (.con (.int (1000))) .nil))) (.cons (.con (.int (1))) .nil)))))) G (Y ++ .lst l :: Z) = .ok .non (Y ++ .lst l :: (Z ++ [.dead])) := by
    have n8 := s_ratio (k + 8) 999 1000 (Y ++ .lst l :: Z ++ [.dead]) (by omega) (by decide)
    have fw := s_first_within (k + 2) (s := s) (t := t) (M := 1) lt (asR.int 0) (asR.ra (rt 999 1000)) l0 (Lw.rt (by omega) (by decide) (by decide)) (by decide) (by decide) (by decide +kernel) (by decide +kernel) (by omega) (by omega) (Y ++ .lst l :: Z ++ [.dead])
    refine (ev_heard (k := k + 11) (r := .ok (found (rngL 1 (1 : Int).toNat) (cndT t ((0 : Int) : Rat) (rt 999 1000))) (Y ++ .lst l :: Z ++ [.dead])) ?_).trans (by rw [hear_ok]; simp)
    simp only [F, G, evE, evEs]
    simp [evSs, evS, evE, evEs, evO, evT, evI, Res.bind, Res.bindL, Res.bindO, ResL.bind, ResL.bindL, ResL.bindO, Mi.start, truth, callM, fill, newM, selfM, putM, putMs, putD, noExc, putP, putPs, evPar, elems, cmpM, cmpI, bin_ii, biM, neg_i, lenB, isND, idxM, iniM, partD, asBool, flipB, eqM_ii, eqM_ss, eqM_bb, eqM_rr, eqM_ri, neM_ii, neM_ss, neM_bb, neM_rr, neM_ri, ks_ra, ks_i, ks_s, ks_l, ks_t, at_top, at_bot, bin_ra_add, bin_ra_sub, bin_ra_mul, bin_ra_addi, bin_ra_subi, bin_ra_muli, neg_ra, raisM, k_0_0, k_0_1, k_0_2, k_0_3, k_1_0, k_1_1, k_1_2, k_1_3, k_int_0, k_int_1, k_int_2, k_int_3, k_str_0, k_str_1, k_str_2, k_str_3, k_list_0, k_list_1, k_list_2, k_list_3, k_tuple_0, k_tuple_1, k_tuple_2, k_tuple_3, k_NoneType_0, k_NoneType_1, k_NoneType_2, k_NoneType_3, g_0, List.lookup, c_1, f_27, f_10] at n8 fw ⊢
    simp [n8, evSs, evS, evE, evEs, evO, evT, evI, Res.bind, Res.bindL, Res.bindO, ResL.bind, ResL.bindL, ResL.bindO, Mi.start, truth, callM, fill, newM, selfM, putM, putMs, putD, noExc, putP, putPs, evPar, elems, cmpM, cmpI, bin_ii, biM, neg_i, lenB, isND, idxM, iniM, partD, asBool, flipB, eqM_ii, eqM_ss, eqM_bb, eqM_rr, eqM_ri, neM_ii, neM_ss, neM_bb, neM_rr, neM_ri, ks_ra, ks_i, ks_s, ks_l, ks_t, at_top, at_bot, bin_ra_add, bin_ra_sub, bin_ra_mul, bin_ra_addi, bin_ra_subi, bin_ra_muli, neg_ra, raisM, k_0_0, k_0_1, k_0_2, k_0_3, k_1_0, k_1_1, k_1_2, k_1_3, k_int_0, k_int_1, k_int_2, k_int_3, k_str_0, k_str_1, k_str_2, k_str_3, k_list_0, k_list_1, k_list_2, k_list_3, k_tuple_0, k_tuple_1, k_tuple_2, k_tuple_3, k_NoneType_0, k_NoneType_1, k_NoneType_2, k_NoneType_3, g_0, List.lookup, f_10, fw]
  have lm (n : Nat) (h : n < 10) : n < lim := Nat.lt_trans h (by decide)
  rw [ss_cons (s_app hv (h2 _ _) (by exact lm _ (by simp))) rfl]
  rw [ss_cons (s_app hv (h3 _ _) (by exact lm _ (by simp))) rfl]
  rw [ss_cons (s_app hv (h4 _ _) (by exact lm _ (by simp))) rfl]
  rw [ss_cons (s_app hv (h5 _ _) (by exact lm _ (by simp))) rfl]
  have k1 : PySem.PyData.strOk "stem" = true := by decide +kernel
  have k2 : PySem.PyData.strOk "number" = true := by decide +kernel
  have k3 : PySem.PyData.strOk "low" = true := by decide +kernel
  have k4 : PySem.PyData.strOk "high" = true := by decide +kernel
  have k5 : PySem.PyData.strOk "most" = true := by decide +kernel
  have tp {x y : PySem.Str} (h1 : PySem.PyData.strOk x = true) (h2 : PySem.PyData.strOk y = true) : Pl 1 (.tup [.str x, .str y]) (.tuple [.str x, .str y]) := Pl.tup (n := 0) (.cons (.str h1) (.cons (.str h2) .nil)) (by simp)
  obtain ⟨W, hW⟩ : ∃ W : Store, W = Y ++ .lst [.tup [.str "stem", .str "stem"], .tup [.str "number", .str "low"], .tup [.str "number", .str "high"], .tup [.str "number", .str "most"], .non] :: ([] ++ [.dead] ++ [.dead] ++ [.dead] ++ [.dead]) := ⟨_, rfl⟩
  have ok := (Pl.lst (.cons (tp k1 k1) (.cons (tp k2 k3) (.cons (tp k2 k4) (.cons (tp k2 k5) (.cons .non .nil))))) (by simp)).ok (by omega)
  have q := eqM_pl (P := p) (call := run p (k + 13)) (S := W) (okE_cell (n := Y.length) (by rw [hW]; exact get_at _ _ _) ok) (okE_ok ok)
  have q' : eqM p (run p (k + 13)) (.cell Y.length) (.lst [.tup [.str "stem", .str "stem"], .tup [.str "number", .str "low"], .tup [.str "number", .str "high"], .tup [.str "number", .str "most"], .non]) W = .ok (.bl true) W := by
    rw [q]
    simp [eqv_lst, eqv_tup, eqvA_cc, eqvA_nn, eqv_str, PySem.PyData.eqv]
  have fin : finF (evSs p (run p (k + 13)) (.cons (.ret (.cmp .eq (.var 3) (.lst false (.cons (.tup (.cons (.con (.str "stem")) (.cons (.con (.str "stem")) .nil))) (.cons (.tup (.cons (.con (.str "number")) (.cons (.con (.str "low")) .nil))) (.cons (.tup (.cons (.con (.str "number")) (.cons (.con (.str "high")) .nil))) (.cons (.tup (.cons (.con (.str "number")) (.cons (.con (.str "most")) .nil))) (.cons (.con .non) .nil)))))))) .nil) G W) = .ok (.bl true) W := by
    rw [ss_ret (d := .bl true) (S' := W) (by
      simp only [F, G, evE, evEs]
      simp [evSs, evS, evE, evEs, evO, evT, evI, Res.bind, Res.bindL, Res.bindO, ResL.bind, ResL.bindL, ResL.bindO, Mi.start, truth, callM, fill, newM, selfM, putM, putMs, putD, noExc, putP, putPs, evPar, elems, cmpM, cmpI, bin_ii, biM, neg_i, lenB, isND, idxM, iniM, partD, asBool, flipB, eqM_ii, eqM_ss, eqM_bb, eqM_rr, eqM_ri, neM_ii, neM_ss, neM_bb, neM_rr, neM_ri, ks_ra, ks_i, ks_s, ks_l, ks_t, at_top, at_bot, bin_ra_add, bin_ra_sub, bin_ra_mul, bin_ra_addi, bin_ra_subi, bin_ra_muli, neg_ra, raisM, k_0_0, k_0_1, k_0_2, k_0_3, k_1_0, k_1_1, k_1_2, k_1_3, k_int_0, k_int_1, k_int_2, k_int_3, k_str_0, k_str_1, k_str_2, k_str_3, k_list_0, k_list_1, k_list_2, k_list_3, k_tuple_0, k_tuple_1, k_tuple_2, k_tuple_3, k_NoneType_0, k_NoneType_1, k_NoneType_2, k_NoneType_3, g_0, List.lookup, lim] at q' ⊢
      simp [q'])]
    rfl
  refine Eq.trans (b := .ok (.bl true) W) ?_ (by rw [hW, hY]; simp)
  rw [← fin, hW]
  rfl
end K14
end

section
set_option maxRecDepth 100000
set_option maxHeartbeats 4000000
set_option exponentiation.threshold 9000
namespace K14
open Mi Ma Mg
/-! ### the law -/
theorem rng_get {lo : Int} {n j : Nat} {d : D} (h : (rngL lo n)[j]? = some d) : j < n ∧ d = .int (lo + j) := by
  have h1 := (List.getElem?_eq_some_iff.mp h).1
  have hj : j < n := by simpa [rngL] using h1
  refine ⟨hj, ?_⟩
  have h0 : (rngL lo n)[j]? = some (D.int (lo + j)) := by simp [rngL, hj]
  rw [h0] at h
  exact (Option.some.inj h).symm
theorem main (ns : List Int) (hns : ns.length ≤ 63) : ∃ S', run p 60 (.fn 0 [.scr (ns.map .int)]) [] = .ok (.bl true) S' := by
  have e0 := run_pail (n := 62) (i := 62) f_1 rfl (by omega) 58 ns
  obtain ⟨d, S', hr, rfl⟩ : ∃ d S', run p 60 (.fn 0 [.scr (ns.map .int)]) [] = .ok d S' ∧ d = .bl true := by
    refine run_rt f_0 rfl ?_
    let F := fun v1 v2 v3 v4 v5 => (⟨[some (.scr (ns.map .int)), v1, v2, v3, v4, v5], none⟩ : Fr)
    show Rt (evSs p (run p 59) b_law (F none none none none none) []) _
    unfold b_law
    refine Rt.cons (fr' := F (some (.cell 0)) none none none none) (S' := [jar (ns.take 62) 0 0]) (by simp [F, evSs, evS, evE, evEs, evO, evT, evI, Res.bind, Res.bindL, Res.bindO, ResL.bind, ResL.bindL, ResL.bindO, Mi.start, truth, callM, fill, newM, selfM, putM, putMs, putD, noExc, putP, putPs, evPar, elems, cmpM, cmpI, bin_ii, biM, neg_i, lenB, isND, idxM, iniM, partD, asBool, flipB, eqM_ii, eqM_ss, eqM_bb, eqM_rr, eqM_ri, neM_ii, neM_ss, neM_bb, neM_rr, neM_ri, ks_ra, ks_i, ks_s, ks_l, ks_t, at_top, at_bot, bin_ra_add, bin_ra_sub, bin_ra_mul, bin_ra_addi, bin_ra_subi, bin_ra_muli, neg_ra, raisM, k_0_0, k_0_1, k_0_2, k_0_3, k_1_0, k_1_1, k_1_2, k_1_3, k_int_0, k_int_1, k_int_2, k_int_3, k_str_0, k_str_1, k_str_2, k_str_3, k_list_0, k_list_1, k_list_2, k_list_3, k_tuple_0, k_tuple_1, k_tuple_2, k_tuple_3, k_NoneType_0, k_NoneType_1, k_NoneType_2, k_NoneType_3, g_0, List.lookup, f_1, e0]) ?_
    let I := fun (j : Nat) (fr : Fr) (S : Store) => (∃ v2 v3 v4 v5, fr = F (some (.cell 0)) v2 v3 v4 v5) ∧ ∃ cs a r X, S = jar cs a r :: X ∧ Jr (100 * (j : Int)) cs a r
    refine Rt.forr (l := rngL 0 2) (S1 := [jar (ns.take 62) 0 0]) (by simp [F, evSs, evS, evE, evEs, evO, evT, evI, Res.bind, Res.bindL, Res.bindO, ResL.bind, ResL.bindL, ResL.bindO, Mi.start, truth, callM, fill, newM, selfM, putM, putMs, putD, noExc, putP, putPs, evPar, elems, cmpM, cmpI, bin_ii, biM, neg_i, lenB, isND, idxM, iniM, partD, asBool, flipB, eqM_ii, eqM_ss, eqM_bb, eqM_rr, eqM_ri, neM_ii, neM_ss, neM_bb, neM_rr, neM_ri, ks_ra, ks_i, ks_s, ks_l, ks_t, at_top, at_bot, bin_ra_add, bin_ra_sub, bin_ra_mul, bin_ra_addi, bin_ra_subi, bin_ra_muli, neg_ra, raisM, k_0_0, k_0_1, k_0_2, k_0_3, k_1_0, k_1_1, k_1_2, k_1_3, k_int_0, k_int_1, k_int_2, k_int_3, k_str_0, k_str_1, k_str_2, k_str_3, k_list_0, k_list_1, k_list_2, k_list_3, k_tuple_0, k_tuple_1, k_tuple_2, k_tuple_3, k_NoneType_0, k_NoneType_1, k_NoneType_2, k_NoneType_3, g_0, List.lookup]) I ⟨⟨_, _, _, _, rfl⟩, _, _, _, _, rfl, (jr_pail (by omega)).mono (by omega)⟩ ?_ ?_
    · rintro j d hd fr S ⟨⟨v2, v3, v4, v5, rfl⟩, cs, a, r, X, rfl, J⟩
      obtain ⟨hj, rfl⟩ := rng_get hd
      obtain ⟨P, Q, N, M, c1, a1, r1, e1, hp, J1⟩ := s_law_stem 56 J (T := X) (by omega)
      obtain ⟨t, ht⟩ : ∃ t, t = rt P Q := ⟨_, rfl⟩
      obtain ⟨s, hs⟩ : ∃ s, s = rt N M := ⟨_, rfl⟩
      have h : Ps P Q N M t s := ⟨hp, ht, hs⟩
      have q1 := hp.q1
      have m1 := hp.m1
      have n1 := s_ratio 56 P Q (jar c1 a1 r1 :: X) (by omega) (sz_of h.bq (by omega))
      have n2 := s_ratio 56 N M (jar c1 a1 r1 :: X) (by omega) (sz_of h.bm (by omega))
      rw [← ht] at n1
      rw [← hs] at n2
      have sgn1 : 1 ≤ sgn (s - t * t) := by
        have hp := h.pos
        have h0 : 0 < (s - t * t).num := by
          have h1 := Rat.num_nonneg.mpr (Rat.le_of_lt hp)
          have h2 : (s - t * t).num ≠ 0 := fun z => by
            rw [Rat.num_eq_zero.mp z] at hp
            exact Rat.lt_irrefl hp
          omega
        unfold sgn
        rw [if_pos h0, if_neg (by omega)]; omega
      have n3 := s_stem 51 (asR.ra t) (asR.ra s) (h.lt.mono (by omega)) (h.ls.mono (by omega)) sgn1 (jar c1 a1 r1 :: X)
      let G := fun v5 => F (some (.cell 0)) (some (.int (0 + (j : Nat)))) (some (poD P Q N M)) (some (st t s)) v5
      obtain ⟨fr2, S2, ef, ⟨v5', rfl⟩, c2, a2, r2, rfl, J2⟩ := forM_by (f := trn p (run p 59) (.slot 5) (.cons (.ife (.or (.not (.call 4 (.cons (.var 1) (.cons (.var 3) (.cons (.var 4) .nil))))) (.one (.not (.call 3 (.cons (.var 1) (.cons (.var 3) (.cons (.var 4) .nil))))))) (.cons (.ret (.con (.bl false))) .nil) .nil) .nil)) (fun i fr S => (∃ v5, fr = G v5) ∧ ∃ cs a r, S = jar cs a r :: X ∧ Jr (100 * (j : Int) + 6 + 13 * (i : Int)) cs a r) (l := rngL 0 3) 0 (by
          rintro i d _ hd fr S ⟨⟨v5, rfl⟩, cs, a, r, rfl, J⟩
          obtain ⟨hi, rfl⟩ := rng_get hd
          obtain ⟨c3, a3, r3, e3, J3⟩ := s_pair_right 51 h J (T := X) (by omega)
          obtain ⟨c4, a4, r4, e4, J4⟩ := s_within_right 49 h J3 (T := X) (by omega)
          refine ⟨G (some (.int (0 + ((i - 0 : Nat) : Int)))), jar c4 a4 r4 :: X, trn_of (σ' := (G (some (.int (0 + ((i - 0 : Nat) : Int))))).σ) (by simp [F, G, putP]) ?_, ⟨_, rfl⟩, c4, a4, r4, rfl, J4.mono (by omega)⟩
          simp [F, G, evSs, evS, evE, evEs, evO, evT, evI, Res.bind, Res.bindL, Res.bindO, ResL.bind, ResL.bindL, ResL.bindO, Mi.start, truth, callM, fill, newM, selfM, putM, putMs, putD, noExc, putP, putPs, evPar, elems, cmpM, cmpI, bin_ii, biM, neg_i, lenB, isND, idxM, iniM, partD, asBool, flipB, eqM_ii, eqM_ss, eqM_bb, eqM_rr, eqM_ri, neM_ii, neM_ss, neM_bb, neM_rr, neM_ri, ks_ra, ks_i, ks_s, ks_l, ks_t, at_top, at_bot, bin_ra_add, bin_ra_sub, bin_ra_mul, bin_ra_addi, bin_ra_subi, bin_ra_muli, neg_ra, raisM, k_0_0, k_0_1, k_0_2, k_0_3, k_1_0, k_1_1, k_1_2, k_1_3, k_int_0, k_int_1, k_int_2, k_int_3, k_str_0, k_str_1, k_str_2, k_str_3, k_list_0, k_list_1, k_list_2, k_list_3, k_tuple_0, k_tuple_1, k_tuple_2, k_tuple_3, k_NoneType_0, k_NoneType_1, k_NoneType_2, k_NoneType_3, g_0, List.lookup, f_4, f_3, e3, e4]) (G v5) (jar c1 a1 r1 :: X) ⟨⟨v5, rfl⟩, c1, a1, r1, rfl, J1.mono (by omega)⟩
      obtain ⟨c5, a5, r5, e5, J5⟩ := s_pushed_right 49 h J2 (T := X) (by simp [rngL]; omega)
      obtain ⟨c6, a6, r6, X6, e6, J6⟩ := s_refused 45 h J5 (T := X) (by simp [rngL]; omega)
      refine ⟨G v5', jar c6 a6 r6 :: X6, trn_of (σ' := (F (some (.cell 0)) (some (.int (0 + (j : Nat)))) v3 v4 v5).σ) (by simp [F, putP]) ?_, ⟨_, _, _, _, rfl⟩, c6, a6, r6, X6, rfl, J6.mono (by simp [rngL]; omega)⟩
      refine ss_cons (fr' := F (some (.cell 0)) (some (.int (0 + (j : Nat)))) (some (poD P Q N M)) v4 v5) (S' := jar c1 a1 r1 :: X) (by simp [F, evSs, evS, evE, evEs, evO, evT, evI, Res.bind, Res.bindL, Res.bindO, ResL.bind, ResL.bindL, ResL.bindO, Mi.start, truth, callM, fill, newM, selfM, putM, putMs, putD, noExc, putP, putPs, evPar, elems, cmpM, cmpI, bin_ii, biM, neg_i, lenB, isND, idxM, iniM, partD, asBool, flipB, eqM_ii, eqM_ss, eqM_bb, eqM_rr, eqM_ri, neM_ii, neM_ss, neM_bb, neM_rr, neM_ri, ks_ra, ks_i, ks_s, ks_l, ks_t, at_top, at_bot, bin_ra_add, bin_ra_sub, bin_ra_mul, bin_ra_addi, bin_ra_subi, bin_ra_muli, neg_ra, raisM, k_0_0, k_0_1, k_0_2, k_0_3, k_1_0, k_1_1, k_1_2, k_1_3, k_int_0, k_int_1, k_int_2, k_int_3, k_str_0, k_str_1, k_str_2, k_str_3, k_list_0, k_list_1, k_list_2, k_list_3, k_tuple_0, k_tuple_1, k_tuple_2, k_tuple_3, k_NoneType_0, k_NoneType_1, k_NoneType_2, k_NoneType_3, g_0, List.lookup, f_2, e1]) ?_
      refine ss_cons (fr' := G v5) (S' := jar c1 a1 r1 :: X) (by
        have a2 := at2 (.int P) (.int Q) (.int N) [.int M]
        have a3 := at3 (.int P) (.int Q) (.int N) (.int M) []
        simp [F, G, evSs, evS, evE, evEs, evO, evT, evI, Res.bind, Res.bindL, Res.bindO, ResL.bind, ResL.bindL, ResL.bindO, Mi.start, truth, callM, fill, newM, selfM, putM, putMs, putD, noExc, putP, putPs, evPar, elems, cmpM, cmpI, bin_ii, biM, neg_i, lenB, isND, idxM, iniM, partD, asBool, flipB, eqM_ii, eqM_ss, eqM_bb, eqM_rr, eqM_ri, neM_ii, neM_ss, neM_bb, neM_rr, neM_ri, ks_ra, ks_i, ks_s, ks_l, ks_t, at_top, at_bot, bin_ra_add, bin_ra_sub, bin_ra_mul, bin_ra_addi, bin_ra_subi, bin_ra_muli, neg_ra, raisM, k_0_0, k_0_1, k_0_2, k_0_3, k_1_0, k_1_1, k_1_2, k_1_3, k_int_0, k_int_1, k_int_2, k_int_3, k_str_0, k_str_1, k_str_2, k_str_3, k_list_0, k_list_1, k_list_2, k_list_3, k_tuple_0, k_tuple_1, k_tuple_2, k_tuple_3, k_NoneType_0, k_NoneType_1, k_NoneType_2, k_NoneType_3, g_0, List.lookup, poD, at0, at1, a2, a3, c_0, c_1, f_25, f_27, n1, n2, n3]) ?_
      refine ss_cons (forr_nx (l := rngL 0 3) (S1 := jar c1 a1 r1 :: X) (by simp [F, G, evSs, evS, evE, evEs, evO, evT, evI, Res.bind, Res.bindL, Res.bindO, ResL.bind, ResL.bindL, ResL.bindO, Mi.start, truth, callM, fill, newM, selfM, putM, putMs, putD, noExc, putP, putPs, evPar, elems, cmpM, cmpI, bin_ii, biM, neg_i, lenB, isND, idxM, iniM, partD, asBool, flipB, eqM_ii, eqM_ss, eqM_bb, eqM_rr, eqM_ri, neM_ii, neM_ss, neM_bb, neM_rr, neM_ri, ks_ra, ks_i, ks_s, ks_l, ks_t, at_top, at_bot, bin_ra_add, bin_ra_sub, bin_ra_mul, bin_ra_addi, bin_ra_subi, bin_ra_muli, neg_ra, raisM, k_0_0, k_0_1, k_0_2, k_0_3, k_1_0, k_1_1, k_1_2, k_1_3, k_int_0, k_int_1, k_int_2, k_int_3, k_str_0, k_str_1, k_str_2, k_str_3, k_list_0, k_list_1, k_list_2, k_list_3, k_tuple_0, k_tuple_1, k_tuple_2, k_tuple_3, k_NoneType_0, k_NoneType_1, k_NoneType_2, k_NoneType_3, g_0, List.lookup]) ef) ?_
      refine ss_cons (s_if_no (S' := jar c6 a6 r6 :: X6) ?_) rfl
      simp [F, G, evSs, evS, evE, evEs, evO, evT, evI, Res.bind, Res.bindL, Res.bindO, ResL.bind, ResL.bindL, ResL.bindO, Mi.start, truth, callM, fill, newM, selfM, putM, putMs, putD, noExc, putP, putPs, evPar, elems, cmpM, cmpI, bin_ii, biM, neg_i, lenB, isND, idxM, iniM, partD, asBool, flipB, eqM_ii, eqM_ss, eqM_bb, eqM_rr, eqM_ri, neM_ii, neM_ss, neM_bb, neM_rr, neM_ri, ks_ra, ks_i, ks_s, ks_l, ks_t, at_top, at_bot, bin_ra_add, bin_ra_sub, bin_ra_mul, bin_ra_addi, bin_ra_subi, bin_ra_muli, neg_ra, raisM, k_0_0, k_0_1, k_0_2, k_0_3, k_1_0, k_1_1, k_1_2, k_1_3, k_int_0, k_int_1, k_int_2, k_int_3, k_str_0, k_str_1, k_str_2, k_str_3, k_list_0, k_list_1, k_list_2, k_list_3, k_tuple_0, k_tuple_1, k_tuple_2, k_tuple_3, k_NoneType_0, k_NoneType_1, k_NoneType_2, k_NoneType_3, g_0, List.lookup, f_6, f_5, e5, e6]
    · rintro fr S ⟨⟨v2, v3, v4, v5, rfl⟩, cs, a, r, X, rfl, J⟩
      exact Rt.ret (d := .bl true) (S' := jar cs a r :: X) (by simp [evSs, evS, evE, evEs, evO, evT, evI, Res.bind, Res.bindL, Res.bindO, ResL.bind, ResL.bindL, ResL.bindO, Mi.start, truth, callM, fill, newM, selfM, putM, putMs, putD, noExc, putP, putPs, evPar, elems, cmpM, cmpI, bin_ii, biM, neg_i, lenB, isND, idxM, iniM, partD, asBool, flipB, eqM_ii, eqM_ss, eqM_bb, eqM_rr, eqM_ri, neM_ii, neM_ss, neM_bb, neM_rr, neM_ri, ks_ra, ks_i, ks_s, ks_l, ks_t, at_top, at_bot, bin_ra_add, bin_ra_sub, bin_ra_mul, bin_ra_addi, bin_ra_subi, bin_ra_muli, neg_ra, raisM, k_0_0, k_0_1, k_0_2, k_0_3, k_1_0, k_1_1, k_1_2, k_1_3, k_int_0, k_int_1, k_int_2, k_int_3, k_str_0, k_str_1, k_str_2, k_str_3, k_list_0, k_list_1, k_list_2, k_list_3, k_tuple_0, k_tuple_1, k_tuple_2, k_tuple_3, k_NoneType_0, k_NoneType_1, k_NoneType_2, k_NoneType_3, g_0, List.lookup]) rfl
  exact ⟨S', hr⟩
end K14
end

section
set_option maxRecDepth 100000
set_option maxHeartbeats 4000000
/-! Mi: the top in parts: what a statement of the top leaves, built straight from the text; each part's run is compared with it. -/
noncomputable section
namespace Mi
open PySem PySem.W PySem.Calls PyProof.Rows HandSHeadRun

/-! ### the builder -/
/-- what stands fast: the file, the text's mark, the world's way of hashing -/
structure En where
  file : Str
  text : Nat
  P : Params
def ent (e : En) (x : Str) (t : Nat) (v : Value) : DictEntry := ⟨PyData.keyHash e.P x, .str x t, v⟩
def txs : List Str → Nat → List Value
  | [], _ => []
  | x :: l, t => .str x t :: txs l (t + 1)
def tupO (l : List Value) : Obj := ⟨.type "tuple", none, .seq l.toArray, #[]⟩
def fldO (l : List Value) : Obj := ⟨.none, none, .fields l.toArray, #[]⟩
def nI (n : Nat) : Value := .int (n : Int) 0
def codeO (e : En) (name qual : Str) (line argc posonly flags : Nat) (free : Addr) (fn : Bool) (places : Addr) (ls cs tm : Value) (t t2 : Nat) : Obj :=
  ⟨.type "code", none, .fields #[.str name t, .str qual (t + 1), .str e.file (t + 2), nI line, nI argc, nI posonly, nI 0, nI flags, .ref free, .bool fn, nI e.text, .ref places, .none, ls, cs, tm, nI t2, nI line, .str e.file (t2 + 1)], #[]⟩
/-- a def -/
def fnB {α : Type} (e : En) (mod : Value) (name qual : Str) (args : Arguments) (body : List Stmt) (scope : Scope) (line : Nat) (dec : Bool) (dv : Value) (n t : Nat) (ob : List Obj) (k : List Obj → Nat → Nat → α) : α :=
  let argc := args.posonlyargs.length + args.args.length
  let flags := 3 + (if args.vararg.isSome then 4 else 0) + (if args.kwarg.isSome then 8 else 0) + (match scope.isGenerator, scope.isCoroutine with | true, false => 32 | false, true => 128 | true, true => 512 | false, false => 0)
  let tm : Obj := ⟨.none, none, .func { name, qualname := qual, params := args, body := .stmts body, scope, globals := builtinsNs, closure := [], defaults := .none, kwdefaults := .none }, #[]⟩
  let fn (c : Addr) : Obj := ⟨.type "function", none, .func { name, qualname := qual, params := args, body := .stmts body, scope, globals := mainNs, closure := [], defaults := dv, kwdefaults := .none, pyModule := mod, annotations := if dec then some (c + 4) else none, code := .ref c }, #[]⟩
  match scope.more with
  | [] =>
    let ps := (args.posonlyargs ++ args.args ++ args.kwonlyargs ++ args.vararg.toList ++ args.kwarg.toList).map (·.arg)
    let ls := (scope.names.filter fun (n, k) => k == .local || (k == .cell && ps.contains n)).map (·.1)
    let cs := (scope.names.filter (·.2 == .cell)).map (·.1)
    frNat (t + 3 + ls.length + cs.length) fun t2 => frNat n fun n =>
      k (fn (n + 5) :: codeO e name qual line argc args.posonlyargs.length flags n true (n + 1) (.ref (n + 2)) (.ref (n + 3)) (.ref (n + 4)) t t2 :: tm :: tupO (txs cs (t + 3 + ls.length)) :: tupO (txs ls (t + 3)) :: fldO [] :: tupO [] :: ob) (n + 7) (t2 + 2)
  | _ => frNat n fun n =>
      k (fn (n + 3) :: codeO e name qual line argc args.posonlyargs.length flags n true (n + 1) .none .none (.ref (n + 2)) t (t + 3) :: tm :: fldO [] :: tupO [] :: ob) (n + 5) (t + 5)
/-- constants: value, objects, marks -/
def conB {α : Type} (c : Const) (t : Nat) (k : Value → Nat → α) : α := match c with
  | .none => k .none t
  | .bool b => k (.bool b) t
  | .int i => k (.int i t) (t + 1)
  | .str s => k (.str s t) (t + 1)
  | _ => k .none t
def valsB {α : Type} : List Expr → Nat → (List Value → Nat → α) → α
  | [], t, k => k [] t
  | .Constant c _ _ :: r, t, k => conB c t fun v t => valsB r t fun vs t => k (v :: vs) t
  | _ :: r, t, k => valsB r t k
def exprB {α : Type} (x : Expr) (n t : Nat) (ob : List Obj) (k : Value → Nat → Nat → List Obj → α) : α := match x with
  | .Constant c _ _ => conB c t fun v t => k v n t ob
  | .Tuple es _ _ => valsB es t fun vs t => k (.ref n) (n + 1) t (tupO vs :: ob)
  | _ => k .none n t ob
def exprsB {α : Type} : List Expr → Nat → Nat → List Obj → (List Value → Nat → Nat → List Obj → α) → α
  | [], n, t, ob, k => k [] n t ob
  | x :: r, n, t, ob, k => exprB x n t ob fun v n t ob => exprsB r n t ob fun vs n t ob => k (v :: vs) n t ob
/-- defaults -/
def dflB {α : Type} (ds : List Expr) (n t : Nat) (ob : List Obj) (k : Value → Nat → Nat → List Obj → α) : α := match ds with
  | [] => k .none n t ob
  | ds => exprsB ds n t ob fun vs n t ob => k (.ref n) (n + 1) t (tupO vs :: ob)
/-- a class's body -/
def bodyB {α : Type} (e : En) (mod : Value) (cls : Str) : List Stmt → Nat → Nat → List Obj → List DictEntry → List Value → (Nat → Nat → List Obj → List DictEntry → List Value → α) → α
  | [], n, t, ob, es, ps, k => k n t ob es ps
  | .Assign [.Name x _] v _ :: r, n, t, ob, es, ps, k => exprB v n t ob fun v n t ob => frNat n fun n => frNat t fun t => bodyB e mod cls r n (t + 1) ob (ent e x t v :: es) ps k
  | .FunctionDef name args body decos _ _ scope _ bind pos :: r, n, t, ob, es, ps, k =>
    let qual : Str := cls ++ "." ++ name
    let pl (c : Addr) (ps : List Value) : List Value := .ref c :: nI pos.col :: nI pos.line :: ps
    dflB args.defaults n t ob fun dv n t ob => match decos with
    | [.Name d dp] => (match d == ("property" : Str) with
      | true => fnB e mod name qual args body scope dp.line false dv n t ob fun ob n t => frNat n fun n => frNat t fun t =>
        bodyB e mod cls r (n + 1) (t + 2) (⟨.type "property", none, .fields #[.ref (n - 1), .none, .none, .none, .str bind (t + 1), .bool false], #[]⟩ :: ob) (ent e bind (t + 1) (.ref n) :: es) (pl (n - 2) ps) k
      | false => fnB e mod name qual args body scope dp.line true dv n t ob fun ob n t => frNat n fun n => frNat t fun t =>
        bodyB e mod cls r (n + 3) (t + 13) (⟨.type "dict", none, .dict #[], #[]⟩ :: ⟨.type (match d == ("staticmethod" : Str) with | true => "staticmethod" | false => "classmethod"), some n, .fields #[.ref (n - 1), .bool false], #[]⟩ ::
          ⟨.type "dict", none, .dict #[ent e "__module__" (t + 1) mod, ent e "__name__" (t + 4) (.str name (t + 3)), ent e "__qualname__" (t + 7) (.str qual (t + 6)), ent e "__doc__" (t + 9) .none, ent e "__annotations__" (t + 11) (.ref (n + 2))] 5, #[]⟩ :: ob) (ent e bind (t + 12) (.ref (n + 1)) :: es) (pl (n - 2) ps) k)
    | _ => fnB e mod name qual args body scope pos.line false dv n t ob fun ob n t => frNat n fun n => frNat t fun t => bodyB e mod cls r n (t + 1) ob (ent e bind t (.ref (n - 1)) :: es) (pl (n - 2) ps) k
  | _ :: r, n, t, ob, es, ps, k => bodyB e mod cls r n t ob es ps k
/-- a known class: its name, where it stands, its mro, its maker -/
abbrev Kc := List (Str × Value × List Value × String)
/-- the top so far -/
structure Bs where
  n : Nat
  t : Nat
  ob : List Obj
  glo : List DictEntry
  mod : Value
  ps : List Value
  kc : Kc
  sb : List (Addr × Value)
def hasName (es : List DictEntry) (x : Str) : Bool := es.any fun d => match d.key with
  | .str y _ => y == x
  | _ => false
def valOf (es : List DictEntry) (x : Str) : Value := match es.find? fun d => match d.key with
  | .str y _ => y == x
  | _ => false with
  | some d => d.val
  | none => .none
def clB (e : En) (name : Str) (bases : List Expr) (body : List Stmt) (statics : List Str) (pos : Pos) (s : Bs) : Bs := match s with
  | ⟨n, t, ob, glo, mod, ps, kc, sb⟩ => frNat n fun n => frNat t fun t => bodyB e mod name body (n + 7) (t + 12) [] [ent e "__firstlineno__" (t + 11) (.int pos.line (t + 10)), ent e "__qualname__" (t + 9) (.str name (t + 8)), ent e "__module__" (t + 7) mod] [] fun n2 t2 obm es cps => frNat n2 fun n2 => frNat (t2 + statics.length) fun t3 =>
    let es := (ent e "__static_attributes__" t3 (.ref n2) :: es).reverse
    let own := match es with
      | m :: _ :: r => m :: r
      | l => l
    let c := n2 + 2
    let kn : Option (Value × List Value × String) := match bases with
      | [.Name b _] => (match kc.find? fun (x, _) => x == b with
        | some (_, a, m, nw) => some (a, m, nw)
        | none => none)
      | _ => none
    let basesV : List Value := match bases with
      | [.Name b _] => (match kn with
        | some (a, _) => [a]
        | none => [.type b.toString])
      | _ => []
    let mro : List Value := .ref c :: (match kn with
      | some (_, m, _) => m
      | none => (match bases with
        | [.Name _ _] => [.type "ValueError", .type "Exception", .type "BaseException", .type "object"]
        | _ => [.type "object"]))
    let nw : String := match kn with
      | some (_, _, x) => x
      | none => (match bases with
        | [.Name _ _] => "ValueError.__new__"
        | _ => "object.__new__")
    let hs := hasName es "__eq__" && !hasName es "__hash__"
    let gs (x : Str) (t : Nat) (a b : Value) : Obj := ⟨.type "getset_descriptor", none, .fields #[.str x t, .ref c, a, b], #[]⟩
    let more (t : Nat) : List DictEntry := ent e "__doc__" t .none :: (match hs with
      | true => [ent e "__hash__" (t + 1) .none]
      | false => [])
    let hn : Nat := match hs with
      | true => 1
      | false => 0
    let wk (t : Nat) (a : Addr) : DictEntry := ent e "__weakref__" (t + 1) (.ref a)
    let wkO (t : Nat) : Obj := gs "__weakref__" t (.builtin "ExceptionGroup.__weakref__") .none
    let (adds, gobs) : List DictEntry × List Obj := match kn with
      | some _ => (more (t3 + 1), [])
      | none => (match bases with
        | [.Name _ _] => (wk (t3 + 1) (c + 1) :: more (t3 + 3), [wkO (t3 + 1)])
        | _ => (ent e "__dict__" (t3 + 2) (.ref (c + 1)) :: wk (t3 + 3) (c + 2) :: more (t3 + 5), [wkO (t3 + 3), gs "__dict__" (t3 + 1) (.builtin "function.__dict__") (.builtin "function.__dict__#set")]))
    let ex : Nat := match kn with
      | some _ => 0
      | none => (match bases with
        | [.Name _ _] => 1
        | _ => 2)
    let cl : Obj := ⟨.type "type", none, .cls { name, bases := (match basesV with | [] => [.type "object"] | l => l), mro, ns := n2 + 1, qualname := name }, #[(match basesV with | [] => none | _ => some (.ref n)), none, some (.str name t), some (.str name (t + 8)), some (.builtin nw), some (.bool true)]⟩
    frNat (c + 1 + ex) fun n4 => frNat (t3 + 1 + 2 * ex + 1 + hn + 1) fun t4 =>
    ⟨n4 + 2, t4 + 1,
      ⟨.type "builtin_function_or_method", none, .fields #[.builtin "object.__init_subclass__", .ref c], #[]⟩ :: ⟨.type "super", none, .fields #[.ref c, .ref c, .ref c], #[]⟩ :: (gobs ++ (cl :: ⟨.type "dict", none, .dict (own ++ adds).toArray (1 + adds.length), #[]⟩ :: tupO (txs statics t2) :: (obm ++
        (⟨.type "frame", none, .plain, #[some (.ref (n + 5)), some (.ref mainNs), some (.ref (n + 2)), none, some mod, none, some (.ref builtinsNs)]⟩ :: codeO e name name pos.line 0 0 0 (n + 3) false (n + 4) .none .none .none (t + 2) (t + 5) :: fldO cps.reverse :: tupO [] :: ⟨.type "dict", none, .dict es.toArray es.length, #[]⟩ ::
        ⟨.type "builtin_function_or_method", none, .fields #[.builtin "type.__prepare__", .type "type"], #[]⟩ :: tupO basesV :: ob)))),
      ent e name t4 (.ref c) :: glo, mod, .ref (n + 5) :: nI pos.col :: nI pos.line :: ps, (name, .ref c, mro, nw) :: kc,
      (match kn with
        | some (.ref a, _) => (a, .ref c) :: sb
        | _ => sb)⟩
def stB (e : En) (st : Stmt) (s : Bs) : Bs := match st with
  | .FunctionDef name args body _ _ _ scope _ bind pos => (match s with
    | ⟨n, t, ob, glo, mod, ps, kc, sb⟩ => dflB args.defaults n t ob fun dv n t ob => fnB e mod name name args body scope pos.line false dv n t ob fun ob n t => frNat n fun n => frNat t fun t => ⟨n, t + 1, ob, ent e bind t (.ref (n - 1)) :: glo, mod, .ref (n - 2) :: nI pos.col :: nI pos.line :: ps, kc, sb⟩)
  | .ClassDef name bases _ body _ _ _ _ _ statics pos => clB e name bases body statics pos s
  | .Assign [.Name x _] v _ => (match s with
    | ⟨n, t, ob, glo, mod, ps, kc, sb⟩ => (match x == ("__name__" : Str) with
      | true => exprB v n t ob fun v n t ob => ⟨n, t + 1, ob, glo, v, ps, kc, sb⟩
      | false => (match v with
        | .Name y _ => ⟨n, t + 1, ob, ent e x t (valOf glo y) :: glo, mod, ps, kc, sb⟩
        | v => exprB v n t ob fun v n t ob => frNat n fun n => frNat t fun t => ⟨n, t + 1, ob, ent e x t v :: glo, mod, ps, kc, sb⟩)))
  | _ => s
def runB (e : En) : List Stmt → Bs → Bs
  | [], s => s
  | st :: r, s => runB e r (stB e st s)
/-! ### the tree of it -/
def alt : List Obj → List Obj × List Obj
  | [] => ([], [])
  | a :: l => match alt l with
    | (x, y) => (a :: y, x)
def btB : Nat → List Obj → BT
  | 0, _ => .nil
  | _, [] => .nil
  | k + 1, o :: r => match alt r with
    | (x, y) => .node o (btB k x) (btB k y)
/-- one object put in the place of another one -/
def setB : BT → Nat → (Obj → Obj) → BT
  | .nil, _, _ => .nil
  | .node v l r, i, f => match Nat.beq i 0 with
    | true => .node (f v) l r
    | false => match Nat.beq (i % 2) 1 with
      | true => .node v (setB l (i / 2) f) r
      | false => .node v l (setB r (i / 2 - 1) f)
/-- objects behind the first n ones -/
def addB : Nat → BT → Nat → List Obj → BT
  | 0, T, _, _ => T
  | k + 1, T, n, os => match os with
    | [] => T
    | o :: os => match T with
      | .nil => btB 30 (o :: os)
      | .node v l r => match alt (o :: os) with
        | (a, b) => match Nat.beq (n % 2) 1 with
          | true => .node v (addB k l (n / 2) a) (addB k r ((n - 1) / 2) b)
          | false => .node v (addB k l (n / 2) b) (addB k r ((n - 1) / 2) a)
def subO (v : Value) (o : Obj) : Obj := match o with
  | ⟨c, d, .cls cd, sl⟩ => ⟨c, d, .cls { cd with subclasses := cd.subclasses ++ [v] }, sl⟩
  | o => o
def subsB : List (Addr × Value) → BT → BT
  | [], T => T
  | (a, v) :: r, T => subsB r (setB T a (subO v))
def gloO (mod : Value) (glo : List DictEntry) (o : Obj) : Obj := match o with
  | ⟨c, d, .dict es k, sl⟩ => ⟨c, d, .dict ((match es.toList with
    | ⟨h, x, _⟩ :: r => ⟨h, x, mod⟩ :: r
    | [] => []) ++ glo.reverse).toArray (k + glo.length), sl⟩
  | o => o
def plsO (ps : List Value) (o : Obj) : Obj := match o with
  | ⟨c, d, .fields vs, sl⟩ => ⟨c, d, .fields (vs.toList ++ ps.reverse).toArray, sl⟩
  | o => o
/-- what a part's statements l leave, over the state X and what the builder knew then -/
def nxtB (e : En) (pl : Addr) (X : SharedT) (s0 : Bs) (l : List Stmt) : SharedT :=
  match runB e l { s0 with ob := [], ps := [], sb := [] } with
  | s => ⟨subsB s.sb.reverse (addB 30 (setB (setB X.tree mainNs (gloO s.mod (s.glo.take (s.glo.length - s0.glo.length)))) pl (plsO s.ps)) s0.n s.ob.reverse), s.n, {}, #[], {}, s.t, X.os⟩
end Mi
end
end

section
set_option maxRecDepth 100000
set_option maxHeartbeats 4000000
/-! Mi: parts of the top's run, joined. -/
noncomputable section
namespace Mi
open PySem PySem.W PySem.Calls PyProof.Rows HandSHeadRun
section
variable {p : Program} {w : World} {n0 : Nat} {ann : Option Value}
/-- a part's run by the tree -/
def segF (n0 : Nat) (ann : Option Value) (p : Program) (w : World) : Nat → SharedT → Thread → Option (Flow × SharedT × Code × Pos)
  | 0, _, _ => none
  | m + 1, s, t => match endAt 1 t with
    | some f => some (f, s, t.code, t.pos)
    | none => match stepOk n0 ann t with
      | false => none
      | true => match stepT (denote treeTable) p w s t with
        | some (s', t') => frS s' fun s' => segF n0 ann p w m s' t'
        | none => none
theorem segF_ok : ∀ {m : Nat} {s s' : SharedT} {t : Thread} {f : Flow} {c : Code} {q : Pos}, segF n0 ann p w m s t = some (f, s', c, q) → segRun treeTable p w n0 ann 1 m s.abs t = some (f, s'.abs, c, q)
  | 0, _, _, _, _, _, _, h => by cases h
  | m + 1, s, s', t, f, c, q, h => by
    have h1 : (match endAt 1 t with
      | some f => some (f, s, t.code, t.pos)
      | none => match stepOk n0 ann t with
        | false => none
        | true => match stepT (denote treeTable) p w s t with
          | some (s', t') => frS s' fun s' => segF n0 ann p w m s' t'
          | none => none) = some (f, s', c, q) := h
    unfold segRun
    cases ht : endAt 1 t with
    | some g =>
      rw [ht] at h1
      cases h1
      rfl
    | none =>
      rw [ht] at h1
      cases hk : stepOk n0 ann t with
      | false =>
        rw [hk] at h1
        cases h1
      | true =>
        rw [hk] at h1
        have h2 : (match stepT (denote treeTable) p w s t with
          | some (s', t') => frS s' fun s' => segF n0 ann p w m s' t'
          | none => none) = some (f, s', c, q) := h1
        cases hs : stepT (denote treeTable) p w s t with
        | none =>
          rw [hs] at h2
          cases h2
        | some r =>
          obtain ⟨s2, t2⟩ := r
          rw [hs] at h2
          have h3 : (frS s2 fun s' => segF n0 ann p w m s' t2) = some (f, s', c, q) := h2
          rw [frS_eq] at h3
          have z := segF_ok h3
          show (match step (denote treeTable) p w s.abs t with
            | .go s' t' => segRun treeTable p w n0 ann 1 m s' t'
            | .halt _ _ => none) = some (f, s'.abs, c, q)
          rw [stepT_spec hs]
          exact z
/-- up to the body's thread -/
def preT (n0 : Nat) (ann : Option Value) (p : Program) (w : World) : Nat → SharedT → Thread → Option (SharedT × Thread)
  | 0, _, _ => none
  | m + 1, s, t => match Nat.beq t.stack.length 1 with
    | true => some (s, t)
    | false => match through t with
      | true => none
      | false => match stepOk n0 ann t with
        | false => none
        | true => match stepT (denote treeTable) p w s t with
          | some (s', t') => frS s' fun s' => preT n0 ann p w m s' t'
          | none => none
theorem preT_ok : ∀ {m N : Nat} {s s' : SharedT} {t t' : Thread} {r : Shared}, preT n0 ann p w m s t = some (s', t') → topRun treeTable p w n0 ann N s'.abs t' = some r → topRun treeTable p w n0 ann (m + N) s.abs t = some r
  | 0, _, _, _, _, _, _, h, _ => by cases h
  | m + 1, N, s, s', t, t', r, h, k => by
    have h1 : (match Nat.beq t.stack.length 1 with
      | true => some (s, t)
      | false => match through t with
        | true => none
        | false => match stepOk n0 ann t with
          | false => none
          | true => match stepT (denote treeTable) p w s t with
            | some (s', t') => frS s' fun s' => preT n0 ann p w m s' t'
            | none => none) = some (s', t') := h
    cases hb : Nat.beq t.stack.length 1 with
    | true =>
      rw [hb] at h1
      cases h1
      have := topRun_mono (m + 1) _ _ _ _ k
      rwa [Nat.add_comm] at this
    | false =>
      rw [hb] at h1
      have h1 : (match through t with
        | true => none
        | false => match stepOk n0 ann t with
          | false => none
          | true => match stepT (denote treeTable) p w s t with
            | some (s', t') => frS s' fun s' => preT n0 ann p w m s' t'
            | none => none) = some (s', t') := h1
      rw [show m + 1 + N = m + N + 1 by omega]
      unfold topRun
      cases ht : through t with
      | true =>
        rw [ht] at h1
        cases h1
      | false =>
        rw [ht] at h1
        cases hk : stepOk n0 ann t with
        | false =>
          rw [hk] at h1
          cases h1
        | true =>
          rw [hk] at h1
          have h2 : (match stepT (denote treeTable) p w s t with
            | some (s', t') => frS s' fun s' => preT n0 ann p w m s' t'
            | none => none) = some (s', t') := h1
          cases hs : stepT (denote treeTable) p w s t with
          | none =>
            rw [hs] at h2
            cases h2
          | some z =>
            obtain ⟨s2, t2⟩ := z
            rw [hs] at h2
            have h3 : (frS s2 fun s' => preT n0 ann p w m s' t2) = some (s', t') := h2
            rw [frS_eq] at h3
            have z := preT_ok h3 k
            show (match step (denote treeTable) p w s.abs t with
              | .go s' t' => topRun treeTable p w n0 ann (m + N) s' t'
              | .halt _ _ => none) = some r
            rw [stepT_spec hs]
            exact z
end
/-! ### the opening -/
/-- the opening, the state ahead of the top, as a tree -/
def opnF (M : Nat) (p : Program) (w : World) : Option (Shared × SharedT) := match impF (stepT (denote treeTable) (opening p) w) M (startT (opening p)) (PySem.start (opening p)).2 with
  | some s => (match fenceModules? p s.abs with
    | some s0 => (match s0.heap.isNs mainGlobals && s0.gens.size == 0 with
      | true => (match treeOf s0 with
        | some x => frS x fun x => some (s0, x)
        | none => none)
      | false => none)
    | none => none)
  | none => none
theorem opnF_ok {M : Nat} {p : Program} {w : World} {s0 : Shared} {x : SharedT} (h : opnF M p w = some (s0, x)) :
    fencedOpening treeTable p w M = some s0 ∧ (s0.heap.isNs mainGlobals && s0.gens.size == 0) = true ∧ x.abs = s0 ∧ s0.heap.objs.size = x.n := by
  unfold opnF at h
  cases e1 : impF (stepT (denote treeTable) (opening p) w) M (startT (opening p)) (PySem.start (opening p)).2 with
  | none =>
    rw [e1] at h
    cases h
  | some s =>
    rw [e1] at h
    have h1 : (match fenceModules? p s.abs with
      | some s0 => (match s0.heap.isNs mainGlobals && s0.gens.size == 0 with
        | true => (match treeOf s0 with
          | some x => frS x fun x => some (s0, x)
          | none => none)
        | false => none)
      | none => none) = some (s0, x) := h
    have a1 := impF_ok e1
    rw [startT_eq] at a1
    cases e2 : fenceModules? p s.abs with
    | none =>
      rw [e2] at h1
      cases h1
    | some z =>
      rw [e2] at h1
      have h2 : (match z.heap.isNs mainGlobals && z.gens.size == 0 with
        | true => (match treeOf z with
          | some x => frS x fun x => some (z, x)
          | none => none)
        | false => none) = some (s0, x) := h1
      cases e3 : z.heap.isNs mainGlobals && z.gens.size == 0 with
      | false =>
        rw [e3] at h2
        cases h2
      | true =>
        rw [e3] at h2
        have h3 : (match treeOf z with
          | some x => frS x fun x => some (z, x)
          | none => none) = some (s0, x) := h2
        cases e4 : treeOf z with
        | none =>
          rw [e4] at h3
          cases h3
        | some y =>
          rw [e4] at h3
          have h4 : (frS y fun x => some (z, x)) = some (s0, x) := h3
          rw [frS_eq] at h4
          have h5 : (z, y) = (s0, x) := Option.some.inj h4
          obtain ⟨rfl, rfl⟩ := Prod.mk.inj h5
          obtain ⟨ex, en⟩ := treeOf_eq e4
          refine ⟨?_, e3, ex, en⟩
          unfold fencedOpening
          rw [a1]
          exact e2
def opnS (M : Nat) (p : Program) (w : World) : Shared := match opnF M p w with
  | some (s, _) => s
  | none => (PySem.start p).1
def opnX (M : Nat) (p : Program) (w : World) : SharedT := match opnF M p w with
  | some (_, x) => x
  | none => startT p
theorem opn_eq {M : Nat} {p : Program} {w : World} (h : (opnF M p w).isSome = true) : opnF M p w = some (opnS M p w, opnX M p w) := by
  unfold opnS opnX
  cases e : opnF M p w with
  | none => rw [e] at h; cases h
  | some z => rfl
/-! ### the body's thread, the block's start -/
def envP (p : Program) (code : Value) (fr : Addr) : Env := { scope := p.main.scope, locals := mainNs, globals := mainNs, cells := [], code, frame := some fr }
def codP (p : Program) (code : Value) (fr : Addr) : Code := .body (behindTheImports p) (envP p code fr)
abbrev Q0 : Pos := ⟨0, 0, 0, 0⟩
def preR (M n0 : Nat) (ann : Option Value) (p : Program) (w : World) : Option (SharedT × Thread) := preT n0 ann p w 1000 (opnX M p w) (topStub p)
def preX (M n0 : Nat) (ann : Option Value) (p : Program) (w : World) : SharedT := match preR M n0 ann p w with
  | some (s, _) => s
  | none => startT p
def blkR (M n0 : Nat) (ann : Option Value) (p : Program) (w : World) (code : Value) (fr : Addr) : Option (Flow × SharedT × Code × Pos) :=
  segF n0 ann p w 1000 (preX M n0 ann p w) (blockOf (behindTheImports p) (envP p code fr) (codP p code fr) Q0 [topFrame Q0])
def blkX (M n0 : Nat) (ann : Option Value) (p : Program) (w : World) (code : Value) (fr : Addr) : SharedT := match blkR M n0 ann p w code fr with
  | some (_, s, _) => s
  | none => startT p
/-- one part of the block -/
def pieR (n0 : Nat) (ann : Option Value) (p : Program) (w : World) (code : Value) (fr : Addr) (N : Nat) (X : SharedT) (l : List Stmt) (pos : Pos) : Option (Flow × SharedT × Code × Pos) :=
  segF n0 ann p w N X (piecesOf l (envP p code fr) (codP p code fr) pos [topFrame Q0])
/-- the end -/
def finR (n0 : Nat) (ann : Option Value) (p : Program) (w : World) (code : Value) (fr : Addr) (X : SharedT) (pos : Pos) : Option SharedT :=
  goF (stepT (denote treeTable) p w) n0 ann 100 X ⟨doneF .next, codP p code fr, pos, [topFrame Q0]⟩
def partL (b : List Stmt) (i m : Nat) : List Stmt := (b.drop i).take m
/-- what is known of the program's start: objects, marks, the module's code, frame, places, text, name -/
structure Sx where
  M : Nat
  n0 : Nat
  ann : Option Value
  code : Value
  fr : Addr
  file : Str
  text : Nat
  n1 : Nat
  t1 : Nat
  pl : Addr
  mod : Value
def Sx.en (x : Sx) (w : World) : En := ⟨x.file, x.text, w.params⟩
def Sx.bs (x : Sx) : Bs := ⟨x.n1, x.t1, [], [], x.mod, [], [], []⟩
/-- the next state of the top: behind the first a statements of the block, m more done -/
def nxtX (x : Sx) (p : Program) (w : World) (X : SharedT) (a m : Nat) : SharedT :=
  nxtB (x.en w) x.pl X (runB (x.en w) ((behindTheImports p).take a) x.bs) (partL (behindTheImports p) a m)
theorem preR_eq : @preR = @preR := rfl
theorem blkR_eq : @blkR = @blkR := rfl
theorem blkX_eq : @blkX = @blkX := rfl
theorem pieR_eq : @pieR = @pieR := rfl
theorem finR_eq : @finR = @finR := rfl
theorem opnF_eq : @opnF = @opnF := rfl
theorem opnS_eq : @opnS = @opnS := rfl
name_quick preQ for Mi.preR by Mi.preR_eq
name_quick blkQ for Mi.blkR by Mi.blkR_eq
name_quick blkXQ for Mi.blkX by Mi.blkX_eq
name_quick pieQ for Mi.pieR by Mi.pieR_eq
name_quick finQ for Mi.finR by Mi.finR_eq
name_quick opnQ for Mi.opnF by Mi.opnF_eq
name_quick opnSQ for Mi.opnS by Mi.opnS_eq
end Mi
end
end

section
set_option maxRecDepth 100000
set_option maxHeartbeats 4000000
/-! Mi: the head of a law by parts. -/
noncomputable section
namespace Mi
open PySem PySem.W PySem.Calls PyProof.Rows HandSHeadRun PySem.W.Fast
section
variable {p : Program} {w : World} {n0 : Nat} {ann : Option Value} {code : Value} {fr : Addr}
/-- one part, the rest behind it -/
theorem part_step {N T a m b : Nat} {X X' : SharedT} {pos pos' : Pos} {r : Shared} (hb : a + m = b)
    (h : pieQ n0 ann p w code fr N X (partL (behindTheImports p) a m) pos = some (.next, X', codP p code fr, pos'))
    (k : topRun treeTable p w n0 ann T X'.abs (restOf ((behindTheImports p).drop b) (envP p code fr) (codP p code fr) pos' [topFrame Q0]) = some r) :
    topRun treeTable p w n0 ann (N + T) X.abs (restOf ((behindTheImports p).drop a) (envP p code fr) (codP p code fr) pos [topFrame Q0]) = some r := by
  subst hb
  rw [← pieQ_eq] at h
  have h1 := segF_ok (show segF n0 ann p w N X (piecesOf (partL (behindTheImports p) a m) (envP p code fr) (codP p code fr) pos [topFrame Q0]) = _ from h)
  have e : (behindTheImports p).drop a = partL (behindTheImports p) a m ++ (behindTheImports p).drop (a + m) := by
    unfold partL
    rw [← List.drop_drop]
    exact (List.take_append_drop m _).symm
  rw [e]
  exact piece_app h1 k
/-- the end -/
theorem part_end {a : Nat} {X X' : SharedT} {pos : Pos} (ha : (behindTheImports p).drop a = []) (h : finQ n0 ann p w code fr X pos = some X') :
    topRun treeTable p w n0 ann 100 X.abs (restOf ((behindTheImports p).drop a) (envP p code fr) (codP p code fr) pos [topFrame Q0]) = some X'.abs := by
  rw [ha]
  refine piece_nil ?_
  rw [← finQ_eq] at h
  exact goF_ok (show goF (stepT (denote treeTable) p w) n0 ann 100 X ⟨doneF .next, codP p code fr, pos, [topFrame Q0]⟩ = some X' from h)
/-- the start -/
theorem part_start {M T : Nat} {r : Shared} (ho : (opnQ M p w).isSome = true)
    (h2 : (preQ M n0 ann p w).map (·.2) = some ⟨denQ tabQ (codP p code fr), codP p code fr, Q0, [topFrame Q0]⟩)
    (h3 : (blkQ M n0 ann p w code fr).map (fun x => (x.1, x.2.2)) = some (.next, codP p code fr, Q0))
    (k : topRun treeTable p w n0 ann T (blkXQ M n0 ann p w code fr).abs (restOf ((behindTheImports p).drop 0) (envP p code fr) (codP p code fr) Q0 [topFrame Q0]) = some r) :
    fencedOpening treeTable p w M = some (opnSQ M p w) ∧ ((opnSQ M p w).heap.isNs mainGlobals && (opnSQ M p w).gens.size == 0) = true ∧ topRun treeTable p w n0 ann (1000 + (1000 + T)) (opnSQ M p w) (topStub p) = some r := by
  rw [← opnQ_eq] at ho
  rw [← preQ_eq, ← denQ_eq, ← tabQ_eq] at h2
  rw [← blkQ_eq] at h3
  rw [← blkXQ_eq] at k
  rw [← opnSQ_eq]
  obtain ⟨a1, a2, a3, _⟩ := opnF_ok (opn_eq ho)
  refine ⟨a1, a2, ?_⟩
  rw [← a3]
  cases e : preR M n0 ann p w with
  | none => rw [e] at h2; cases h2
  | some z =>
    obtain ⟨s, t⟩ := z
    rw [e] at h2
    have ht : t = ⟨denote treeTable (codP p code fr), codP p code fr, Q0, [topFrame Q0]⟩ := Option.some.inj h2
    subst ht
    have es : preX M n0 ann p w = s := by
      unfold preX
      rw [e]
    refine preT_ok (show preT n0 ann p w 1000 (opnX M p w) (topStub p) = _ from e) ?_
    cases e3 : blkR M n0 ann p w code fr with
    | none => rw [e3] at h3; cases h3
    | some z =>
      obtain ⟨f, s2, c, q⟩ := z
      rw [e3] at h3
      have hz : (f, c, q) = (Flow.next, codP p code fr, Q0) := Option.some.inj h3
      have hf : f = Flow.next := congrArg (·.1) hz
      have hc : c = codP p code fr := congrArg (·.2.1) hz
      have hq : q = Q0 := congrArg (·.2.2) hz
      subst hf hc hq
      have es2 : blkX M n0 ann p w code fr = s2 := by
        unfold blkX
        rw [e3]
      rw [es2] at k
      unfold blkR at e3
      rw [es] at e3
      exact piece_block (segF_ok e3) k
end
/-- a law's head by parts: the run w, the looks at its end X -/
theorem head_parts {r : OpenRow} {q : Program} {H : Hook} {ob : SharedT → H.α} {M M' n0 : Nat} {ann : Option Value} {loose : List PySem.Str} {d : DefRec} {kwd : List (PySem.Str × PySem.Expr)} {X : World → SharedT} (ho : ∀ s : SharedT, ob s = H.obs s.abs)
    (run : ∀ w, fencedOpening treeTable r.prog w M = some (opnSQ M r.prog w) ∧ ((opnSQ M r.prog w).heap.isNs mainGlobals && (opnSQ M r.prog w).gens.size == 0) = true ∧ topRun treeTable r.prog w n0 ann M' (opnSQ M r.prog w) (topStub r.prog) = some (X w).abs)
    (le : Nat.ble M' M = true) (hn : ∀ w, ((opnSQ M r.prog w).heap.objs.size, (opnSQ M r.prog w).heap.nsMap mainGlobals "__annotations__") = (n0, ann))
    (l1 : ∀ w, looksF r.prog (opnSQ M r.prog w).heap (X w).abs = true)
    (l2 : ∀ w, seenQ q loose (importedModules r.prog.main.body) (fun s => xlAt q [] s && recOk r.toRowW.records s) (X w).abs = openGood q loose)
    (l3 : ∀ w, ob (X w) = H.val w)
    (hdef : defOf q r.name = some (d, kwd)) (hp : r.prog.theDef r.name = some (d.params, d.body, d.scope)) (hk : kwWritten? d.params.kwonlyargs d.params.kw_defaults = some kwd)
    (hwr : (!r.writes || r.records.isEmpty) = true) (k1 : r.wellSaid = true) (ok : (chainsOk q && opensWell r.prog && (frees r.toRowW && r.within.isEmpty)) = true) (hb : r.prog.bare) (hw : r.toRowW.promised)
    (call : WalkO q loose (XL q []) H.says r.toRowW d kwd fun f vs => PySem.call f vs) : r.Holds := by
  have left : LeftO r.prog q loose (fun s => xlAt q [] s && recOk r.toRowW.records s) H.obs H.val M true := fun w => by
    obtain ⟨a, b, c⟩ := run w
    obtain ⟨z1, z2⟩ := Prod.mk.inj (hn w)
    have c' := topRun_mono (M - M') _ _ _ _ c
    rw [show M' + (M - M') = M by have := Nat.le_of_ble_eq_true le; omega] at c'
    have l1' : (staticsOk (importedModules r.prog.main.body) (opnSQ M r.prog w).heap (X w).abs.heap && namesBound r.prog (X w).abs.heap && gensDone (X w).abs && laidKept (opnSQ M r.prog w).heap (X w).abs.heap) = true := l1 w
    have t : topFrom treeTable r.prog w M (opnSQ M r.prog w) = some (X w).abs := by
      unfold topFrom
      rw [b, z1, z2]
      show (topRun treeTable r.prog w n0 ann M (opnSQ M r.prog w) (topStub r.prog)).bind _ = _
      rw [c']
      show (match staticsOk (importedModules r.prog.main.body) (opnSQ M r.prog w).heap (X w).abs.heap && namesBound r.prog (X w).abs.heap && gensDone (X w).abs && laidKept (opnSQ M r.prog w).heap (X w).abs.heap with | true => some (X w).abs | false => none) = _
      rw [l1']
    unfold openEnds
    rw [a]
    show (topFrom treeTable r.prog w M (opnSQ M r.prog w)).map _ = _
    rw [t]
    have l2' := l2 w
    rw [← seenQ_eq] at l2'
    exact congrArg some (Prod.ext l2' ((ho (X w)).symm.trans (l3 w)))
  exact holds_open (r := r) (q := q) (loose := loose) (XP := XL q []) (YP := H.says) (d := d) (kwd := kwd) left H.of H.keeps (fun s z => xl_of s (Bool.and_eq_true_iff.mp z).1) XL.keeps hdef hp hk (fun s z => recFacts_of (Bool.and_eq_true_iff.mp z).2) hwr k1 ok hb hw call
end Mi
end
end

section
set_option maxRecDepth 100000
set_option maxHeartbeats 0
/-! ### the head of k14 -/
noncomputable section
namespace K14
open PySem PySem.W PySem.Calls PySem.Spec PyProof.Rows L2 Mi HandSHeadRun PySem.W.Fast
abbrev R : PySem.W.OpenRow := PySem.W.OpenLaw.row PySem.Challenge.rw_spiralsays_k14_who_stands_above_whom
abbrev hM : Nat := 200000
abbrev hcd : Value := .ref 41
abbrev han : Option Value := some (.ref 6)
abbrev hsx : Sx := ⟨hM, 39, han, hcd, 42, "/claim/cut.py", 370, 43, 376, 40, .str "__main__" 164⟩
def X0 (w : World) : SharedT := blkXQ hM 39 han R.prog w hcd 42
abbrev hB : List Stmt := behindTheImports R.prog
def X23 (w : World) : SharedT := nxtX hsx R.prog w (X0 w) 0 23
def X47 (w : World) : SharedT := nxtX hsx R.prog w (X23 w) 23 24
def X56 (w : World) : SharedT := nxtX hsx R.prog w (X47 w) 47 9
abbrev hq : Program := view R.prog [0, 56]
def hloose : List Str := (R.prog.main.scope.names.map (·.1)).filter (fun x => !decide (x = "law"))
theorem o1 (w : World) : (opnQ hM R.prog w).isSome = true := by kernel_rfl
theorem o2 (w : World) : (preQ hM 39 han R.prog w).map (·.2) = some ⟨denQ tabQ (codP R.prog hcd 42), codP R.prog hcd 42, Q0, [topFrame Q0]⟩ := by kernel_rfl
theorem o3 (w : World) : (blkQ hM 39 han R.prog w hcd 42).map (fun x => (x.1, x.2.2)) = some (.next, codP R.prog hcd 42, Q0) := by kernel_rfl
theorem p_0 (w : World) : pieQ 39 han R.prog w hcd 42 9000 (X0 w) (partL hB 0 23) Q0 = some (.next, X23 w, codP R.prog hcd 42, ⟨209, 0, 209, 8⟩) := by kernel_rfl
theorem p_23 (w : World) : pieQ 39 han R.prog w hcd 42 9000 (X23 w) (partL hB 23 24) ⟨209, 0, 209, 8⟩ = some (.next, X47 w, codP R.prog hcd 42, ⟨385, 0, 389, 154⟩) := by kernel_rfl
theorem p_47 (w : World) : pieQ 39 han R.prog w hcd 42 9000 (X47 w) (partL hB 47 9) ⟨385, 0, 389, 154⟩ = some (.next, X56 w, codP R.prog hcd 42, ⟨454, 0, 464, 15⟩) := by kernel_rfl
theorem e0 : hB.drop 56 = [] := by kernel_rfl
theorem e1 (w : World) : finQ 39 han R.prog w hcd 42 (X56 w) ⟨454, 0, 464, 15⟩ = some (X56 w) := by kernel_rfl
theorem e2 (w : World) : ((opnSQ hM R.prog w).heap.objs.size, (opnSQ hM R.prog w).heap.nsMap mainGlobals "__annotations__") = (39, han) := by kernel_rfl
theorem e3 (w : World) : looksF R.prog (opnSQ hM R.prog w).heap (X56 w).abs = true := by kernel_rfl
theorem e4 (w : World) : seenQ hq hloose (importedModules R.prog.main.body) (fun s => xlAt hq [] s && recOk R.toRowW.records s) (X56 w).abs = openGood hq hloose := by kernel_rfl
theorem e5 (w : World) : obG tab "law" 0 0 (X56 w) = true := by kernel_rfl
theorem r_56 (w : World) : topRun treeTable R.prog w 39 han (100) (X56 w).abs (restOf (hB.drop 56) (envP R.prog hcd 42) (codP R.prog hcd 42) ⟨454, 0, 464, 15⟩ [topFrame Q0]) = some (X56 w).abs := part_end e0 (e1 w)
theorem r_47 (w : World) : topRun treeTable R.prog w 39 han (9000 + (100)) (X47 w).abs (restOf (hB.drop 47) (envP R.prog hcd 42) (codP R.prog hcd 42) ⟨385, 0, 389, 154⟩ [topFrame Q0]) = some (X56 w).abs := part_step (N := 9000) (T := 100) (a := 47) (m := 9) (b := 56) rfl (p_47 w) (r_56 w)
theorem r_23 (w : World) : topRun treeTable R.prog w 39 han (9000 + (9000 + (100))) (X23 w).abs (restOf (hB.drop 23) (envP R.prog hcd 42) (codP R.prog hcd 42) ⟨209, 0, 209, 8⟩ [topFrame Q0]) = some (X56 w).abs := part_step (N := 9000) (T := 9000 + (100)) (a := 23) (m := 24) (b := 47) rfl (p_23 w) (r_47 w)
theorem r_0 (w : World) : topRun treeTable R.prog w 39 han (9000 + (9000 + (9000 + (100)))) (X0 w).abs (restOf (hB.drop 0) (envP R.prog hcd 42) (codP R.prog hcd 42) Q0 [topFrame Q0]) = some (X56 w).abs := part_step (N := 9000) (T := 9000 + (9000 + (100))) (a := 0) (m := 23) (b := 23) rfl (p_0 w) (r_23 w)
theorem hrun (w : World) : fencedOpening treeTable R.prog w hM = some (opnSQ hM R.prog w) ∧ ((opnSQ hM R.prog w).heap.isNs mainGlobals && (opnSQ hM R.prog w).gens.size == 0) = true ∧ topRun treeTable R.prog w 39 han (1000 + (1000 + (9000 + (9000 + (9000 + (100)))))) (opnSQ hM R.prog w) (topStub R.prog) = some (X56 w).abs :=
  by
  have k := r_0 w
  unfold X0 at k
  exact part_start (T := 9000 + (9000 + (9000 + (100)))) (o1 w) (o2 w) (o3 w) k
theorem hname : (topDef R.prog 56).name = ("law" : PySem.Str) := by kernel_rfl
theorem hdfl : (topDef R.prog 56).params.defaults = [] := by kernel_rfl
theorem hfi0 : tab.P.fs[0]? = some (⟨1, 6, b_law, []⟩ : FI) := by rfl
theorem hN0 : (tab.N.getD 0 []).take 1 = (["_law_script"] : List PySem.Str) := by rfl
theorem hcall (main : ∀ ns : List Int, ns.length ≤ 63 → ∃ S', Mi.run tab.P 60 (.fn 0 [.scr (ns.map .int)]) [] = .ok (.bl true) S') :
    WalkO hq hloose (XL hq []) (hook tab "law" 0 0).says R.toRowW (topDef R.prog 56) [] (fun f vs => PySem.call f vs) := by
  refine LamX.walk_ofTsE (l := PySem.Challenge.rw_spiralsays_k14_who_stands_above_whom) (n := 63) (k := 60) (x := "_law_script") (CX := fun _ => L2.CX0) rfl (by decide) hdfl ⟨rfl, by decide, by decide⟩ ?F (fun _ _ _ _ _ z => z)
  intro w mg fa h Y G hmg0
  rw [hname] at hmg0
  exact law_facts (t := tab) (law := "law") (f := 0) (fi := ⟨1, 6, b_law, []⟩) (k := 59) (n := 63) (l := PySem.Challenge.rw_spiralsays_k14_who_stands_above_whom) hfi0 rfl hN0 main (.inl Y) G hmg0
theorem hdef0 : defOf hq R.name = some (topDef R.prog 56, []) := by kernel_rfl
theorem hp0 : R.prog.theDef R.name = some ((topDef R.prog 56).params, (topDef R.prog 56).body, (topDef R.prog 56).scope) := by kernel_rfl
theorem hk0 : kwWritten? (topDef R.prog 56).params.kwonlyargs (topDef R.prog 56).params.kw_defaults = some [] := by kernel_rfl
theorem hwr0 : (!R.writes || R.records.isEmpty) = true := by rfl
theorem hok0 : (chainsOk hq && opensWell R.prog && (frees R.toRowW && R.within.isEmpty)) = true := by decide +kernel
theorem hba0 : R.prog.bare := ⟨rfl, rfl, rfl, rfl, rfl, by decide +kernel⟩
theorem hpr0 : R.toRowW.promised := by w_witness2
theorem hle0 : Nat.ble (1000 + (1000 + (9000 + (9000 + (9000 + (100)))))) hM = true := by decide
theorem holds_row (main : ∀ ns : List Int, ns.length ≤ 63 → ∃ S', Mi.run tab.P 60 (.fn 0 [.scr (ns.map .int)]) [] = .ok (.bl true) S') (said : R.wellSaid = true) : R.Holds :=
  head_parts (r := R) (q := hq) (H := hook tab "law" 0 0) (ob := obG tab "law" 0 0) (M := hM) (M' := 1000 + (1000 + (9000 + (9000 + (9000 + (100)))))) (n0 := 39) (ann := han) (loose := hloose) (d := topDef R.prog 56) (kwd := []) (X := X56) (obG_eq tab "law" 0 0)
    hrun hle0 e2 e3 e4 e5 hdef0 hp0 hk0 hwr0 said hok0 hba0 hpr0 (hcall main)
end K14
end
end

open PySem PySem.W PyProof.Rows
set_option maxRecDepth 100000 in
set_option maxHeartbeats 0 in
theorem PySem.Challenge.cw_spiralsays_k14_who_stands_above_whom_holds : PySem.Challenge.rw_spiralsays_k14_who_stands_above_whom.Holds := by
  w_on
  o_law
  exact K14.holds_row K14.main (by assumption)
