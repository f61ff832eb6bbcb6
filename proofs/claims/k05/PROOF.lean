import PyProof.Rows.All
import Wide.All
import OpenK.AllK
import Wide.FinOn
import HandS.ForMost
import HandS.Wide
import HandS.Lambda
import HandS.ExcInit
import HandS.WideBits
import HandS.SortInts
import HandS.Style
import HandS.Small
import HandS.Deep
import HandS.Flow
import HandS.IsInst
import HandS.Walk
import HandS.RevRange
import HandS.NoneIn
import HandS.SetFor
import PyProof.FactsAll.list_3
import PyProof.FactsAll.list_4
import HandS.Strs
import HandS.Conv
import HandS.TupSets
import HandS.TupLe
import HandS.DictTup
import KE.KDictDisplayH
import KE.SortKeyHeap
import HandS.ExcValue
import HandS.Exc
import HandS.ExcOwn
import HandS.ExcIs
import HandS.ExcField
import HandS.WordsExc
import HandS.TryOnly
import KE.KExcIs
import HandS.ClsMeth
import KE.DataMinMax
import KE.SortData
import PyProof.Rows.RowBridgeK
import HandS.Text
import KE.GoesComp
import KE.KStateDown
import HandS.Codes
import HandS.More
import HandS.Words
import HandS.Defaults
import HandS.Head0
import HandS.Head1
import HandS.Head2
import HandS.HeadEnd
import HandS.HeadHook1
import HandS.HeadHook2
import HandS.EndBits
import HandS.EndTab
import HandS.HeadHook4
import HandS.NestedK
import PySem.Challenge.RW_basehouse_k05_sets_written
set_option Elab.async false
set_option linter.all false
set_option maxRecDepth 100000
set_option autoImplicit false
set_option maxHeartbeats 2000000
/-! Ev: values as trees, a small language, its evaluator -/
namespace Ev
open PySem PySem.Spec PyProof.Rows L2

/-- a Python value as a tree -/
inductive D where
  | non | bl (b : Bool) | int (i : Int) | str (x : Str)
  | lst (xs : List D) | tup (xs : List D) | scr (ns : List Int)
  | dK (kvs : List (Key × D)) | dT (kvs : List (List Key × D))
  | obj (c : Nat) (fs : List (Str × D)) | fn (f : Nat)
  | exv (c : Nat) (fs : List (Str × Int)) | xc (c : Nat) (fs : List D)
  deriving Inhabited

/-- what a run gives -/
inductive R (α : Type) where
  | ok (a : α) | exc (c : Nat) (fs : List D) | bad
def R.bind {α β : Type} (r : R α) (f : α → R β) : R β := match r with
  | .ok a => f a
  | .exc c fs => .exc c fs
  | .bad => .bad
theorem R.bind_ok {α β : Type} (a : α) (f : α → R β) : (R.ok a).bind f = f a := rfl
theorem R.bind_exc {α β : Type} (c : Nat) (fs : List D) (f : α → R β) : (R.exc c fs : R α).bind f = .exc c fs := rfl
theorem R.bind_bad {α β : Type} (f : α → R β) : (R.bad : R α).bind f = .bad := rfl
theorem R.bind_assoc {α β γ : Type} (r : R α) (f : α → R β) (g : β → R γ) : (r.bind f).bind g = r.bind fun a => (f a).bind g := by cases r <;> rfl
/-- what must hold of a run -/
def wpR {α : Type} (r : R α) (Q : α → Prop) (E : Nat → List D → Prop) : Prop := match r with
  | .ok a => Q a
  | .exc c fs => E c fs
  | .bad => False
theorem wpR_bind {α β : Type} {r : R α} {f : α → R β} {Q : β → Prop} {E : Nat → List D → Prop} (h : wpR (r.bind f) Q E) : wpR r (fun a => wpR (f a) Q E) E := by
  cases r with
  | ok a => exact h
  | exc c fs => exact h
  | bad => exact h
theorem wpR_mono {α : Type} {r : R α} {Q Q' : α → Prop} {E E' : Nat → List D → Prop} (h : wpR r Q E) (hq : ∀ a, Q a → Q' a) (he : ∀ c fs, E c fs → E' c fs) : wpR r Q' E' := by
  cases r with
  | ok a => exact hq _ h
  | exc c fs => exact he _ _ h
  | bad => exact h

/-- what the tree's classes and functions are called in memory -/
structure Tab where
  K : PySem.W.Frag
  cl : Nat → Addr
  fa : Nat → Addr

/-- a table of code objects -/
def isT : HO → Bool
  | .tbl _ => true
  | _ => false
/-- the tables that are told of, with the names of their code objects -/
class Tbs where
  l : List (Addr × Str)
/-- an exception that was caught -/
def excO (a : Addr) (cls : Value) (d : Option Addr) : HO := .ext fun h => ∃ (oe : Obj) (vs : Array Value), h.get? a = some oe ∧ oe.cls = cls ∧ oe.dict = d ∧ oe.data = .fields vs
section
variable (T : Tab) (H : Hp) (S : Addr → Prop)
/-- its fields, whole numbers -/
def XFld (d : Option Addr) (fs : List (Str × Int)) : Prop := (d = none ∧ fs = []) ∨ ∃ dx, d = some dx ∧ S dx ∧ H dx = some (.xd (fs.map fun p => (p.1, V.int p.2)))
mutual
/-- the value v, in the heap H, is the tree d; its cells are in S -/
inductive Rep : V → D → Prop
  | non : Rep .non .non
  | bl (b : Bool) : Rep (.bl b) (.bl b)
  | int (i : Int) : Rep (.int i) (.int i)
  | str (x : Str) : Rep (.str x) (.str x)
  | fn (f : Nat) : Rep (.ref (T.fa f)) (.fn f)
  | lst {a : Addr} {vs : List V} {ds : List D} : S a → H a = some (.lst vs) → Reps vs ds → Rep (.ref a) (.lst ds)
  | tup {a : Addr} {vs : List V} {ds : List D} : S a → H a = some (.tup vs) → Reps vs ds → Rep (.ref a) (.tup ds)
  | scr {a : Addr} {ns : List Int} : S a → Rd H a (.lst (ns.map V.int)) → Rep (.ref a) (.scr ns)
  | scrK {a : Addr} {ns : List Int} : (∃ (o : Obj) (its : Array Value) (n : Nat), T.K.lookup a = some o ∧ o.cls = .type "list" ∧ o.dict = none ∧ o.data = .seq its n ∧ its.size ≤ sizeLine ∧ Vals (ns.map V.int) its.toList) → Rep (.ref a) (.scr ns)
  | dK {a : Addr} {vs : List (Key × V)} {ds : List (Key × D)} : S a → H a = some (.dK vs) → KReps vs ds → Rep (.ref a) (.dK ds)
  | dT {a : Addr} {vs : List (List Key × V)} {ds : List (List Key × D)} : S a → Rd H a (.dT vs) → TReps vs ds → Rep (.ref a) (.dT ds)
  | obj {a dx : Addr} {c : Nat} {vs : List (Str × V)} {ds : List (Str × D)} : S a → H a = some (.ins (T.cl c) dx vs) → FReps vs ds → Rep (.ref a) (.obj c ds)
  | exv {a : Addr} {d : Option Addr} {c : Nat} {fs : List (Str × Int)} : S a → H a = some (excO a (.ref (T.cl c)) d) → XFld H S d fs → Rep (.ref a) (.exv c fs)
inductive Reps : List V → List D → Prop
  | nil : Reps [] []
  | cons {v : V} {vs : List V} {d : D} {ds : List D} : Rep v d → Reps vs ds → Reps (v :: vs) (d :: ds)
inductive KReps : List (Key × V) → List (Key × D) → Prop
  | nil : KReps [] []
  | cons {k : Key} {v : V} {vs : List (Key × V)} {d : D} {ds : List (Key × D)} : Rep v d → KReps vs ds → KReps ((k, v) :: vs) ((k, d) :: ds)
inductive TReps : List (List Key × V) → List (List Key × D) → Prop
  | nil : TReps [] []
  | cons {k : List Key} {v : V} {vs : List (List Key × V)} {d : D} {ds : List (List Key × D)} : Rep v d → TReps vs ds → TReps ((k, v) :: vs) ((k, d) :: ds)
inductive FReps : List (Str × V) → List (Str × D) → Prop
  | nil : FReps [] []
  | cons {k : Str} {v : V} {vs : List (Str × V)} {d : D} {ds : List (Str × D)} : Rep v d → FReps vs ds → FReps ((k, v) :: vs) ((k, d) :: ds)
end
end

section
variable {T : Tab} {H H' : Hp} {S S' : Addr → Prop}
theorem XFld.mono (hs : ∀ a, S a → S' a) (hh : ∀ a o, S a → H a = some o → isT o = false → H' a = some o) {d : Option Addr} {fs : List (Str × Int)} (h : XFld H S d fs) : XFld H' S' d fs := h.imp id fun ⟨dx, e, s, q⟩ => ⟨dx, e, hs _ s, hh _ _ s q rfl⟩
mutual
theorem Rep.mono (hs : ∀ a, S a → S' a) (hh : ∀ a o, S a → H a = some o → isT o = false → H' a = some o) : ∀ {v : V} {d : D}, Rep T H S v d → Rep T H' S' v d
  | _, _, .non => .non
  | _, _, .bl b => .bl b
  | _, _, .int i => .int i
  | _, _, .str x => .str x
  | _, _, .fn f => .fn f
  | _, _, .lst h1 h2 h3 => .lst (hs _ h1) (hh _ _ h1 h2 rfl) (Reps.mono hs hh h3)
  | _, _, .tup h1 h2 h3 => .tup (hs _ h1) (hh _ _ h1 h2 rfl) (Reps.mono hs hh h3)
  | _, _, .scr h1 h2 => .scr (hs _ h1) (h2.imp (fun e => hh _ _ h1 e rfl) fun ⟨o, e⟩ => ⟨o, hh _ _ h1 e rfl⟩)
  | _, _, .scrK h => .scrK h
  | _, _, .dK h1 h2 h3 => .dK (hs _ h1) (hh _ _ h1 h2 rfl) (KReps.mono hs hh h3)
  | _, _, .dT h1 h2 h3 => .dT (hs _ h1) (h2.imp (fun e => hh _ _ h1 e rfl) fun ⟨o, e⟩ => ⟨o, hh _ _ h1 e rfl⟩) (TReps.mono hs hh h3)
  | _, _, .obj h1 h2 h3 => .obj (hs _ h1) (hh _ _ h1 h2 rfl) (FReps.mono hs hh h3)
  | _, _, .exv h1 h2 h3 => .exv (hs _ h1) (hh _ _ h1 h2 rfl) (h3.mono hs hh)
theorem Reps.mono (hs : ∀ a, S a → S' a) (hh : ∀ a o, S a → H a = some o → isT o = false → H' a = some o) : ∀ {v : List V} {d : List D}, Reps T H S v d → Reps T H' S' v d
  | _, _, .nil => .nil
  | _, _, .cons h t => .cons (Rep.mono hs hh h) (Reps.mono hs hh t)
theorem KReps.mono (hs : ∀ a, S a → S' a) (hh : ∀ a o, S a → H a = some o → isT o = false → H' a = some o) : ∀ {v : List (Key × V)} {d : List (Key × D)}, KReps T H S v d → KReps T H' S' v d
  | _, _, .nil => .nil
  | _, _, .cons h t => .cons (Rep.mono hs hh h) (KReps.mono hs hh t)
theorem TReps.mono (hs : ∀ a, S a → S' a) (hh : ∀ a o, S a → H a = some o → isT o = false → H' a = some o) : ∀ {v : List (List Key × V)} {d : List (List Key × D)}, TReps T H S v d → TReps T H' S' v d
  | _, _, .nil => .nil
  | _, _, .cons h t => .cons (Rep.mono hs hh h) (TReps.mono hs hh t)
theorem FReps.mono (hs : ∀ a, S a → S' a) (hh : ∀ a o, S a → H a = some o → isT o = false → H' a = some o) : ∀ {v : List (Str × V)} {d : List (Str × D)}, FReps T H S v d → FReps T H' S' v d
  | _, _, .nil => .nil
  | _, _, .cons h t => .cons (Rep.mono hs hh h) (FReps.mono hs hh t)
end
theorem Reps.length : ∀ {v : List V} {d : List D}, Reps T H S v d → v.length = d.length
  | _, _, .nil => rfl
  | _, _, .cons _ t => congrArg (· + 1) (Reps.length t)
theorem KReps.length : ∀ {v : List (Key × V)} {d : List (Key × D)}, KReps T H S v d → v.length = d.length
  | _, _, .nil => rfl
  | _, _, .cons _ t => congrArg (· + 1) (KReps.length t)
theorem TReps.length : ∀ {v : List (List Key × V)} {d : List (List Key × D)}, TReps T H S v d → v.length = d.length
  | _, _, .nil => rfl
  | _, _, .cons _ t => congrArg (· + 1) (TReps.length t)
theorem Reps.append : ∀ {v : List V} {d : List D} {v' : List V} {d' : List D}, Reps T H S v d → Reps T H S v' d' → Reps T H S (v ++ v') (d ++ d')
  | _, _, _, _, .nil, h => h
  | _, _, _, _, .cons h t, h' => .cons h (Reps.append t h')
theorem Reps.get : ∀ {v : List V} {d : List D} {i : Nat} {x : D}, Reps T H S v d → d[i]? = some x → ∃ y, v[i]? = some y ∧ Rep T H S y x
  | _, _, _, _, .nil, e => by simp at e
  | _, _, 0, _, .cons h _, e => by simp at e; subst e; exact ⟨_, rfl, h⟩
  | _, _, i + 1, x, .cons _ t, e => by
    obtain ⟨y, h1, h2⟩ := Reps.get (i := i) (x := x) t (by simpa using e)
    exact ⟨y, by simpa using h1, h2⟩
theorem Reps.getV : ∀ {v : List V} {d : List D} {i : Nat} {y : V}, Reps T H S v d → v[i]? = some y → ∃ x, d[i]? = some x ∧ Rep T H S y x
  | _, _, _, _, .nil, e => by simp at e
  | _, _, 0, _, .cons h _, e => by simp at e; subst e; exact ⟨_, rfl, h⟩
  | _, _, i + 1, x, .cons _ t, e => by
    obtain ⟨y, h1, h2⟩ := Reps.getV (i := i) (y := x) t (by simpa using e)
    exact ⟨y, by simpa using h1, h2⟩
theorem Reps.set : ∀ {v : List V} {d : List D} (i : Nat) {y : V} {x : D}, Reps T H S v d → Rep T H S y x → Reps T H S (v.set i y) (d.set i x)
  | _, _, _, _, _, .nil, _ => .nil
  | _, _, 0, _, _, .cons _ t, h => .cons h t
  | _, _, i + 1, _, _, .cons h t, h' => .cons h (Reps.set i t h')
theorem Reps.take : ∀ {v : List V} {d : List D} (n : Nat), Reps T H S v d → Reps T H S (v.take n) (d.take n)
  | _, _, 0, _ => by simp; exact .nil
  | _, _, n + 1, .nil => .nil
  | _, _, n + 1, .cons h t => .cons h (Reps.take n t)
theorem Reps.drop : ∀ {v : List V} {d : List D} (n : Nat), Reps T H S v d → Reps T H S (v.drop n) (d.drop n)
  | _, _, 0, h => h
  | _, _, n + 1, .nil => .nil
  | _, _, n + 1, .cons _ t => Reps.drop n t
theorem Reps.reverse : ∀ {v : List V} {d : List D}, Reps T H S v d → Reps T H S v.reverse d.reverse
  | _, _, .nil => .nil
  | _, _, .cons h t => by
    rw [List.reverse_cons, List.reverse_cons]
    exact (Reps.reverse t).append (.cons h .nil)
theorem Reps.ints : ∀ {ns : List Int}, Reps T H S (ns.map V.int) (ns.map D.int)
  | [] => .nil
  | n :: ns => .cons (.int n) Reps.ints
end

/-- a cell that may be changed: the trees of lists and dicts -/
def D.cell : D → Bool
  | .lst _ => true
  | .dK _ => true
  | .dT _ => true
  | _ => false
/-- a list or dict whose own cell is at a; what is in it has its cells in S -/
inductive At (T : Tab) (H : Hp) (S : Addr → Prop) (a : Addr) : D → Prop
  | lst {vs : List V} {ds : List D} : H a = some (.lst vs) → Reps T H S vs ds → At T H S a (.lst ds)
  | dK {vs : List (Key × V)} {ds : List (Key × D)} : H a = some (.dK vs) → KReps T H S vs ds → At T H S a (.dK ds)
  | dT {vs : List (List Key × V)} {ds : List (List Key × D)} : H a = some (.dT vs) → TReps T H S vs ds → At T H S a (.dT ds)
section
variable {T : Tab} {H H' : Hp} {S S' : Addr → Prop} {a : Addr} {d : D} {v : V}
theorem At.mono (hs : ∀ a, S a → S' a) (hh : ∀ a o, S a → H a = some o → isT o = false → H' a = some o) (ha : ∀ o, H a = some o → isT o = false → H' a = some o) (h : At T H S a d) : At T H' S' a d := by
  cases h with
  | lst e r => exact .lst (ha _ e rfl) (r.mono hs hh)
  | dK e r => exact .dK (ha _ e rfl) (r.mono hs hh)
  | dT e r => exact .dT (ha _ e rfl) (r.mono hs hh)
theorem At.cell (h : At T H S a d) : d.cell = true := by cases h <;> rfl
theorem At.some (h : At T H S a d) : ∃ o, H a = some o := by
  cases h with
  | lst e r => exact ⟨_, e⟩
  | dK e r => exact ⟨_, e⟩
  | dT e r => exact ⟨_, e⟩
theorem At.rep (h : At T H S a d) (hs : S a) : Rep T H S (.ref a) d := by
  cases h with
  | lst e r => exact .lst hs e r
  | dK e r => exact .dK hs e r
  | dT e r => exact .dT hs (.inl e) r
/-- a cell that may be changed is no tuple -/
theorem At.notTup (h : At T H S a d) {o : HO} (e : H a = Option.some o) : ∀ vs, o ≠ .tup vs := by
  intro vs z
  subst z
  cases h with
  | lst e' r => rw [e] at e'; cases e'
  | dK e' r => rw [e] at e'; cases e'
  | dT e' r => rw [e] at e'; cases e'
end
/-- to be read: all cells in S, or but the topmost one -/
def Top (T : Tab) (H : Hp) (S : Addr → Prop) (v : V) (d : D) : Prop := Rep T H S v d ∨ ∃ a, v = .ref a ∧ At T H S a d
theorem Top.mono {T : Tab} {H H' : Hp} {S S' : Addr → Prop} {d : D} {v : V} (hs : ∀ a, S a → S' a) (hh : ∀ a o, H a = some o → isT o = false → H' a = some o) (h : Top T H S v d) : Top T H' S' v d :=
  h.imp (fun h => h.mono hs fun a o _ => hh a o) fun ⟨a, e, h⟩ => ⟨a, e, h.mono hs (fun a o _ => hh a o) (hh a)⟩

/-- new, or a tuple -/
def Nw (H : Hp) (a : Addr) : Prop := H a = none ∨ ∃ vs, H a = some (.tup vs)
theorem Nw.no {H : Hp} {a : Addr} (h : Nw H a) {o : HO} (e : H a = some o) (ho : ∀ vs, o ≠ .tup vs) : False := by
  rcases h with h | ⟨vs, h⟩
  · rw [h] at e; cases e
  · rw [h] at e; cases e; exact ho vs rfl
theorem isT_no {o : HO} (h : isT o = false) : ∀ ps, o ≠ .tbl ps := fun ps z => by rw [z] at h; cases h
variable [Tbs]
/-- what is told of the tables -/
def TbsOk (H : Hp) : Prop := LamX.Tabs Tbs.l H
theorem TbsOk.ext {H H' : Hp} (t : TbsOk H) (e : ∀ b o, H b = some o → H' b = some o) : TbsOk H' := LamX.Tabs.ext t e
theorem TbsOk.same {H H' : Hp} (t : TbsOk H) (h : ∀ a o, H a = some o → isT o = true ∨ (∃ φ, o = .ext φ) → H' a = some o) : TbsOk H' := fun p hp => by
  obtain ⟨ps, g1, g2, g3⟩ := t p hp
  refine ⟨ps, h _ _ g1 (.inl rfl), g2, fun pos cv hc => ?_⟩
  obtain ⟨c, e1, e2⟩ := g3 pos cv hc
  exact ⟨c, e1, h _ _ e2 (.inr ⟨_, rfl⟩)⟩
/-- a cell is changed that is no table and no code object -/
theorem TbsOk.upd {H : Hp} {a : Addr} {u o : HO} (t : TbsOk H) (h : H a = some u) (h1 : isT u = false) (h2 : ∀ φ, u ≠ .ext φ) : TbsOk (upd H a o) := fun p hp => by
  obtain ⟨ps, g1, g2, g3⟩ := t p hp
  refine ⟨ps, by rw [upd_ne fun z => by rw [z, h] at g1; cases g1; cases h1]; exact g1, g2, fun pos cv hc => ?_⟩
  obtain ⟨c, e1, e2⟩ := g3 pos cv hc
  exact ⟨c, e1, by rw [upd_ne fun z => by rw [z, h] at e2; cases e2; exact h2 _ rfl]; exact e2⟩
/-- an expression has run: nothing that stood was changed but tables, new cells may have come -/
structure Ext (F : Addr → Prop) (H : Hp) (F' : Addr → Prop) (H' : Hp) : Prop where
  keep : ∀ a o, H a = some o → isT o = false → H' a = some o
  tb : ∀ a ps, H a = some (.tbl ps) → ∃ ps', H' a = some (.tbl ps')
  sub : ∀ a, F a → F' a
  new : ∀ a, F' a → F a ∨ (Nw H a ∧ ∃ o, H' a = some o)
  tabs : TbsOk H → TbsOk H'
theorem Ext.all {F F' : Addr → Prop} {H H' : Hp} (k : ∀ a o, H a = some o → H' a = some o) (hs : ∀ a, F a → F' a) (hn : ∀ a, F' a → F a ∨ (Nw H a ∧ ∃ o, H' a = some o)) : Ext F H F' H' := ⟨fun a o h _ => k a o h, fun a ps h => ⟨ps, k a _ h⟩, hs, hn, fun t => t.ext k⟩
theorem Ext.refl (F : Addr → Prop) (H : Hp) : Ext F H F H := .all (fun _ _ h => h) (fun _ h => h) fun _ h => .inl h
theorem Ext.there {F F' : Addr → Prop} {H H' : Hp} (x : Ext F H F' H') {a : Addr} {o : HO} (h : H a = some o) : ∃ o, H' a = some o := by
  cases t : isT o with
  | false => exact ⟨o, x.keep a o h t⟩
  | true =>
    unfold isT at t
    split at t
    · obtain ⟨ps, e⟩ := x.tb a _ h; exact ⟨_, e⟩
    · cases t
theorem Ext.non {F F' : Addr → Prop} {H H' : Hp} (x : Ext F H F' H') (a : Addr) (h : H' a = none) : H a = none := by
  cases e : H a with
  | none => rfl
  | some o =>
    obtain ⟨u, e⟩ := x.there e
    rw [h] at e; cases e
theorem Ext.back {F F' : Addr → Prop} {H H' : Hp} (x : Ext F H F' H') {a : Addr} {o u : HO} (h : H a = some o) (h' : H' a = some u) (n : isT u = false) : o = u := by
  cases t : isT o with
  | false => rw [x.keep a o h t] at h'; cases h'; rfl
  | true =>
    unfold isT at t
    split at t
    · obtain ⟨ps, e⟩ := x.tb a _ h; rw [e] at h'; cases h'; cases n
    · cases t
theorem Ext.trans {F F1 F2 : Addr → Prop} {H H1 H2 : Hp} (a : Ext F H F1 H1) (b : Ext F1 H1 F2 H2) : Ext F H F2 H2 :=
  ⟨fun c o h n => b.keep c o (a.keep c o h n) n, fun c ps h => (a.tb c ps h).elim fun ps' h => b.tb c ps' h, fun c h => b.sub c (a.sub c h), fun c h => by
    rcases b.new c h with h | ⟨h, o, e⟩
    · rcases a.new c h with h | ⟨h, o, e⟩
      · exact .inl h
      · exact .inr ⟨h, b.there e⟩
    · refine .inr ⟨?_, o, e⟩
      cases q : H c with
      | none => exact .inl q
      | some z => exact .inr (by
          rcases h with h | ⟨vs, h⟩
          · rw [a.non c h] at q; cases q
          · cases t : isT z with
            | false => rw [a.keep c z q t] at h; cases h; exact ⟨vs, q⟩
            | true =>
              unfold isT at t
              split at t
              · obtain ⟨ps, e⟩ := a.tb c _ q; rw [e] at h; cases h
              · cases t), fun t => b.tabs (a.tabs t)⟩
/-- a cell that is new is changed -/
theorem Ext.over {F F' : Addr → Prop} {H H' : Hp} {p : Addr} {u o : HO} (x : Ext F H F' H') (hp : H p = none) (hf : ¬ F' p) (e : H' p = some u) (n : isT u = false) (m : ∀ φ, u ≠ .ext φ) : Ext F H F' (upd H' p o) :=
  ⟨fun a w ha hw => by rw [upd_ne (ne_of_none ha hp)]; exact x.keep a w ha hw, fun a ps ha => by rw [upd_ne (ne_of_none ha hp)]; exact x.tb a ps ha, x.sub, fun a ha => (x.new a ha).imp (fun z => z) fun ⟨z, w, hw⟩ => ⟨z, w, by rw [upd_ne fun z => hf (by rw [← z]; exact ha)]; exact hw⟩, fun t => (x.tabs t).upd e n m⟩
/-- a new cell, not frozen -/
theorem Ext.laid {F : Addr → Prop} {H : Hp} {p : Addr} {o : HO} (h : H p = none) : Ext F H F (upd H p o) :=
  .all (fun a u e => by rw [upd_ne (ne_of_none e h)]; exact e) (fun _ h => h) fun _ h => .inl h
/-- a new cell, frozen -/
theorem Ext.laidF {F : Addr → Prop} {H : Hp} {p : Addr} {o : HO} (h : H p = none) : Ext F H (fun a => F a ∨ a = p) (upd H p o) :=
  .all (fun a u e => by rw [upd_ne (ne_of_none e h)]; exact e) (fun _ h => .inl h) fun a ha => ha.imp (fun h => h) fun e => by subst e; exact ⟨.inl h, o, upd_same⟩
theorem Rep.ext {T : Tab} {F F' : Addr → Prop} {H H' : Hp} {v : V} {d : D} (x : Ext F H F' H') (h : Rep T H F v d) : Rep T H' F' v d := h.mono x.sub fun a o _ => x.keep a o
theorem Reps.ext {T : Tab} {F F' : Addr → Prop} {H H' : Hp} {v : List V} {d : List D} (x : Ext F H F' H') (h : Reps T H F v d) : Reps T H' F' v d := h.mono x.sub fun a o _ => x.keep a o
theorem Top.ext {T : Tab} {F F' : Addr → Prop} {H H' : Hp} {v : V} {d : D} (x : Ext F H F' H') (h : Top T H F v d) : Top T H' F' v d := h.mono x.sub x.keep

/-- how an expression's value may be used: its own new cell, which may be changed; frozen; to be read alone -/
inductive Qu where
  | fresh | clean | dirty
  deriving DecidableEq
def ResOk (T : Tab) (q : Qu) (H : Hp) (F' : Addr → Prop) (H' : Hp) (v : V) (d : D) : Prop := match q with
  | .fresh => if d.cell = true then ∃ a, v = .ref a ∧ H a = none ∧ ¬ F' a ∧ At T H' F' a d else Rep T H' F' v d
  | .clean => Rep T H' F' v d
  | .dirty => Top T H' F' v d
theorem ResOk.top {T : Tab} {q : Qu} {H : Hp} {F' : Addr → Prop} {H' : Hp} {v : V} {d : D} (h : ResOk T q H F' H' v d) : Top T H' F' v d := by
  cases q with
  | fresh =>
    unfold ResOk at h
    simp only at h
    split at h
    · obtain ⟨a, e, _, _, h⟩ := h; exact .inr ⟨a, e, h⟩
    · exact .inl h
  | clean => exact .inl h
  | dirty => exact h
/-- a value that may be frozen is frozen -/
theorem ResOk.rep {T : Tab} {q : Qu} {F : Addr → Prop} {H : Hp} {F' : Addr → Prop} {H' : Hp} {v : V} {d : D} (x : Ext F H F' H') (h : ResOk T q H F' H' v d) (hq : q ≠ .dirty) : ∃ F'', Ext F H F'' H' ∧ (∀ b, F' b → F'' b) ∧ Rep T H' F'' v d := by
  cases q with
  | fresh =>
    unfold ResOk at h
    simp only at h
    split at h
    · obtain ⟨a, e, hn, hf, h⟩ := h
      obtain ⟨o, ho⟩ := h.some
      have y : Ext F H (fun b => F' b ∨ b = a) H' := ⟨x.keep, x.tb, fun b hb => .inl (x.sub b hb), fun b hb => (by
        rcases hb with hb | rfl
        · exact x.new b hb
        · exact .inr ⟨.inl hn, o, ho⟩), x.tabs⟩
      refine ⟨fun b => F' b ∨ b = a, y, fun b hb => .inl hb, ?_⟩
      subst e
      exact (h.mono (fun b hb => .inl hb) (fun _ _ _ h _ => h) fun _ h _ => h).rep (.inr rfl)
    · exact ⟨F', x, fun _ h => h, h⟩
  | clean => exact ⟨F', x, fun _ h => h, h⟩
  | dirty => exact absurd rfl hq
end Ev

set_option maxHeartbeats 2000000
namespace Ev
open PySem PySem.Spec PyProof.Rows L2

/-- built-in functions and types that are called -/
inductive BF where
  | len | list | int_ | min2 | max2 | minL | maxL | sum | sorted | any | all
  deriving DecidableEq
/-- methods of built-in types that change nothing -/
inductive BM where
  | bitLength | get | copy | index
  deriving DecidableEq
/-- methods of a list that change it -/
inductive MM where
  | app | ins | clear | rev | rem
  deriving DecidableEq
/-- methods of a list that take an item out -/
inductive MP where
  | pop0 | popAt
  deriving DecidableEq
/-- a target: one name, a tuple of names -/
inductive Tg where
  | one (i : Nat) | many (is : List Nat)

/-- what a slot holds: own: a cell of this call alone; lol: a list of this call alone whose elements may be cells of this call alone; frz: frozen; brw: to be read alone -/
inductive Mo where
  | own | frz | brw | lol
  deriving DecidableEq
/-- dicts with tuples as keys -/
inductive TX where
  | new | one | get | copy | list | sub | sort | le | min | find | join | split
  deriving DecidableEq
mutual
inductive ME where
  | var (i : Nat) | int (i : Int) | bl (b : Bool) | non | str (x : Str) | gstr (n x : Str)
  | bin (op : Operator) (a b : ME) | neg (a : ME) | inv (a : ME)
  | cmp (op : CmpOp) (a b : ME) | chain (op op' : CmpOp) (a b c : ME)
  | isN (a : ME) | notN (a : ME)
  | and_ (a b : ME) | or_ (a b : ME) | orv (a b : ME) | not_ (a : ME) | ife (c a b : ME)
  | sub (a b : ME) | subL (i : Nat) (b : ME) | slice (a : ME) (lo hi : Option ME) | rev (a : ME) | stp (a : ME) (lo st : Option ME)
  | tup (es : MEs) | lst (es : MEs) | dct0
  | call (f : Nat) (es : MEs) | bf (f : BF) (es : MEs) | bm (m : BM) (o : ME) (es : MEs)
  | meth (m : Nat) (o : ME) (es : MEs) | make (c : Nat) (es : MEs) | attr (o : ME) (f : Nat)
  | isi (a : ME) (ty : String) | lrng (a : ME) | sset (a : ME) | keyed (i : Nat) (a : ME) | tx (op : TX) (es : MEs)
  | comp (elt : ME) (own : List (Str × Nat)) (t : Tg) (src : MI) (cond : Option ME)
inductive MEs where
  | nil | cons (e : ME) (es : MEs)
inductive MI where
  | plain (e : ME) | range1 (e : ME) | range2 (a b : ME) | rev1 (e : ME) | revL (e : ME) | enum (e : ME) | items (e : ME) | chars (e : ME)
end
mutual
/-- expressions that may raise -/
inductive MX where
  | pl (e : ME) | call (f : Nat) (es : MEs) | tup (es : MXs) | comp (elt : MX) (own : List (Str × Nat)) (t : Tg) (src : MI)
inductive MXs where
  | nil | cons (e : MX) (es : MXs)
end
/-- the body of a loop over a list of one's own that stands -/
inductive MB where
  | asg (j : Nat) (e : ME) | setI (j : Nat) (k e : ME) | iff (c : ME) (b : MB)
mutual
inductive MS where
  | asg (i : Nat) (e : ME) | tasg (is : List Nat) (e : ME) | aug (op : Operator) (i : Nat) (e : ME)
  | asgL (i : Nat) (es : MEs) | mutL (m : MM) (i : Nat) (k : ME) (es : MEs)
  | setI (i : Nat) (k e : ME) | mut (m : MM) (i : Nat) (es : MEs) | pop (j : Option Nat) (m : MP) (i : Nat) (es : MEs)
  | expr (e : ME) | ret (e : ME) | retN
  | iff (c : ME) (a b : MSs) | whl (inv : List Mo) (c : ME) (a : MSs) | forA (inv : List Mo) (t : Tg) (src : MI) (j : Nat) (e : ME) | for_ (inv : List Mo) (t : Tg) (src : MI) (a : MSs) | forO (inv : List Mo) (t : Tg) (i : Nat) (b : MB) | setT (i : Nat) (k e : ME) | apop (i j : Nat) (m : MP) (es : MEs) | forD (inv : List Mo) (t : Tg) (i : Nat) (a : MSs)
  | asgC (i : Nat) (e : ME) | mkL (h i : Nat) (e : ME) | iffL (i : Nat) (c : ME) (a b : MSs) | wipe (i j : Nat)
  | asgX (i : Nat) (x : MX) | exprX (x : MX) | retX (x : MX) | raise (f : Nat) (es : MEs)
  | tryA (i : Nat) (x : MX) (f j j2 : Nat) | tryB (i : Option Nat) (x : MX) (f j : Nat) (b : Bool)
  | brk | cnt | pass | no
inductive MSs where
  | nil | cons (s : MS) (r : MSs) | frz (i : Nat) (r : MSs)
end

/-! ### the evaluator -/
def fitsI (i : Int) : Bool := decide (-(2 ^ 64) < i) && decide (i < 2 ^ 64)
def addD : D → D → R D
  | .int i, .int j => .ok (.int (i + j))
  | .str x, .str y => if x.length + y.length ≤ 16777216 then .ok (.str (x ++ y)) else .bad
  | .lst xs, .lst ys => if xs.length + ys.length ≤ 16777216 then .ok (.lst (xs ++ ys)) else .bad
  | _, _ => .bad
def subID : D → D → R D
  | .int i, .int j => .ok (.int (i - j))
  | _, _ => .bad
def mulD : D → D → R D
  | .int i, .int j => if fitsI i || fitsI j || decide (i.natAbs.log2 + j.natAbs.log2 < 100000000) then .ok (.int (i * j)) else .bad
  | .lst xs, .int k => if decide (-(2 ^ 63) ≤ k) && decide (k < 2 ^ 63) && decide (xs.length * k.toNat ≤ 16777216) then .ok (.lst (List.replicate k.toNat xs).flatten) else .bad
  | _, _ => .bad
def fdivD : D → D → R D
  | .int i, .int j => if decide (0 < j) && (decide (j < 1073741824) || decide (j.natAbs.log2 < 9000)) then .ok (.int (i / j)) else if decide (j < 0) && decide (j.natAbs.log2 < 9000) then .ok (.int (i.fdiv j)) else .bad
  | _, _ => .bad
def modD : D → D → R D
  | .int i, .int j => if 0 < j then .ok (.int (i % j)) else .bad
  | _, _ => .bad
def powD : D → D → R D
  | .int i, .int j => if decide (0 ≤ j) && decide (j ≤ 1000000) && decide (i.natAbs < 2 ^ 64) then .ok (.int (i ^ j.toNat)) else .bad
  | _, _ => .bad
def shlD : D → D → R D
  | .int i, .int j => if decide (0 ≤ j) && decide (j ≤ 1000000) && decide (i.natAbs < 2 ^ 64) then .ok (.int (i * 2 ^ j.toNat)) else .bad
  | _, _ => .bad
def shrD : D → D → R D
  | .int i, .int j => if 0 ≤ j then .ok (.int (i / 2 ^ j.toNat)) else .bad
  | _, _ => .bad
def andD : D → D → R D
  | .int i, .int j => .ok (.int (Builtin.bitAnd i j))
  | _, _ => .bad
def orD : D → D → R D
  | .int i, .int j => .ok (.int (Builtin.bitOr i j))
  | _, _ => .bad
def xorD : D → D → R D
  | .int i, .int j => .ok (.int (Builtin.bitXor i j))
  | _, _ => .bad
def binD : Operator → D → D → R D
  | .Add => addD
  | .Sub => subID
  | .Mult => mulD
  | .FloorDiv => fdivD
  | .Mod => modD
  | .Pow => powD
  | .LShift => shlD
  | .RShift => shrD
  | .BitAnd => andD
  | .BitOr => orD
  | .BitXor => xorD
  | _ => fun _ _ => .bad
/-- == of flat values, as the model tells it -/
def eqF : D → D → R Bool
  | .non, .non => .ok true | .non, .int _ => .ok false | .int _, .non => .ok false | .non, .bl _ => .ok false | .bl _, .non => .ok false | .non, .str _ => .ok false | .str _, .non => .ok false
  | .int i, .int j => .ok (decide (i = j)) | .bl i, .bl j => .ok (decide (i = j)) | .str i, .str j => .ok (decide (i = j))
  | .int _, .str _ => .ok false | .str _, .int _ => .ok false | .bl _, .str _ => .ok false | .str _, .bl _ => .ok false
  | _, _ => .bad
def flatD : D → Bool
  | .non => true | .bl _ => true | .int _ => true | .str _ => true | _ => false
def eqFB : D → D → Bool
  | .non, .non => true
  | .bl a, .bl b => a == b
  | .bl a, .int b => (if a then 1 else 0) == b
  | .int a, .bl b => a == (if b then 1 else 0)
  | .int a, .int b => a == b
  | .str a, .str b => a == b
  | _, _ => false
mutual
/-- to PyData -/
def D.data : D → Option PyData
  | .non => some .none
  | .bl b => some (.bool b)
  | .int i => some (.int i)
  | .str x => some (.str x)
  | .lst xs => (D.datas xs).map .list
  | .tup xs => (D.datas xs).map .tuple
  | .scr ns => some (.list (ns.map .int))
  | _ => none
def D.datas : List D → Option (List PyData)
  | [] => some []
  | d :: ds => match d.data, D.datas ds with
    | some x, some xs => some (x :: xs)
    | _, _ => none
end
def eqD (a b : D) : R Bool := match eqF a b with
  | .ok k => .ok k
  | _ => match a.data, b.data with
    | some x, some y => if SeqAt.shaped x && SeqAt.shaped y then .ok (PyData.eqv x y) else .bad
    | _, _ => .bad
/-- the items of a list or tuple -/
def D.seq : D → Option (List D)
  | .lst xs => some xs
  | .tup xs => some xs
  | .scr ns => some (ns.map .int)
  | _ => none
/-- the items of a list or the script, which alone may be walked backwards -/
def D.lseq : D → Option (List D)
  | .lst xs => some xs
  | .scr ns => some (ns.map .int)
  | _ => none
def inD (neg : Bool) (a b : D) : R Bool := match b with
  | .dK kvs => match a with
    | .int i => .ok (xor neg (kvs.any fun kv => decide (kv.1 = Sum.inl i)))
    | .str x => .ok (xor neg (kvs.any fun kv => decide (kv.1 = Sum.inr x)))
    | _ => .bad
  | b => match b.seq with
    | some xs => if flatD a && xs.all flatD then .ok (xor neg (xs.any fun y => eqFB y a)) else .bad
    | none => .bad
def neD (a b : D) : R Bool := (eqD a b).bind fun k => .ok (!k)
def ltD : D → D → R Bool
  | .int i, .int j => .ok (decide (i < j))
  | _, _ => .bad
def leD : D → D → R Bool
  | .int i, .int j => .ok (decide (i ≤ j))
  | _, _ => .bad
def gtD : D → D → R Bool
  | .int i, .int j => .ok (decide (j < i))
  | _, _ => .bad
def geD : D → D → R Bool
  | .int i, .int j => .ok (decide (j ≤ i))
  | _, _ => .bad
def cmpD : CmpOp → D → D → R Bool
  | .Eq => eqD
  | .NotEq => neD
  | .Lt => ltD
  | .LtE => leD
  | .Gt => gtD
  | .GtE => geD
  | .In => inD false
  | .NotIn => inD true
  | _ => fun _ _ => .bad
def truthD : D → R Bool
  | .non => .ok false
  | .bl b => .ok b
  | .int i => .ok (i != 0)
  | .lst xs => .ok (!xs.isEmpty)
  | .tup xs => .ok (!xs.isEmpty)
  | .scr xs => .ok (!xs.isEmpty)
  | _ => .bad
def isNonD : D → Bool
  | .non => true
  | _ => false
def D.asB : D → R Bool
  | .bl b => .ok b
  | _ => .bad
def ofO {α : Type} (o : Option α) : R α := match o with
  | some a => .ok a
  | none => .bad
/-- what a call gives that may raise -/
def ofX (o : Option D) : R D := match o with
  | some (.xc c fs) => .exc c fs
  | some d => .ok d
  | none => .bad
def getK {κ : Type} [DecidableEq κ] (k : κ) (kvs : List (κ × D)) : Option D := (kvs.find? fun kv => decide (kv.1 = k)).map (·.2)
def subD : D → D → R D
  | .dK kvs, .int i => ofO (getK (Sum.inl i) kvs)
  | .dK kvs, .str x => ofO (getK (Sum.inr x) kvs)
  | .lst xs, .int i => ofO (atI xs i)
  | .tup xs, .int i => ofO (atI xs i)
  | .scr ns, .int i => ofO ((atI ns i).map .int)
  | .str z, .int i => if z.length ≤ 16777216 then ofO ((atI z.cps.toList i).map fun c => .str ⟨#[c]⟩) else .bad
  | _, _ => .bad
def cutD {α : Type} (xs : List α) (lo hi : Option Int) : List α := (xs.drop (HT.sIx xs.length 0 lo)).take (HT.sIx xs.length xs.length hi - HT.sIx xs.length 0 lo)
def sliceD (lo hi : Option Int) : D → R D
  | .lst xs => .ok (.lst (cutD xs lo hi))
  | .scr ns => .ok (.lst ((cutD ns lo hi).map .int))
  | .str z => if z.length ≤ 16777216 then .ok (.str (cutS z lo hi)) else .bad
  | _ => .bad
/-- the places of xs[lo::st] -/
def pickN (n : Nat) (lo : Option Int) (st : Int) : List Nat := sliceRange (sliceBounds lo none (some st) n).1 (sliceBounds lo none (some st) n).2.1 (sliceBounds lo none (some st) n).2.2
def pickL {α : Type} (xs : List α) (lo : Option Int) (st : Int) : List α := (pickN xs.length lo st).filterMap (xs[·]?)
def stepD (lo st : Option Int) (x : D) : R D := match x, st with
  | .lst xs, some i => if 0 < i then .ok (.lst (pickL xs lo i)) else .bad
  | _, _ => .bad
def revD : D → R D
  | .lst xs => .ok (.lst xs.reverse)
  | .scr ns => .ok (.lst (ns.reverse.map .int))
  | _ => .bad
def D.asI : D → R Int
  | .int i => .ok i
  | _ => .bad
def allI : List D → R (List Int)
  | [] => .ok []
  | d :: ds => d.asI.bind fun i => (allI ds).bind fun r => .ok (i :: r)
def allB : List D → R (List Bool)
  | [] => .ok []
  | d :: ds => d.asB.bind fun i => (allB ds).bind fun r => .ok (i :: r)
def insI (n : Int) : List Int → List Int
  | [] => [n]
  | m :: r => if n ≤ m then n :: m :: r else m :: insI n r
def sortI : List Int → List Int
  | [] => []
  | n :: r => insI n (sortI r)
def leastI : Int → List Int → Int
  | a, [] => a
  | a, b :: r => leastI (if b < a then b else a) r
def mostI : Int → List Int → Int
  | a, [] => a
  | a, b :: r => mostI (if a < b then b else a) r
def keyD : Key → D
  | .inl i => .int i
  | .inr x => .str x

/-- a key of ints and texts -/
def keysOf : List D → Option (List Key)
  | [] => some []
  | .int i :: r => (keysOf r).map (Sum.inl i :: ·)
  | .str x :: r => (keysOf r).map (Sum.inr x :: ·)
  | _ => none
def pairK : List Key → Bool
  | [.inl i, .inl j] => decide (0 ≤ i) && decide (i < 16) && decide (0 ≤ j) && decide (j < 16)
  | _ => false
def tripD : D → Option (Int × Int × Int)
  | .tup [.int a, .int b, .int c] => some (a, b, c)
  | _ => none
def tripsD : List D → Option (List (Int × Int × Int))
  | [] => some []
  | d :: ds => match tripD d, tripsD ds with
    | some t, some r => some (t :: r)
    | _, _ => none
def lexT (t u : Int × Int × Int) : Bool := decide (t.1 < u.1) || (decide (t.1 = u.1) && (decide (t.2.1 < u.2.1) || (decide (t.2.1 = u.2.1) && decide (t.2.2 ≤ u.2.2))))
def insT (t : Int × Int × Int) : List (Int × Int × Int) → List (Int × Int × Int)
  | [] => [t]
  | u :: r => if lexT t u then t :: u :: r else u :: insT t r
def sortT : List (Int × Int × Int) → List (Int × Int × Int)
  | [] => []
  | t :: r => insT t (sortT r)
def trD (t : Int × Int × Int) : D := .tup [.int t.1, .int t.2.1, .int t.2.2]
def posT (t : Int × Int × Int) : Bool := decide (0 ≤ t.1) && decide (0 ≤ t.2.1) && decide (0 ≤ t.2.2)
def asInt : Option D → R D
  | some (.int n) => .ok (.int n)
  | _ => .bad
def newTD : List D → R D
  | [] => .ok (.dT [])
  | _ => .bad
def oneTD : List D → R D
  | [.tup ks, .int n] => (ofO (keysOf ks)).bind fun k => .ok (.dT [(k, .int n)])
  | _ => .bad
def getTD : List D → R D
  | [.dT kvs, .tup ks, .int m] => (ofO (keysOf ks)).bind fun k => asInt (some ((getK k kvs).getD (.int m)))
  | _ => .bad
def copyTD : List D → R D
  | [.dT kvs] => if kvs.all (fun kv => pairK kv.1) then .ok (.dT kvs) else .bad
  | _ => .bad
def listTD : List D → R D
  | [.dT kvs] => .ok (.lst (kvs.map fun kv => .tup (kv.1.map keyD)))
  | _ => .bad
def subTD : List D → R D
  | [.dT kvs, .tup ks] => (ofO (keysOf ks)).bind fun k => asInt (getK k kvs)
  | _ => .bad
def sortTD : List D → R D
  | [.lst xs] => (ofO (tripsD xs)).bind fun ts => if decide (ts.length < 64) && ts.all posT then .ok (.lst ((sortT ts).map trD)) else .bad
  | _ => .bad
def leB : D → D → R Bool
  | .tup [.int a, .int b], .tup [.int c, .int d] => .ok (decide (a < c) || (decide (a = c) && decide (b ≤ d)))
  | _, _ => .bad
def leTD : List D → R D
  | [x, y] => (leB x y).bind fun k => .ok (.bl k)
  | _ => .bad
def ltT (t u : Int × Int × Int) : Bool := decide (t.1 < u.1) || (decide (t.1 = u.1) && (decide (t.2.1 < u.2.1) || (decide (t.2.1 = u.2.1) && decide (t.2.2 < u.2.2))))
/-- the first of the least -/
def minTr : Int × Int × Int → List (Int × Int × Int) → Int × Int × Int
  | a, [] => a
  | a, b :: r => minTr (if ltT b a then b else a) r
def minTs : List (Int × Int × Int) → R D
  | [] => .bad
  | t :: r => .ok (trD (minTr t r))
def minTD : List D → R D
  | [.lst xs] => (ofO (tripsD xs)).bind minTs
  | _ => .bad
/-- texts -/
def strsD : List D → Option (List Str)
  | [] => some []
  | d :: ds => match d, strsD ds with
    | .str x, some r => some (x :: r)
    | _, _ => none
def findSD : List D → R D
  | [.str a, .str b] => .ok (.int (Txt.find a b))
  | _ => .bad
def joinSD : List D → R D
  | [.str a, .lst xs] => (ofO (strsD xs)).bind fun ys => if (ys.map (·.length)).sum + ys.length * a.length ≤ 16777216 then .ok (.str (Txt.join a ys)) else .bad
  | _ => .bad
def splitSD : List D → R D
  | [.str a, .str b] => if (b.length == 0) = false ∧ a.length + 2 ≤ 16777216 then .ok (.lst ((Txt.split a b).map .str)) else .bad
  | _ => .bad
/-- the signs of a text -/
def charsD : D → R (List D)
  | .str z => .ok (z.cps.toList.map fun c => .str ⟨#[c]⟩)
  | _ => .bad
def txD : TX → List D → R D
  | .new => newTD
  | .one => oneTD
  | .get => getTD
  | .copy => copyTD
  | .list => listTD
  | .sub => subTD
  | .sort => sortTD
  | .le => leTD
  | .min => minTD
  | .find => findSD
  | .join => joinSD
  | .split => splitSD
/-- the order: by falling weight, then the lesser first -/
def leK (ws : List Int) (a b : Nat) : Bool := decide (ws.getD b 0 < ws.getD a 0) || (decide (ws.getD a 0 = ws.getD b 0) && decide (a ≤ b))
def keyL (ws : List Int) (n : Nat) : List Nat := (List.range n).mergeSort (leK ws)
/-- sorted(range(n), key=lambda t: (-w[t], t)) -/
def keyN (n : Int) (ws : List Int) : R D := if decide (0 ≤ n) && decide (n ≤ 64) && decide (n ≤ ws.length) then .ok (.lst ((keyL ws n.toNat).map fun k : Nat => .int (k : Nat))) else .bad
def keyedD : D → D → R D
  | .int n, .lst xs => (allI xs).bind fun ws => keyN n ws
  | .int n, .scr ws => keyN n ws
  | _, _ => .bad
def lenD : List D → R D
  | [.str z] => if z.length ≤ 16777216 then .ok (.int z.length) else .bad
  | [d] => (ofO d.seq).bind fun xs => .ok (.int xs.length)
  | _ => .bad
def listD : List D → R D
  | [.dK kvs] => .ok (.lst (kvs.map fun kv => keyD kv.1))
  | [d] => (ofO d.seq).bind fun xs => .ok (.lst xs)
  | _ => .bad
def intD : List D → R D
  | [.int i] => .ok (.int i)
  | [.bl k] => .ok (.int (if k then 1 else 0))
  | _ => .bad
def max2D : List D → R D
  | [.int i, .int j] => .ok (.int (if j > i then j else i))
  | _ => .bad
def min2D : List D → R D
  | [.int i, .int j] => .ok (.int (if j < i then j else i))
  | _ => .bad
def sumD : List D → R D
  | [.lst xs] => (allI xs).bind fun ns => .ok (.int ns.sum)
  | _ => .bad
def maxLD : List D → R D
  | [.lst xs] => (allI xs).bind fun ns => match ns with
    | [] => .bad
    | a :: r => .ok (.int (mostI a r))
  | _ => .bad
def minLD : List D → R D
  | [.lst xs] => (allI xs).bind fun ns => match ns with
    | [] => .bad
    | a :: r => .ok (.int (leastI a r))
  | _ => .bad
def sortedD : List D → R D
  | [.lst xs] => (allI xs).bind fun ns => .ok (.lst ((sortI ns).map .int))
  | _ => .bad
/-- rising, none twice -/
def insU (n : Int) : List Int → List Int
  | [] => [n]
  | m :: r => if n < m then n :: m :: r else if n = m then m :: r else m :: insU n r
def sset : List Int → List Int
  | [] => []
  | n :: r => insU n (sset r)
/-- sorted(set(xs)), few -/
def ssetD : D → R D
  | .lst xs => (allI xs).bind fun ns => if ns.length < 1024 then .ok (.lst ((sset ns).map .int)) else .bad
  | _ => .bad
def anyD : List D → R D
  | [.lst xs] => (allB xs).bind fun bs => .ok (.bl (bs.any id))
  | _ => .bad
def allD : List D → R D
  | [.lst xs] => (allB xs).bind fun bs => .ok (.bl (bs.all id))
  | _ => .bad
def bfD : BF → List D → R D
  | .len => lenD
  | .list => listD
  | .int_ => intD
  | .max2 => max2D
  | .min2 => min2D
  | .sum => sumD
  | .maxL => maxLD
  | .minL => minLD
  | .sorted => sortedD
  | .any => anyD
  | .all => allD
/-- the first place of a number -/
def idxI (k : Int) : List Int → Option Nat
  | [] => none
  | n :: r => if n = k then some 0 else (idxI k r).map (· + 1)
def bmD : BM → D → List D → R D
  | .bitLength, .int i, [] => .ok (.int (Builtin.Int.intBits i : Nat))
  | .index, .lst xs, [.int k] => (allI xs).bind fun ns => (ofO (idxI k ns)).bind fun j => .ok (.int (j : Nat))
  | _, _, _ => .bad
def tagD : D → Option String
  | .non => some "NoneType"
  | .bl _ => some "bool"
  | .int _ => some "int"
  | .str _ => some "str"
  | .lst _ => some "list"
  | .tup _ => some "tuple"
  | .dK _ => some "dict"
  | _ => none
def isTy : String → String → Option Bool
  | "NoneType", "int" => some false
  | "NoneType", "bool" => some false
  | "NoneType", "str" => some false
  | "NoneType", "list" => some false
  | "NoneType", "tuple" => some false
  | "bool", "int" => some true
  | "bool", "bool" => some true
  | "bool", "str" => some false
  | "bool", "list" => some false
  | "bool", "tuple" => some false
  | "int", "int" => some true
  | "int", "bool" => some false
  | "int", "str" => some false
  | "int", "list" => some false
  | "int", "tuple" => some false
  | "str", "int" => some false
  | "str", "bool" => some false
  | "str", "str" => some true
  | "str", "list" => some false
  | "str", "tuple" => some false
  | "list", "int" => some false
  | "list", "bool" => some false
  | "list", "str" => some false
  | "list", "list" => some true
  | "list", "tuple" => some false
  | "tuple", "int" => some false
  | "tuple", "bool" => some false
  | "tuple", "str" => some false
  | "tuple", "list" => some false
  | "tuple", "tuple" => some true
  | _, _ => none
def isiD (d : D) (ty : String) : R Bool := ofO ((tagD d).bind fun t => isTy t ty)
def attrD : D → Str → R D
  | .obj _ fs, f => ofO (fs.lookup f)
  | _, _ => .bad

abbrev Ev := List (Option D)
def getV (env : Ev) (i : Nat) : R D := match env[i]? with
  | some (some d) => .ok d
  | _ => .bad
def bindMany : List Nat → List D → Ev → R Ev
  | [], [], env => .ok env
  | i :: is, d :: ds, env => bindMany is ds (env.set i (some d))
  | _, _, _ => .bad
def bindT : Tg → D → Ev → R Ev
  | .one i, d, env => .ok (env.set i (some d))
  | .many is, .tup ds, env => bindMany is ds env
  | .many is, .lst ds, env => bindMany is ds env
  | _, _, _ => .bad
def compL (b : D → R Ev) (c f : Ev → R D) : List D → R (List D)
  | [] => .ok []
  | d :: ds => (b d).bind fun env => (c env).bind fun k => k.asB.bind fun k => match k with
    | true => (f env).bind fun x => (compL b c f ds).bind fun r => .ok (x :: r)
    | false => compL b c f ds
def noExc {α : Type} (r : R α) : R α := match r with
  | .ok a => .ok a
  | _ => .bad
def wipeE (env : Ev) : List Nat → Ev
  | [] => env
  | v :: vs => (wipeE env vs).set v none
def rangeD (lo hi : Int) : R (List D) := if decide (-(2 ^ 62) ≤ lo) && decide (lo < 2 ^ 62) && decide (-(2 ^ 62) ≤ hi) && decide (hi < 2 ^ 62) then .ok ((List.range (hi - lo).toNat).map fun k => .int (lo + (k : Nat))) else .bad
def enumD (k : Nat) : List D → List D
  | [] => []
  | d :: ds => .tup [.int (k : Nat), d] :: enumD (k + 1) ds
section
variable (Φ : Nat → List D → Option D)
mutual
def ev : ME → Ev → R D
  | .var i, env => getV env i
  | .int i, _ => .ok (.int i)
  | .bl b, _ => .ok (.bl b)
  | .non, _ => .ok .non
  | .str x, _ => .ok (.str x)
  | .gstr _ x, _ => .ok (.str x)
  | .bin op a b, env => (ev a env).bind fun x => (ev b env).bind fun y => binD op x y
  | .neg a, env => (ev a env).bind fun x => x.asI.bind fun i => .ok (.int (-i))
  | .inv a, env => (ev a env).bind fun x => x.asI.bind fun i => .ok (.int (Builtin.bitNot i))
  | .cmp op a b, env => (ev a env).bind fun x => (ev b env).bind fun y => (cmpD op x y).bind fun k => .ok (.bl k)
  | .chain op op' a b c, env => (ev a env).bind fun x => (ev b env).bind fun y => (cmpD op x y).bind fun k => match k with
    | true => (ev c env).bind fun z => (cmpD op' y z).bind fun k => .ok (.bl k)
    | false => .ok (.bl false)
  | .isN a, env => (ev a env).bind fun x => .ok (.bl (isNonD x))
  | .notN a, env => (ev a env).bind fun x => .ok (.bl (!isNonD x))
  | .and_ a b, env => (ev a env).bind fun x => x.asB.bind fun k => match k with
    | true => (ev b env).bind fun y => y.asB.bind fun k => .ok (.bl k)
    | false => .ok (.bl false)
  | .or_ a b, env => (ev a env).bind fun x => x.asB.bind fun k => match k with
    | true => .ok (.bl true)
    | false => (ev b env).bind fun y => y.asB.bind fun k => .ok (.bl k)
  | .orv a b, env => (ev a env).bind fun x => (truthD x).bind fun k => match k with
    | true => .ok x
    | false => ev b env
  | .not_ a, env => (ev a env).bind fun x => x.asB.bind fun k => .ok (.bl (!k))
  | .ife c a b, env => (ev c env).bind fun x => (truthD x).bind fun k => match k with
    | true => ev a env
    | false => ev b env
  | .sub a b, env => (ev a env).bind fun x => (ev b env).bind fun y => subD x y
  | .subL i b, env => (getV env i).bind fun x => (ev b env).bind fun y => subD x y
  | .slice a lo hi, env => (ev a env).bind fun x => (evO lo env).bind fun l => (evO hi env).bind fun h => sliceD l h x
  | .rev a, env => (ev a env).bind fun x => revD x
  | .stp a lo st, env => (ev a env).bind fun x => (evO lo env).bind fun l => (evO st env).bind fun i => stepD l i x
  | .tup es, env => (evs es env).bind fun ds => if ds.length ≤ 16777216 then .ok (.tup ds) else .bad
  | .lst es, env => (evs es env).bind fun ds => if ds.length ≤ 16777216 then .ok (.lst ds) else .bad
  | .dct0, _ => .ok (.dK [])
  | .call f es, env => (evs es env).bind fun ds => ofO (Φ f ds)
  | .bf f es, env => (evs es env).bind fun ds => bfD f ds
  | .bm m o es, env => (ev o env).bind fun x => (evs es env).bind fun ds => bmD m x ds
  | .meth m o es, env => (ev o env).bind fun x => (evs es env).bind fun ds => ofO (Φ m (x :: ds))
  | .make c es, env => (evs es env).bind fun ds => ofO (Φ c ds)
  | .attr o f, env => (ev o env).bind fun x => ofO (Φ f [x])
  | .isi a ty, env => (ev a env).bind fun x => (isiD x ty).bind fun k => .ok (.bl k)
  | .lrng a, env => (ev a env).bind fun x => x.asI.bind fun n => (rangeD 0 n).bind fun ds => if ds.length ≤ 16777216 then .ok (.lst ds) else .bad
  | .sset a, env => (ev a env).bind ssetD
  | .keyed i a, env => (ev a env).bind fun x => (getV env i).bind fun w => keyedD x w
  | .tx op es, env => (evs es env).bind fun ds => txD op ds
  | .comp elt own t src cond, env => (evI src env).bind fun ds => noExc ((compL (fun d => bindT t d (wipeE env (own.map (·.2)))) (fun env => evC cond env) (fun env => ev elt env) ds).bind fun xs => if xs.length ≤ 16777216 then .ok (.lst xs) else .bad)
def evO : Option ME → Ev → R (Option Int)
  | none, _ => .ok none
  | some e, env => (ev e env).bind fun x => x.asI.bind fun i => .ok (some i)
def evC : Option ME → Ev → R D
  | none, _ => .ok (.bl true)
  | some e, env => ev e env
def evs : MEs → Ev → R (List D)
  | .nil, _ => .ok []
  | .cons e es, env => (ev e env).bind fun x => (evs es env).bind fun r => .ok (x :: r)
def evI : MI → Ev → R (List D)
  | .plain e, env => (ev e env).bind fun x => ofO x.seq
  | .range1 e, env => (ev e env).bind fun x => x.asI.bind fun n => rangeD 0 n
  | .range2 a b, env => (ev a env).bind fun x => (ev b env).bind fun y => x.asI.bind fun i => y.asI.bind fun j => rangeD i j
  | .chars e, env => (ev e env).bind charsD
  | .rev1 e, env => (ev e env).bind fun x => x.asI.bind fun n => (rangeD 0 n).bind fun ds => .ok ds.reverse
  | .revL e, env => (ev e env).bind fun x => (ofO x.lseq).bind fun ds => .ok ds.reverse
  | .enum e, env => (ev e env).bind fun x => (ofO x.lseq).bind fun ds => .ok (enumD 0 ds)
  | .items e, env => (ev e env).bind fun x => match x with
    | .dK kvs => .ok (kvs.map fun kv => .tup [keyD kv.1, kv.2])
    | _ => .bad
end

/-- how a statement ends -/
inductive Fl where
  | nx | brk | cnt | ret (d : D)
/-- a comprehension whose elements may raise -/
def compX (b : D → R Ev) (f : Ev → R D) : List D → R (List D)
  | [] => .ok []
  | d :: ds => (b d).bind fun env => (f env).bind fun x => (compX b f ds).bind fun r => .ok (x :: r)
mutual
def evX : MX → Ev → R D
  | .pl e, env => ev Φ e env
  | .call f es, env => (evs Φ es env).bind fun ds => ofX (Φ f ds)
  | .tup es, env => (evXs es env).bind fun ds => if ds.length ≤ 16777216 then .ok (.tup ds) else .bad
  | .comp elt own t src, env => (evI Φ src env).bind fun ds => if ds.length ≤ 16777216 then (compX (fun d => bindT t d (wipeE env (own.map (·.2)))) (fun env => evX elt env) ds).bind fun xs => .ok (.lst xs) else .bad
def evXs : MXs → Ev → R (List D)
  | .nil, _ => .ok []
  | .cons e es, env => (evX e env).bind fun x => (evXs es env).bind fun r => .ok (x :: r)
end
/-- what is raised -/
def raiseD {α : Type} (o : Option D) : R α := match o with
  | some (.exv c fs) => .exc c [.exv c fs]
  | _ => .bad
/-- whether an except clause catches what was raised, and what it caught -/
def catchD (h : List D → Option D) (c : Nat) (fs : List D) (k : D → R (Ev × Fl)) : R (Ev × Fl) := match fs with
  | [x] => match h [x] with
    | some (.bl true) => k x
    | _ => .bad
  | _ => .bad
def tryD (r : R D) (ok : D → R (Ev × Fl)) (ex : Nat → List D → R (Ev × Fl)) : R (Ev × Fl) := match r with
  | .ok d => ok d
  | .exc c fs => ex c fs
  | .bad => .bad
def setO (i : Option Nat) (d : D) (env : Ev) : Ev := match i with
  | some i => env.set i (some d)
  | none => env
def whileL (c : Ev → R D) (b : Ev → R (Ev × Fl)) : Nat → Ev → R (Ev × Fl)
  | 0, _ => .bad
  | n + 1, env => (c env).bind fun x => (truthD x).bind fun k => match k with
    | false => .ok (env, .nx)
    | true => (b env).bind fun r => match r with
      | (env', .nx) => whileL c b n env'
      | (env', .cnt) => whileL c b n env'
      | (env', .brk) => .ok (env', .nx)
      | (env', .ret d) => .ok (env', .ret d)
def forL (t : Tg) (b : Ev → R (Ev × Fl)) : List D → Ev → R (Ev × Fl)
  | [], env => .ok (env, .nx)
  | d :: ds, env => (bindT t d env).bind fun env => (b env).bind fun r => match r with
      | (env', .nx) => forL t b ds env'
      | (env', .cnt) => forL t b ds env'
      | (env', .brk) => .ok (env', .nx)
      | (env', .ret d) => .ok (env', .ret d)
def putD {κ : Type} [DecidableEq κ] (k : κ) (d : D) (kvs : List (κ × D)) : List (κ × D) :=
  if kvs.any (fun kv => decide (kv.1 = k)) then kvs.map (fun kv => if kv.1 = k then (kv.1, d) else kv) else kvs ++ [(k, d)]
def setD : D → D → D → R D
  | .lst xs, .int k, d => (ofO (ixN xs.length k)).bind fun j => .ok (.lst (xs.set j d))
  | .dK kvs, .int k, d => if kvs.length < 16777216 then .ok (.dK (putD (Sum.inl k) d kvs)) else .bad
  | .dK kvs, .str k, d => if kvs.length < 16777216 then .ok (.dK (putD (Sum.inr k) d kvs)) else .bad
  | _, _, _ => .bad
def setTD : D → D → D → R D
  | .dT kvs, .tup ks, d => (ofO (keysOf ks)).bind fun k => if kvs.length < 16777216 then .ok (.dT (putD k d kvs)) else .bad
  | _, _, _ => .bad
def D.itemsT : D → Option (List D)
  | .dT kvs => some (kvs.map fun kv => .tup [.tup (kv.1.map keyD), kv.2])
  | _ => none
/-- a loop's body that goes to its end -/
def nxOnly (z : Ev × Fl) : R (Ev × Fl) := match z.2 with
  | .nx => .ok (z.1, .nx)
  | _ => .bad
def noExc2 (r : R (Ev × Fl)) : R (Ev × Fl) := match r with
  | .ok a => .ok a
  | _ => .bad
def appD : D → List D → R D
  | .lst xs, [d] => if xs.length < 16777216 then .ok (.lst (xs ++ [d])) else .bad
  | _, _ => .bad
def insD : D → List D → R D
  | .lst xs, [.int k, d] => if decide (xs.length < 16777216) && decide (0 ≤ k) && decide (k < 2 ^ 63) then .ok (.lst (xs.take k.toNat ++ [d] ++ xs.drop k.toNat)) else .bad
  | _, _ => .bad
def clearD : D → List D → R D
  | .lst _, [] => .ok (.lst [])
  | _, _ => .bad
def revMD : D → List D → R D
  | .lst xs, [] => .ok (.lst xs.reverse)
  | _, _ => .bad
def remI (k : Int) : List Int → Option (List Int)
  | [] => none
  | n :: r => if n = k then some r else (remI k r).map (n :: ·)
def remD : D → List D → R D
  | .lst xs, [.int k] => (allI xs).bind fun ns => (ofO (remI k ns)).bind fun r => .ok (.lst (r.map .int))
  | _, _ => .bad
def mutD : MM → D → List D → R D
  | .app => appD
  | .ins => insD
  | .clear => clearD
  | .rev => revMD
  | .rem => remD
def pop0D : D → List D → R (D × D)
  | .lst xs, [] => (ofO xs[xs.length - 1]?).bind fun y => .ok (y, .lst xs.dropLast)
  | _, _ => .bad
def popAtD : D → List D → R (D × D)
  | .lst xs, [.int i] => if decide (-(2 ^ 63) ≤ i) && decide (i < 2 ^ 63) then (ofO (seqIndex? i xs.length)).bind fun k => (ofO xs[k]?).bind fun y => .ok (y, .lst (xs.eraseIdx k)) else .bad
  | _, _ => .bad
def popD : MP → D → List D → R (D × D)
  | .pop0 => pop0D
  | .popAt => popAtD
/-- name op= value: of ints alone -/
def augD (op : Operator) : D → D → R D
  | .int i, .int j => binD op (.int i) (.int j)
  | _, _ => .bad
def D.ownL : D → Option (List D)
  | .lst ds => some ds
  | _ => none
/-- lists of ints, as what may be read alone -/
def scrL : List D → R (List D)
  | [] => .ok []
  | .lst xs :: r => (allI xs).bind fun ns => (scrL r).bind fun rs => .ok (.scr ns :: rs)
  | _ :: _ => .bad
mutual
/-- no cell in it may stand locked -/
def pureD : D → Bool
  | .lst xs => pureDs xs
  | .tup xs => pureDs xs
  | .obj _ fs => pureF fs
  | .scr _ => false
  | .dK _ => false
  | .dT _ => false
  | .exv _ _ => false
  | .xc _ _ => false
  | _ => true
def pureDs : List D → Bool
  | [] => true
  | d :: r => pureD d && pureDs r
def pureF : List (Str × D) → Bool
  | [] => true
  | (_, d) :: r => pureD d && pureF r
end
def D.isL : D → Bool
  | .lst _ => true
  | _ => false
def exB : MB → Ev → R Ev
  | .asg j e, env => (ev Φ e env).bind fun x => .ok (env.set j (some x))
  | .setI j k e, env => (ev Φ e env).bind fun x => (getV env j).bind fun o => (ev Φ k env).bind fun y => (setD o y x).bind fun z => .ok (env.set j (some z))
  | .iff c b, env => (ev Φ c env).bind fun x => (truthD x).bind fun k => match k with
    | true => exB b env
    | false => .ok env
variable (fuel : Nat)
mutual
def ex : MS → Ev → R (Ev × Fl)
  | .asg i e, env => (ev Φ e env).bind fun x => .ok (env.set i (some x), .nx)
  | .tasg is e, env => (ev Φ e env).bind fun x => (bindT (.many is) x env).bind fun env' => .ok (env', .nx)
  | .aug op i e, env => (getV env i).bind fun x => (ev Φ e env).bind fun y => (augD op x y).bind fun z => .ok (env.set i (some z), .nx)
  | .setI i k e, env => (ev Φ e env).bind fun x => (getV env i).bind fun o => (ev Φ k env).bind fun y => (setD o y x).bind fun z => .ok (env.set i (some z), .nx)
  | .asgL i es, env => (evs Φ es env).bind fun ds => if decide (ds.length ≤ 16777216) && ds.all D.cell then .ok (env.set i (some (.lst ds)), .nx) else .bad
  | .mutL m i k es, env => (getV env i).bind fun o => (ev Φ k env).bind fun y => (subD o y).bind fun x => (evs Φ es env).bind fun ds => (mutD m x ds).bind fun z => (setD o y z).bind fun o' => .ok (env.set i (some o'), .nx)
  | .mut m i es, env => (getV env i).bind fun o => (evs Φ es env).bind fun ds => (mutD m o ds).bind fun z => .ok (env.set i (some z), .nx)
  | .pop j m i es, env => (getV env i).bind fun o => (evs Φ es env).bind fun ds => (popD m o ds).bind fun z => match j with
    | none => .ok (env.set i (some z.2), .nx)
    | some j => .ok ((env.set i (some z.2)).set j (some z.1), .nx)
  | .expr e, env => (ev Φ e env).bind fun _ => .ok (env, .nx)
  | .ret e, env => (ev Φ e env).bind fun x => .ok (env, .ret x)
  | .retN, env => .ok (env, .ret .non)
  | .iff c a b, env => (ev Φ c env).bind fun x => (truthD x).bind fun k => match k with
    | true => exs a env
    | false => exs b env
  | .whl _ c a, env => whileL (fun env => ev Φ c env) (fun env => exs a env) fuel env
  | .for_ _ t src a, env => (evI Φ src env).bind fun ds => forL t (fun env => exs a env) ds env
  | .forA _ t src j e, env => (evI Φ src env).bind fun ds => forL t (fun env => (ev Φ e env).bind fun x => .ok (env.set j (some x), .nx)) ds env
  | .forO _ t i b, env => (getV env i).bind fun o => (ofO o.ownL).bind fun ds => forL t (fun env => (exB Φ b env).bind fun e => .ok (e, .nx)) ds env
  | .setT i k e, env => (ev Φ e env).bind fun x => (getV env i).bind fun o => (ev Φ k env).bind fun y => (setTD o y x).bind fun z => .ok (env.set i (some z), .nx)
  | .apop i j m es, env => (getV env i).bind fun o => ((getV env j).bind fun o2 => (evs Φ es env).bind fun ds => popD m o2 ds).bind fun z => (appD o [z.1]).bind fun o' => .ok ((env.set j (some z.2)).set i (some o'), .nx)
  | .forD _ t i a, env => (getV env i).bind fun o => (ofO o.itemsT).bind fun ds => noExc2 (forL t (fun env => (exs a env).bind nxOnly) ds env)
  | .asgC i e, env => (ev Φ e env).bind fun x => (ofO x.ownL).bind fun ds => if ds.all D.cell then .ok (env.set i (some (.lst ds)), .nx) else .bad
  | .mkL h i e, env => (getV env i).bind fun o => (ofO o.ownL).bind fun ds => (scrL ds).bind fun rs => (ev Φ e (env.set i (some (.lst rs)))).bind fun x => if pureD x then .ok (env.set h (some x), .nx) else .bad
  | .iffL _ c a b, env => (ev Φ c env).bind fun x => (truthD x).bind fun k => match k with
    | true => exs a env
    | false => exs b env
  | .wipe i j, env => (getV env i).bind fun o => (ofO o.ownL).bind fun ds => if ds.all D.isL && decide (j < env.length) then .ok ((env.set j none).set i (some (.lst (ds.map fun _ => .lst []))), .nx) else .bad
  | .asgX i x, env => (evX Φ x env).bind fun d => .ok (env.set i (some d), .nx)
  | .exprX x, env => (evX Φ x env).bind fun _ => .ok (env, .nx)
  | .retX x, env => (evX Φ x env).bind fun d => .ok (env, .ret d)
  | .raise f es, env => (evs Φ es env).bind fun ds => raiseD (Φ f ds)
  | .tryA i x f j j2, env => tryD (evX Φ x env) (fun d => .ok (env.set i (some d), .nx)) fun c fs => catchD (Φ f) c fs fun d => .ok (((env.set j (some d)).set j2 (some d)).set j none, .nx)
  | .tryB i x f j b, env => tryD (evX Φ x env) (fun d => .ok (setO i d env, .nx)) fun c fs => catchD (Φ f) c fs fun _ => .ok (env.set j (some (.bl b)), .nx)
  | .brk, env => .ok (env, .brk)
  | .cnt, env => .ok (env, .cnt)
  | .pass, env => .ok (env, .nx)
  | .no, _ => .bad
def exs : MSs → Ev → R (Ev × Fl)
  | .nil, env => .ok (env, .nx)
  | .frz _ r, env => exs r env
  | .cons s r, env => (ex s env).bind fun z => match z with
    | (env', .nx) => exs r env'
    | z => .ok z
end
/-- a def's body at its arguments; slots: how many names it has -/
def run (slots : Nat) (body : MSs) (ds : List D) : R D := (exs Φ fuel body (ds.map some ++ List.replicate (slots - ds.length) none)).bind fun z => match z.2 with
  | .ret d => .ok d
  | .nx => .ok .non
  | _ => .bad
end
end Ev

set_option maxHeartbeats 2000000
namespace Ev
open PySem PySem.Spec PyProof.Rows L2
variable [Tbs]

abbrev St := L2.St
/-- cells of one's own, none twice -/
inductive Inns (T : Tab) (H0 : Hp) (F : Addr → Prop) (H : Hp) : List V → List D → Prop
  | nil : Inns T H0 F H [] []
  | cons {b : Addr} {d : D} {vs : List V} {ds : List D} : H0 b = none → ¬ F b → At T H F b d → V.ref b ∉ vs → Inns T H0 F H vs ds → Inns T H0 F H (.ref b :: vs) (d :: ds)
/-- state of a call: H0, F0 at its entry -/
def SlotOk (T : Tab) (H0 : Hp) (F : Addr → Prop) (H : Hp) (m : Mo) (v : V) (d : D) : Prop := match m with
  | .frz => Rep T H F v d
  | .own => if d.cell = true then ∃ a, v = .ref a ∧ H0 a = none ∧ ¬ F a ∧ At T H F a d else Rep T H F v d
  | .brw => Rep T H F v d ∨ ∃ a, v = .ref a ∧ (∃ o, H0 a = some o) ∧ At T H F a d
  | .lol => ∃ a vs ds, v = .ref a ∧ d = .lst ds ∧ H0 a = none ∧ ¬ F a ∧ H a = some (.lst vs) ∧ V.ref a ∉ vs ∧ Inns T H0 F H vs ds
/-- the slot i is the owner of the cell b -/
def Owns (H : Hp) (Γ : List Mo) (env : Ev) (σ : St) (i : Nat) (b : Addr) : Prop :=
  (Γ[i]? = some .own ∧ σ[i]? = some (some (.ref b)) ∧ ∃ d, env[i]? = some (some d) ∧ d.cell = true) ∨
  (Γ[i]? = some .lol ∧ ∃ a, σ[i]? = some (some (.ref a)) ∧ (∃ d, env[i]? = some (some d)) ∧ (b = a ∨ ∃ vs, H a = some (.lst vs) ∧ V.ref b ∈ vs))
/-- a slot that owns no cell -/
def NoO (Γ : List Mo) (i : Nat) : Prop := Γ[i]? ≠ some .own ∧ Γ[i]? ≠ some .lol
theorem NoO.of {Γ : List Mo} {i : Nat} (h : Γ[i]? = some .frz) : NoO Γ i := ⟨(fun z => by rw [h] at z; cases z), fun z => by rw [h] at z; cases z⟩
theorem NoO.brw {Γ : List Mo} {i : Nat} (h : Γ[i]? = some .brw) : NoO Γ i := ⟨(fun z => by rw [h] at z; cases z), fun z => by rw [h] at z; cases z⟩
structure SR (T : Tab) (Γ : List Mo) (H0 : Hp) (F0 F : Addr → Prop) (H : Hp) (env : Ev) (σ : St) : Prop where
  len : env.length = σ.length
  slot : ∀ i d, env[i]? = some (some d) → ∃ v, σ[i]? = some (some v) ∧ SlotOk T H0 F H (Γ.getD i .brw) v d
  sep : ∀ i j a, Owns H Γ env σ i a → Owns H Γ env σ j a → i = j
  ext : Ext F0 H0 F H
  dom : ∀ a, F a → ∃ o, H a = some o
  tabs : TbsOk H
section
variable {T : Tab} {Γ Γ' : List Mo} {H0 H H' : Hp} {F0 F F' : Addr → Prop} {env : Ev} {σ : St} {v : V} {d : D} {m : Mo}
theorem getD_eq {Γ : List Mo} {i : Nat} {m : Mo} (h : Γ.getD i .brw = m) (hm : m ≠ .brw) : Γ[i]? = some m := by
  rw [List.getD_eq_getElem?_getD] at h
  cases e : Γ[i]? with
  | none => rw [e] at h; exact absurd h.symm hm
  | some n => rw [e] at h; exact congrArg some h
/-- the own cells of a list stand -/
theorem Inns.stand {vs : List V} {ds : List D} (h : Inns T H0 F H vs ds) : ∀ b, V.ref b ∈ vs → H0 b = none ∧ ¬ F b ∧ ∃ o, H b = some o := by
  induction h with
  | nil => intro b hb; cases hb
  | cons h0 hf r _ _ ih =>
    intro b hb
    rcases List.mem_cons.mp hb with e | hb
    · cases e; exact ⟨h0, hf, r.some⟩
    · exact ih b hb
theorem Inns.notTup {vs : List V} {ds : List D} (h : Inns T H0 F H vs ds) : ∀ b, V.ref b ∈ vs → ∀ o, H b = some o → ∀ ws, o ≠ .tup ws := by
  induction h with
  | nil => intro b hb; cases hb
  | cons h0 hf r _ _ ih =>
    intro b hb
    rcases List.mem_cons.mp hb with e | hb
    · cases e; exact fun o ho => r.notTup ho
    · exact ih b hb
theorem Inns.mono (hs : ∀ a, F a → F' a) (hh : ∀ a o, F a → H a = some o → isT o = false → H' a = some o) {vs : List V} {ds : List D} (h : Inns T H0 F H vs ds) : (∀ b, V.ref b ∈ vs → ¬ F' b ∧ ∀ o, H b = some o → isT o = false → H' b = some o) → Inns T H0 F' H' vs ds := by
  induction h with
  | nil => intro _; exact .nil
  | @cons b d vs ds h0 hf r hn _ ih =>
    intro hb
    obtain ⟨g1, g2⟩ := hb b List.mem_cons_self
    exact .cons h0 g1 (r.mono hs hh g2) hn (ih fun b h => hb b (List.mem_cons_of_mem _ h))
theorem Inns.get {vs : List V} {ds : List D} (h : Inns T H0 F H vs ds) : ∀ {k : Nat} {d : D}, ds[k]? = some d → ∃ b, vs[k]? = some (.ref b) ∧ H0 b = none ∧ ¬ F b ∧ At T H F b d := by
  induction h with
  | nil => intro k d e; cases e
  | @cons b d vs ds h0 hf r hn _ ih =>
    intro k d e
    cases k with
    | zero => cases e; exact ⟨b, rfl, h0, hf, r⟩
    | succ k => exact ih e
theorem Inns.length {vs : List V} {ds : List D} (h : Inns T H0 F H vs ds) : vs.length = ds.length := by
  induction h with
  | nil => rfl
  | cons _ _ _ _ _ ih => rw [List.length_cons, List.length_cons, ih]
theorem SlotOk.top (hm : m ≠ .lol) (h : SlotOk T H0 F H m v d) : Top T H F v d := by
  cases m with
  | lol => exact absurd rfl hm
  | frz => exact .inl h
  | own =>
    unfold SlotOk at h
    simp only at h
    split at h
    · obtain ⟨a, e, _, _, h⟩ := h; exact .inr ⟨a, e, h⟩
    · exact .inl h
  | brw =>
    rcases h with h | ⟨a, e, _, h⟩
    · exact .inl h
    · exact .inr ⟨a, e, h⟩
theorem Ext.dom (x : Ext F H F' H') (h : ∀ a, F a → ∃ o, H a = some o) : ∀ a, F' a → ∃ o, H' a = some o := fun a ha => by
  rcases x.new a ha with h1 | ⟨_, h1⟩
  · obtain ⟨o, e⟩ := h a h1; exact x.there e
  · exact h1
theorem SlotOk.ext (x : Ext F H F' H') (h : SlotOk T H0 F H m v d) : SlotOk T H0 F' H' m v d := by
  cases m with
  | lol =>
    obtain ⟨a, vs, ds, e1, e2, h0, hf, ha, hn, hi⟩ := h
    refine ⟨a, vs, ds, e1, e2, h0, fun hf' => ?_, x.keep _ _ ha rfl, hn, hi.mono x.sub (fun a o _ => x.keep a o) fun b hb => ⟨fun hf' => ?_, x.keep b⟩⟩
    · rcases x.new a hf' with z | ⟨z, _⟩
      · exact hf z
      · exact z.no ha (fun _ q => nomatch q)
    · obtain ⟨_, g, o, e⟩ := hi.stand b hb
      rcases x.new b hf' with z | ⟨z, _⟩
      · exact g z
      · exact z.no e (hi.notTup b hb _ e)
  | frz => exact Rep.ext x h
  | own =>
    unfold SlotOk at h ⊢
    simp only at h ⊢
    split at h
    · rename_i hc
      rw [if_pos hc]
      obtain ⟨a, e, h0, hf, h⟩ := h
      obtain ⟨o, ho⟩ := h.some
      refine ⟨a, e, h0, fun hf' => ?_, h.mono x.sub (fun a o _ => x.keep a o) (x.keep a)⟩
      rcases x.new a hf' with z | ⟨z, _⟩
      · exact hf z
      · exact z.no ho (h.notTup ho)
    · rename_i hc
      rw [if_neg hc]
      exact Rep.ext x h
  | brw =>
    rcases h with h | ⟨a, e, h0, h⟩
    · exact .inl (Rep.ext x h)
    · exact .inr ⟨a, e, h0, h.mono x.sub (fun a o _ => x.keep a o) (x.keep a)⟩
theorem Owns.same {b : Addr} {j : Nat} {env' : Ev} {σ' : St} (h : Owns H Γ' env' σ' j b) (e1 : Γ'[j]? = Γ[j]?) (e2 : σ'[j]? = σ[j]?) (e3 : env'[j]? = env[j]?) : Owns H Γ env σ j b := by
  unfold Owns at h ⊢
  rw [e1, e2, e3] at h
  exact h
theorem Owns.mode {b : Addr} {j : Nat} (h : Owns H Γ env σ j b) : Γ[j]? = some .own ∨ Γ[j]? = some .lol := h.imp (·.1) (·.1)
theorem Owns.held {b : Addr} {j : Nat} (h : Owns H Γ env σ j b) : ∃ d, env[j]? = some (some d) := by
  rcases h with ⟨_, _, d, e, _⟩ | ⟨_, _, _, ⟨d, e⟩, _⟩
  · exact ⟨d, e⟩
  · exact ⟨d, e⟩
theorem Owns.own {a : Addr} {i : Nat} (h1 : Γ[i]? = some .own) (h2 : σ[i]? = some (some (.ref a))) (h3 : env[i]? = some (some d)) (h4 : d.cell = true) : Owns H Γ env σ i a := .inl ⟨h1, h2, d, h3, h4⟩
theorem Owns.back (s : SR T Γ H0 F0 F H env σ) {i : Nat} {b : Addr} (hh : ∀ a, Γ[i]? = some .lol → σ[i]? = some (some (.ref a)) → ∀ o, H a = some o → isT o = false → H' a = some o) (h : Owns H' Γ env σ i b) : Owns H Γ env σ i b := by
  rcases h with h | ⟨h1, a, h2, ⟨d, h3⟩, h4⟩
  · exact .inl h
  · refine .inr ⟨h1, a, h2, ⟨d, h3⟩, ?_⟩
    rcases h4 with rfl | ⟨vs, e, hm⟩
    · exact .inl rfl
    · obtain ⟨v, hv, ok⟩ := s.slot i d h3
      rw [List.getD_eq_getElem?_getD, h1] at ok
      obtain ⟨a', vs', ds, e1, _, _, _, ha, _, _⟩ := ok
      subst e1
      rw [h2] at hv; cases hv
      have := hh a h1 h2 _ ha rfl
      rw [this] at e; cases e
      exact .inr ⟨vs, ha, hm⟩
/-- the cells that a slot owns -/
def OwnC (H : Hp) (m : Mo) (v : V) (d : D) (b : Addr) : Prop := (m = .own ∧ v = .ref b ∧ d.cell = true) ∨ (m = .lol ∧ ∃ a, v = .ref a ∧ (b = a ∨ ∃ vs, H a = some (.lst vs) ∧ V.ref b ∈ vs))
theorem SlotOk.owned (h : SlotOk T H0 F H m v d) {b : Addr} (ho : OwnC H m v d b) : H0 b = none ∧ ¬ F b ∧ ∃ o, H b = some o := by
  rcases ho with ⟨rfl, rfl, hc⟩ | ⟨rfl, a, rfl, ho⟩
  · unfold SlotOk at h
    simp only at h
    rw [if_pos hc] at h
    obtain ⟨a, e, h0, hf, h⟩ := h
    cases e
    exact ⟨h0, hf, h.some⟩
  · obtain ⟨a', vs, ds, e1, _, h0, hf, ha, _, hi⟩ := h
    cases e1
    rcases ho with rfl | ⟨ws, e, hm⟩
    · exact ⟨h0, hf, _, ha⟩
    · rw [ha] at e; cases e
      exact hi.stand b hm
theorem SlotOk.grow (h : SlotOk T H0 F H m v d) (hs : ∀ a, F a → F' a) (hh : ∀ a o, F a → H a = some o → isT o = false → H' a = some o) (hb : ∀ b u, H0 b = some u → ∀ o, H b = some o → isT o = false → H' b = some o) (ho : ∀ b, OwnC H m v d b → ¬ F' b ∧ ∀ o, H b = some o → isT o = false → H' b = some o) : SlotOk T H0 F' H' m v d := by
  cases m with
  | frz => exact Rep.mono hs hh h
  | brw =>
    rcases h with r | ⟨b, e, ⟨u, hu⟩, r⟩
    · exact .inl (r.mono hs hh)
    · exact .inr ⟨b, e, ⟨u, hu⟩, r.mono hs hh (hb b u hu)⟩
  | own =>
    unfold SlotOk at h ⊢
    simp only at h ⊢
    split at h
    · rename_i hc
      rw [if_pos hc]
      obtain ⟨a, e, h0, hf, h⟩ := h
      obtain ⟨g1, g2⟩ := ho a (.inl ⟨rfl, e, hc⟩)
      exact ⟨a, e, h0, g1, h.mono hs hh g2⟩
    · rename_i hc
      rw [if_neg hc]
      exact h.mono hs hh
  | lol =>
    obtain ⟨a, vs, ds, e1, e2, h0, hf, ha, hn, hi⟩ := h
    obtain ⟨g1, g2⟩ := ho a (.inr ⟨rfl, a, e1, .inl rfl⟩)
    exact ⟨a, vs, ds, e1, e2, h0, g1, g2 _ ha rfl, hn, hi.mono hs hh fun b hb' => ho b (.inr ⟨rfl, a, e1, .inr ⟨vs, ha, hb'⟩⟩)⟩
/-- what a slot owns, it owns -/
theorem OwnC.owns {i : Nat} {b : Addr} (ho : OwnC H m v d b) (hd : env[i]? = some (some d)) (hv : σ[i]? = some (some v)) (hm : Γ.getD i .brw = m) : Owns H Γ env σ i b := by
  rcases ho with ⟨rfl, rfl, hc⟩ | ⟨rfl, a, rfl, ho⟩
  · exact .inl ⟨getD_eq hm (by decide), hv, d, hd, hc⟩
  · exact .inr ⟨getD_eq hm (by decide), a, hv, ⟨d, hd⟩, ho⟩
theorem Owns.facts (s : SR T Γ H0 F0 F H env σ) {i : Nat} {b : Addr} (h : Owns H Γ env σ i b) : H0 b = none ∧ ¬ F b ∧ ∃ o, H b = some o := by
  obtain ⟨d, hd⟩ := h.held
  obtain ⟨v, hv, ok⟩ := s.slot i d hd
  refine ok.owned ?_
  rw [List.getD_eq_getElem?_getD]
  rcases h with ⟨h1, h2, d', h3, h4⟩ | ⟨h1, a, h2, ⟨d', h3⟩, h4⟩
  · rw [hd] at h3; cases h3
    rw [h2] at hv; cases hv
    rw [h1]
    exact .inl ⟨rfl, rfl, h4⟩
  · rw [h2] at hv; cases hv
    rw [h1]
    exact .inr ⟨rfl, a, rfl, h4⟩
theorem SR.ext' (s : SR T Γ H0 F0 F H env σ) (x : Ext F H F' H') : SR T Γ H0 F0 F' H' env σ where
  len := s.len
  slot := fun i d e => by
    obtain ⟨v, hv, h⟩ := s.slot i d e
    exact ⟨v, hv, h.ext x⟩
  sep := fun i j a hi hj => s.sep i j a (Owns.back s (fun a _ _ => x.keep a) hi) (Owns.back s (fun a _ _ => x.keep a) hj)
  ext := s.ext.trans x
  dom := x.dom s.dom
  tabs := x.tabs s.tabs
end

/-- what an exception asks -/
abbrev XT := Nat → List D → St → (Addr → Prop) → Hp → Prop
def SimE (T : Tab) (Γ : List Mo) (XE : XT) (q : Qu) (t : TE) (f : Ev → R D) : Prop :=
  ∀ (H0 : Hp) (F0 : Addr → Prop) (σ : St) (H : Hp) (F : Addr → Prop) (env : Ev) (Q : VK), SR T Γ H0 F0 F H env σ →
    wpR (f env) (fun d => ∀ F' H' v, Ext F H F' H' → ResOk T q H F' H' v d → Q v H') (fun c fs => ∀ F' H', Ext F H F' H' → XE c fs σ F' H') → t σ H Q
def SimT (T : Tab) (Γ : List Mo) (XE : XT) (t : TT) (f : Ev → R Bool) : Prop :=
  ∀ (H0 : Hp) (F0 : Addr → Prop) (σ : St) (H : Hp) (F : Addr → Prop) (env : Ev) (Q : Bool → Hp → Prop), SR T Γ H0 F0 F H env σ →
    wpR (f env) (fun k => ∀ F' H', Ext F H F' H' → Q k H') (fun c fs => ∀ F' H', Ext F H F' H' → XE c fs σ F' H') → t σ H Q
inductive Tops (T : Tab) (H : Hp) (F : Addr → Prop) : List V → List D → Prop
  | nil : Tops T H F [] []
  | cons {v : V} {d : D} {vs : List V} {ds : List D} : Top T H F v d → Tops T H F vs ds → Tops T H F (v :: vs) (d :: ds)
theorem Tops.ext {T : Tab} {F F' : Addr → Prop} {H H' : Hp} (x : Ext F H F' H') : ∀ {vs : List V} {ds : List D}, Tops T H F vs ds → Tops T H' F' vs ds
  | _, _, .nil => .nil
  | _, _, .cons h t => .cons (h.ext x) (Tops.ext x t)
theorem Reps.tops {T : Tab} {F : Addr → Prop} {H : Hp} : ∀ {vs : List V} {ds : List D}, Reps T H F vs ds → Tops T H F vs ds
  | _, _, .nil => .nil
  | _, _, .cons h t => .cons (.inl h) t.tops
/-- arguments to be read -/
def SimA (T : Tab) (Γ : List Mo) (XE : XT) (t : TA) (f : Ev → R (List D)) : Prop :=
  ∀ (H0 : Hp) (F0 : Addr → Prop) (σ : St) (H : Hp) (F : Addr → Prop) (env : Ev) (Q : List V → Hp → Prop), SR T Γ H0 F0 F H env σ →
    wpR (f env) (fun ds => ∀ F' H' vs, Ext F H F' H' → Tops T H' F' vs ds → Q vs H') (fun c fs => ∀ F' H', Ext F H F' H' → XE c fs σ F' H') → t σ H Q
/-- arguments to be kept -/
def SimC (T : Tab) (Γ : List Mo) (XE : XT) (t : TA) (f : Ev → R (List D)) : Prop :=
  ∀ (H0 : Hp) (F0 : Addr → Prop) (σ : St) (H : Hp) (F : Addr → Prop) (env : Ev) (Q : List V → Hp → Prop), SR T Γ H0 F0 F H env σ →
    wpR (f env) (fun ds => ∀ F' H' vs, Ext F H F' H' → Reps T H' F' vs ds → Q vs H') (fun c fs => ∀ F' H', Ext F H F' H' → XE c fs σ F' H') → t σ H Q

section
variable {T : Tab} {Γ : List Mo} {XE : XT} {q q' : Qu}
/-- run one expression, go on with its value to be read -/
theorem SimE.top {t : TE} {f : Ev → R D} (s : SimE T Γ XE q t f) {H0 H : Hp} {F0 F : Addr → Prop} {σ : St} {env : Ev} {β : Type} {g : D → R β} {P : β → Prop} {Q : VK} (r : SR T Γ H0 F0 F H env σ)
    (h : wpR ((f env).bind g) P (fun c fs => ∀ F' H', Ext F H F' H' → XE c fs σ F' H'))
    (k : ∀ d F1 H1 v, Ext F H F1 H1 → Top T H1 F1 v d → SR T Γ H0 F0 F1 H1 env σ → wpR (g d) P (fun c fs => ∀ F' H', Ext F1 H1 F' H' → XE c fs σ F' H') → Q v H1) : t σ H Q := by
  refine s H0 F0 σ H F env Q r (wpR_mono (wpR_bind h) (fun d hd F1 H1 v x hv => ?_) fun c fs he => he)
  exact k d F1 H1 v x hv.top (r.ext' x) (wpR_mono hd (fun _ z => z) fun c fs he F' H' y => he F' H' (x.trans y))
/-- run one expression, go on with its value frozen -/
theorem SimE.rep {t : TE} {f : Ev → R D} (s : SimE T Γ XE q t f) (hq : q ≠ .dirty) {H0 H : Hp} {F0 F : Addr → Prop} {σ : St} {env : Ev} {β : Type} {g : D → R β} {P : β → Prop} {Q : VK} (r : SR T Γ H0 F0 F H env σ)
    (h : wpR ((f env).bind g) P (fun c fs => ∀ F' H', Ext F H F' H' → XE c fs σ F' H'))
    (k : ∀ d F1 H1 v, Ext F H F1 H1 → Rep T H1 F1 v d → SR T Γ H0 F0 F1 H1 env σ → wpR (g d) P (fun c fs => ∀ F' H', Ext F1 H1 F' H' → XE c fs σ F' H') → Q v H1) : t σ H Q := by
  refine s H0 F0 σ H F env Q r (wpR_mono (wpR_bind h) (fun d hd F1 H1 v x hv => ?_) fun c fs he => he)
  obtain ⟨F2, x2, _, rv⟩ := hv.rep x hq
  exact k d F2 H1 v x2 rv (r.ext' x2) (wpR_mono hd (fun _ z => z) fun c fs he F' H' y => he F' H' (x2.trans y))
end
end Ev

set_option maxHeartbeats 2000000
namespace Ev
open PySem PySem.Spec PyProof.Rows L2
variable [Tbs]

section
variable {T : Tab} {H H1 : Hp} {F F1 F' : Addr → Prop} {v : V} {q : Qu} {H' : Hp}
theorem Top.non (h : Top T H F v .non) : v = .non := by
  rcases h with h | ⟨_, _, h⟩ <;> cases h; rfl
theorem Top.int {i : Int} (h : Top T H F v (.int i)) : v = .int i := by
  rcases h with h | ⟨_, _, h⟩ <;> cases h; rfl
theorem Top.bl {b : Bool} (h : Top T H F v (.bl b)) : v = .bl b := by
  rcases h with h | ⟨_, _, h⟩ <;> cases h; rfl
theorem Top.str {x : Str} (h : Top T H F v (.str x)) : v = .str x := by
  rcases h with h | ⟨_, _, h⟩ <;> cases h; rfl
theorem Top.lst {ds : List D} (h : Top T H F v (.lst ds)) : ∃ a vs, v = .ref a ∧ H a = some (.lst vs) ∧ Reps T H F vs ds := by
  rcases h with h | ⟨a, e, h⟩
  · cases h with
    | lst s e r => exact ⟨_, _, rfl, e, r⟩
  · cases h with
    | lst e' r => exact ⟨a, _, e, e', r⟩
theorem Top.dK {ds : List (Key × D)} (h : Top T H F v (.dK ds)) : ∃ a vs, v = .ref a ∧ H a = some (.dK vs) ∧ KReps T H F vs ds := by
  rcases h with h | ⟨a, e, h⟩
  · cases h with
    | dK s e r => exact ⟨_, _, rfl, e, r⟩
  · cases h with
    | dK e' r => exact ⟨a, _, e, e', r⟩
theorem Top.tup {ds : List D} (h : Top T H F v (.tup ds)) : ∃ a vs, v = .ref a ∧ F a ∧ H a = some (.tup vs) ∧ Reps T H F vs ds := by
  rcases h with h | ⟨a, e, h⟩
  · cases h with
    | tup s e r => exact ⟨_, _, rfl, s, e, r⟩
  · cases h
theorem Top.scr {ns : List Int} (h : Top T H F v (.scr ns)) : ∃ a, v = .ref a ∧ SqL T.K H a (ns.map V.int) := by
  rcases h with h | ⟨a, e, h⟩
  · cases h with
    | scr s e => exact ⟨_, rfl, .inl e⟩
    | scrK e => exact ⟨_, rfl, .inr e⟩
  · cases h
theorem Top.obj {c : Nat} {fs : List (Str × D)} (h : Top T H F v (.obj c fs)) : ∃ a dx vs, v = .ref a ∧ H a = some (.ins (T.cl c) dx vs) ∧ FReps T H F vs fs := by
  rcases h with h | ⟨a, e, h⟩
  · cases h with
    | obj s e r => exact ⟨_, _, _, rfl, e, r⟩
  · cases h
/-- a list, a tuple, the script: its items -/
theorem Top.seq {d : D} {ds : List D} (h : Top T H F v d) (e : d.seq = some ds) : ∃ a vs, v = .ref a ∧ (SqL T.K H a vs ∨ SqT T.K H a vs) ∧ Reps T H F vs ds := by
  cases d with
  | lst xs =>
    cases e
    obtain ⟨a, vs, rfl, h1, h2⟩ := h.lst
    exact ⟨a, vs, rfl, .inl (SqL.of h1), h2⟩
  | tup xs =>
    cases e
    obtain ⟨a, vs, rfl, _, h1, h2⟩ := h.tup
    exact ⟨a, vs, rfl, .inr (SqT.of h1), h2⟩
  | scr ns =>
    cases e
    obtain ⟨a, rfl, h1⟩ := h.scr
    exact ⟨a, _, rfl, .inl h1, Reps.ints⟩
  | _ => cases e
theorem ResOk.back {d : D} (x : Ext F H F1 H1) (h : ResOk T q H1 F' H' v d) : ResOk T q H F' H' v d := by
  cases q with
  | fresh =>
    unfold ResOk at h ⊢
    simp only at h ⊢
    split at h
    · rename_i hc
      rw [if_pos hc]
      obtain ⟨a, e, hn, hf, h⟩ := h
      refine ⟨a, e, ?_, hf, h⟩
      cases z : H a with
      | none => rfl
      | some o => rw [x.non a hn] at z; cases z
    · rename_i hc
      rw [if_neg hc]
      exact h
  | clean => exact h
  | dirty => exact h
/-- scalars are anything -/
theorem ResOk.sc {d : D} (hc : d.cell = false) (h : Rep T H' F' v d) : ResOk T q H F' H' v d := by
  cases q with
  | fresh =>
    unfold ResOk
    simp only
    rw [if_neg (by rw [hc]; exact Bool.false_ne_true)]
    exact h
  | clean => exact h
  | dirty => exact .inl h
theorem ResOk.int {i : Int} : ResOk T q H F' H' (.int i) (.int i) := .sc rfl (.int i)
theorem ResOk.bl {i : Bool} : ResOk T q H F' H' (.bl i) (.bl i) := .sc rfl (.bl i)
theorem ResOk.str {i : Str} : ResOk T q H F' H' (.str i) (.str i) := .sc rfl (.str i)
theorem ResOk.non : ResOk T q H F' H' .non .non := .sc rfl .non
theorem ResOk.newL {p : Addr} {vs : List V} {ds : List D} (hd : ∀ a, F a → ∃ o, H a = some o) (hp : H p = none) (r : Reps T H F vs ds) : ResOk T .fresh H F (upd H p (.lst vs)) (.ref p) (.lst ds) := by
  unfold ResOk
  simp only
  rw [if_pos (show (D.lst ds).cell = true from rfl)]
  refine ⟨p, rfl, hp, fun hf => ?_, .lst upd_same (r.ext (Ext.laid hp))⟩
  obtain ⟨o, e⟩ := hd p hf
  rw [hp] at e; cases e
theorem ResOk.newD {p : Addr} {vs : List (Key × V)} {ds : List (Key × D)} (hd : ∀ a, F a → ∃ o, H a = some o) (hp : H p = none) (r : KReps T H F vs ds) : ResOk T .fresh H F (upd H p (.dK vs)) (.ref p) (.dK ds) := by
  unfold ResOk
  simp only
  rw [if_pos (show (D.dK ds).cell = true from rfl)]
  refine ⟨p, rfl, hp, fun hf => ?_, .dK upd_same (r.mono (fun _ h => h) fun a o _ => (Ext.laid (F := F) hp).keep a o)⟩
  obtain ⟨o, e⟩ := hd p hf
  rw [hp] at e; cases e
theorem ResOk.newT {p : Addr} {vs : List V} {ds : List D} (hp : H p = none) (r : Reps T H F vs ds) : ResOk T q H (fun a => F a ∨ a = p) (upd H p (.tup vs)) (.ref p) (.tup ds) :=
  .sc rfl (.tup (.inr rfl) upd_same (r.ext (Ext.laidF hp)))
end

def DE (X : Cx) (T : Tab) (Γ : List Mo) (XE : XT) (q : Qu) (e : Expr) (f : Ev → R D) : Prop := ∃ t, PE X e t ∧ SimE T Γ XE q t f
def DT (X : Cx) (T : Tab) (Γ : List Mo) (XE : XT) (e : Expr) (f : Ev → R D) : Prop := ∃ t, PT X e t ∧ SimT T Γ XE t fun env => (f env).bind truthD
def DA (X : Cx) (T : Tab) (Γ : List Mo) (XE : XT) (es : List Expr) (f : Ev → R (List D)) : Prop := ∃ t, PA X es t ∧ SimA T Γ XE t f
def DC (X : Cx) (T : Tab) (Γ : List Mo) (XE : XT) (es : List Expr) (f : Ev → R (List D)) : Prop := ∃ t, PA X es t ∧ SimC T Γ XE t f
/-- a value, then the rest: how results are handed on -/
abbrev Go (T : Tab) (q : Qu) (F : Addr → Prop) (H : Hp) (Q : VK) : D → Prop := fun d => ∀ F' H' v, Ext F H F' H' → ResOk T q H F' H' v d → Q v H'
abbrev GoX (XE : XT) (σ : St) (F : Addr → Prop) (H : Hp) : Nat → List D → Prop := fun c fs => ∀ F' H', Ext F H F' H' → XE c fs σ F' H'
/-- .. at any slots -/
abbrev GoS (XE : XT) (F : Addr → Prop) (H : Hp) : Nat → List D → Prop := fun c fs => ∀ σ F' H', Ext F H F' H' → XE c fs σ F' H'
abbrev Dom (F : Addr → Prop) (H : Hp) : Prop := ∀ a, F a → ∃ o, H a = some o
theorem Go.back {T : Tab} {q : Qu} {F F1 : Addr → Prop} {H H1 : Hp} {Q : VK} {d : D} (x : Ext F H F1 H1) (h : Go T q F H Q d) : Go T q F1 H1 Q d := fun F' H' v y r => h F' H' v (x.trans y) (r.back x)
theorem Go.now {T : Tab} {q : Qu} {F : Addr → Prop} {H : Hp} {Q : VK} {d : D} {v : V} (h : Go T q F H Q d) (r : ResOk T q H F H v d) : Q v H := h F H v (Ext.refl _ _) r

section
variable {X : Cx} {T : Tab} {Γ : List Mo} {XE : XT} {q q' qa qb qc : Qu} {a b c : Expr} {fa fb fc : Ev → R D} {pos : Pos}
theorem de_weak (h : DE X T Γ XE .fresh a fa) : DE X T Γ XE .dirty a fa := by
  obtain ⟨t, p, s⟩ := h
  exact ⟨t, p, fun H0 F0 σ H F env Q r h => s H0 F0 σ H F env Q r (wpR_mono h (fun d hd F' H' v x rv => hd F' H' v x rv.top) fun _ _ z => z)⟩
theorem de_var {i : Nat} {x : Str} {m : Mo} (hl : m ≠ .lol) (hm : Γ[i]? = some m) (hq : q = if m = .frz then .clean else .dirty) (hN : X.N[i]? = some x) (hv : Vis X.env.scope x) (hd : (x == ("__debug__" : Str)) = false) (hcd : (x == ("__classdict__" : Str)) = false) : DE X T Γ XE q (.Name x pos) fun env => getV env i := by
  refine ⟨_, pe_var hN hv hd hcd, fun H0 F0 σ H F env Q r h => ?_⟩
  unfold getV at h
  dsimp only at h
  split at h
  · rename_i d e
    obtain ⟨v, hv, ok⟩ := r.slot i d e
    refine ⟨v, hv, h F H v (Ext.refl _ _) ?_⟩
    rw [List.getD_eq_getElem?_getD, hm, Option.getD_some] at ok
    subst hq
    split
    · rename_i e; subst e; exact ok
    · exact SlotOk.top hl ok
  · exact h.elim
theorem de_const {v : V} {d : D} {e : Expr} (hp : PE X e (tC v)) (hr : ∀ H' F', Rep T H' F' v d) (hc : d.cell = false) : DE X T Γ XE q e fun _ => .ok d :=
  ⟨_, hp, fun _ _ _ H F _ Q _ h => h F H v (Ext.refl _ _) (.sc hc (hr _ _))⟩
theorem de_op {op : Operator} {r : R2} {fop : D → D → R D} (ho : OpR X (binaryOp op) r) (ha : DE X T Γ XE qa a fa) (hb : DE X T Γ XE qb b fb)
    (hop : ∀ (H : Hp) (F : Addr → Prop) (v1 v2 : V) (d1 d2 : D) (Q : VK), Top T H F v1 d1 → Top T H F v2 d2 → Dom F H → wpR (fop d1 d2) (Go T q F H Q) (fun _ _ => False) → r v1 v2 H Q) (hx : ∀ d1 d2 c fs, fop d1 d2 ≠ .exc c fs) :
    DE X T Γ XE q (.BinOp a op b pos) fun env => (fa env).bind fun x => (fb env).bind fun y => fop x y := by
  obtain ⟨ta, pa, sa⟩ := ha
  obtain ⟨tb, pb, sb⟩ := hb
  refine ⟨_, pe_op ho pa pb, fun H0 F0 σ H F env Q r h => ?_⟩
  refine sa.top r h fun d1 F1 H1 v1 x1 t1 r1 h1 => ?_
  refine sb.top r1 h1 fun d2 F2 H2 v2 x2 t2 r2 h2 => ?_
  refine hop H2 F2 v1 v2 d1 d2 Q (t1.ext x2) t2 r2.dom ?_
  have hh : wpR (fop d1 d2) (Go T q F H Q) (fun _ _ => False) := by
    cases e : fop d1 d2 with
    | ok d => rw [e] at h2; exact h2
    | exc c fs => exact absurd e (hx _ _ _ _)
    | bad => rw [e] at h2; exact h2
  exact wpR_mono hh (fun d hd => Go.back (x1.trans x2) hd) fun _ _ z => z

theorem i2 {H : Hp} {F : Addr → Prop} {v1 v2 : V} {i j k : Int} {Q : VK} (t1 : Top T H F v1 (.int i)) (t2 : Top T H F v2 (.int j)) (h : wpR (.ok (.int k)) (Go T q F H Q) (fun _ _ => False)) : v1 = .int i ∧ v2 = .int j ∧ Q (.int k) H :=
  ⟨t1.int, t2.int, Go.now (d := .int k) h .int⟩
theorem de_add (ha : DE X T Γ XE qa a fa) (hb : DE X T Γ XE qb b fb) : DE X T Γ XE .fresh (.BinOp a .Add b pos) fun env => (fa env).bind fun x => (fb env).bind fun y => addD x y := by
  refine de_op (OpR.or op_add (OpR.or op_add_str op_cat)) ha hb (fun H F v1 v2 d1 d2 Q t1 t2 hd h => ?_) fun d1 d2 c fs => ?_
  · unfold addD at h
    split at h
    · obtain ⟨rfl, rfl, h⟩ := i2 t1 t2 h
      exact .inl ⟨_, _, rfl, rfl, h⟩
    · split at h
      · rename_i hl
        exact .inr (.inl ⟨_, _, t1.str, t2.str, by rw [sizeLine_eq]; exact hl, Go.now (d := .str _) h .str⟩)
      · exact h.elim
    · split at h
      · rename_i hl
        obtain ⟨a, vs, rfl, h1, h2⟩ := t1.lst
        obtain ⟨b, ws, rfl, h3, h4⟩ := t2.lst
        refine .inr (.inr ⟨a, b, vs, ws, rfl, rfl, h1, h3, by rw [sizeLine_eq, h2.length, h4.length]; exact hl, fun p hp => ?_⟩)
        exact h F _ _ (Ext.laid hp) (.newL hd hp (h2.append h4))
      · exact h.elim
    · exact h.elim
  · unfold addD
    split <;> first | (intro z; cases z; done) | (split <;> intro z <;> cases z)
theorem de_bsub (ha : DE X T Γ XE qa a fa) (hb : DE X T Γ XE qb b fb) : DE X T Γ XE .fresh (.BinOp a .Sub b pos) fun env => (fa env).bind fun x => (fb env).bind fun y => subID x y := by
  refine de_op op_sub ha hb (fun H F v1 v2 d1 d2 Q t1 t2 hd h => ?_) fun d1 d2 c fs => ?_
  · unfold subID at h
    split at h
    · obtain ⟨rfl, rfl, h⟩ := i2 t1 t2 h
      exact ⟨_, _, rfl, rfl, h⟩
    · exact h.elim
  · unfold subID
    split <;> (intro z; cases z)
theorem de_band (ha : DE X T Γ XE qa a fa) (hb : DE X T Γ XE qb b fb) : DE X T Γ XE .fresh (.BinOp a .BitAnd b pos) fun env => (fa env).bind fun x => (fb env).bind fun y => andD x y := by
  refine de_op op_and ha hb (fun H F v1 v2 d1 d2 Q t1 t2 hd h => ?_) fun d1 d2 c fs => ?_
  · unfold andD at h
    split at h
    · obtain ⟨rfl, rfl, h⟩ := i2 t1 t2 h
      exact ⟨_, _, rfl, rfl, h⟩
    · exact h.elim
  · unfold andD
    split <;> (intro z; cases z)
theorem de_bor (ha : DE X T Γ XE qa a fa) (hb : DE X T Γ XE qb b fb) : DE X T Γ XE .fresh (.BinOp a .BitOr b pos) fun env => (fa env).bind fun x => (fb env).bind fun y => orD x y := by
  refine de_op op_or ha hb (fun H F v1 v2 d1 d2 Q t1 t2 hd h => ?_) fun d1 d2 c fs => ?_
  · unfold orD at h
    split at h
    · obtain ⟨rfl, rfl, h⟩ := i2 t1 t2 h
      exact ⟨_, _, rfl, rfl, h⟩
    · exact h.elim
  · unfold orD
    split <;> (intro z; cases z)
theorem de_bxor (ha : DE X T Γ XE qa a fa) (hb : DE X T Γ XE qb b fb) : DE X T Γ XE .fresh (.BinOp a .BitXor b pos) fun env => (fa env).bind fun x => (fb env).bind fun y => xorD x y := by
  refine de_op op_xor ha hb (fun H F v1 v2 d1 d2 Q t1 t2 hd h => ?_) fun d1 d2 c fs => ?_
  · unfold xorD at h
    split at h
    · obtain ⟨rfl, rfl, h⟩ := i2 t1 t2 h
      exact ⟨_, _, rfl, rfl, h⟩
    · exact h.elim
  · unfold xorD
    split <;> (intro z; cases z)
theorem de_mod (ha : DE X T Γ XE qa a fa) (hb : DE X T Γ XE qb b fb) : DE X T Γ XE .fresh (.BinOp a .Mod b pos) fun env => (fa env).bind fun x => (fb env).bind fun y => modD x y := by
  refine de_op op_mod ha hb (fun H F v1 v2 d1 d2 Q t1 t2 hd h => ?_) fun d1 d2 c fs => ?_
  · unfold modD at h
    split at h
    · split at h
      · rename_i hc
        obtain ⟨rfl, rfl, h⟩ := i2 t1 t2 h
        exact ⟨_, _, rfl, rfl, hc, h⟩
      · exact h.elim
    · exact h.elim
  · unfold modD
    split <;> first | (intro z; cases z; done) | (split <;> (intro z; cases z))
theorem de_shr (ha : DE X T Γ XE qa a fa) (hb : DE X T Γ XE qb b fb) : DE X T Γ XE .fresh (.BinOp a .RShift b pos) fun env => (fa env).bind fun x => (fb env).bind fun y => shrD x y := by
  refine de_op op_shr ha hb (fun H F v1 v2 d1 d2 Q t1 t2 hd h => ?_) fun d1 d2 c fs => ?_
  · unfold shrD at h
    split at h
    · split at h
      · rename_i hc
        obtain ⟨rfl, rfl, h⟩ := i2 t1 t2 h
        exact ⟨_, _, rfl, rfl, hc, h⟩
      · exact h.elim
    · exact h.elim
  · unfold shrD
    split <;> first | (intro z; cases z; done) | (split <;> (intro z; cases z))
theorem de_pow (ha : DE X T Γ XE qa a fa) (hb : DE X T Γ XE qb b fb) : DE X T Γ XE .fresh (.BinOp a .Pow b pos) fun env => (fa env).bind fun x => (fb env).bind fun y => powD x y := by
  refine de_op op_pow ha hb (fun H F v1 v2 d1 d2 Q t1 t2 hd h => ?_) fun d1 d2 c fs => ?_
  · unfold powD at h
    split at h
    · split at h
      · rename_i hc
        obtain ⟨rfl, rfl, h⟩ := i2 t1 t2 h
        simp only [Bool.and_eq_true, decide_eq_true_eq] at hc; exact ⟨_, _, rfl, rfl, ⟨hc.1.1, hc.1.2, hc.2⟩, h⟩
      · exact h.elim
    · exact h.elim
  · unfold powD
    split <;> first | (intro z; cases z; done) | (split <;> (intro z; cases z))
theorem de_shl (ha : DE X T Γ XE qa a fa) (hb : DE X T Γ XE qb b fb) : DE X T Γ XE .fresh (.BinOp a .LShift b pos) fun env => (fa env).bind fun x => (fb env).bind fun y => shlD x y := by
  refine de_op op_shl ha hb (fun H F v1 v2 d1 d2 Q t1 t2 hd h => ?_) fun d1 d2 c fs => ?_
  · unfold shlD at h
    split at h
    · split at h
      · rename_i hc
        obtain ⟨rfl, rfl, h⟩ := i2 t1 t2 h
        simp only [Bool.and_eq_true, decide_eq_true_eq] at hc; exact ⟨_, _, rfl, rfl, ⟨hc.1.1, hc.1.2, hc.2⟩, h⟩
      · exact h.elim
    · exact h.elim
  · unfold shlD
    split <;> first | (intro z; cases z; done) | (split <;> (intro z; cases z))
/-- // by a divisor below 0, too -/
theorem op_fdivNW {X : Cx} : OpR X (binaryOp .FloorDiv) (rI (fun _ j => j < 0 ∧ j.natAbs.log2 < 9000) fun i j => .int (i.fdiv j)) := opI fun i j _ _ _ _ _ hc q => floordiv_int (by have := hc.1; omega) q (.inl (PyProof.noPylong_of_log2 hc.2))
theorem de_fdiv (ha : DE X T Γ XE qa a fa) (hb : DE X T Γ XE qb b fb) : DE X T Γ XE .fresh (.BinOp a .FloorDiv b pos) fun env => (fa env).bind fun x => (fb env).bind fun y => fdivD x y := by
  refine de_op (OpR.or op_fdiv (OpR.or op_fdivW op_fdivNW)) ha hb (fun H F v1 v2 d1 d2 Q t1 t2 hd h => ?_) fun d1 d2 c fs => ?_
  · unfold fdivD at h
    split at h
    · split at h
      · rename_i hc
        obtain ⟨rfl, rfl, h⟩ := i2 t1 t2 h
        simp only [Bool.and_eq_true, Bool.or_eq_true, decide_eq_true_eq] at hc
        rcases hc with ⟨h1, h2 | h2⟩
        · exact .inl ⟨_, _, rfl, rfl, ⟨h1, h2⟩, h⟩
        · exact .inr (.inl ⟨_, _, rfl, rfl, ⟨h1, h2⟩, h⟩)
      · split at h
        · rename_i hc
          obtain ⟨rfl, rfl, h⟩ := i2 t1 t2 h
          simp only [Bool.and_eq_true, decide_eq_true_eq] at hc
          exact .inr (.inr ⟨_, _, rfl, rfl, hc, h⟩)
        · exact h.elim
    · exact h.elim
  · unfold fdivD
    split
    · split
      · intro z; cases z
      · split <;> (intro z; cases z)
    · intro z; cases z
theorem logX {i j : Int} (h : i.natAbs.log2 + j.natAbs.log2 < 100000000) : CMulX i j := by
  have b : ∀ x : Int, Builtin.Int.intBits x ≤ x.natAbs.log2 + 1 := fun x => by
    unfold Builtin.Int.intBits
    split <;> omega
  have h1 := b i
  have h2 := b j
  unfold CMulX
  omega
theorem Reps.rep {T : Tab} {H : Hp} {S : Addr → Prop} {v : List V} {d : List D} (h : Reps T H S v d) : ∀ n : Nat, Reps T H S (List.replicate n v).flatten (List.replicate n d).flatten
  | 0 => .nil
  | n + 1 => by
    rw [List.replicate_succ, List.replicate_succ, List.flatten_cons, List.flatten_cons]
    exact h.append (h.rep n)
theorem de_mul (ha : DE X T Γ XE qa a fa) (hb : DE X T Γ XE qb b fb) : DE X T Γ XE .fresh (.BinOp a .Mult b pos) fun env => (fa env).bind fun x => (fb env).bind fun y => mulD x y := by
  refine de_op (OpR.or op_mul (OpR.or op_mulX op_rep)) ha hb (fun H F v1 v2 d1 d2 Q t1 t2 hd h => ?_) fun d1 d2 c fs => ?_
  · unfold mulD at h
    split at h
    · split at h
      · rename_i hc
        obtain ⟨rfl, rfl, h⟩ := i2 t1 t2 h
        unfold fitsI at hc
        simp only [Bool.and_eq_true, Bool.or_eq_true, decide_eq_true_eq] at hc
        rcases hc with (hc | hc) | hc
        · exact .inl ⟨_, _, rfl, rfl, .inl hc, h⟩
        · exact .inl ⟨_, _, rfl, rfl, .inr hc, h⟩
        · exact .inr (.inl ⟨_, _, rfl, rfl, logX hc, h⟩)
      · exact h.elim
    · split at h
      · rename_i hc
        simp only [Bool.and_eq_true, decide_eq_true_eq] at hc
        obtain ⟨a, vs, rfl, h1, h2⟩ := t1.lst
        cases t2.int
        refine .inr (.inr ⟨a, _, vs, rfl, rfl, h1, hc.1.1, hc.1.2, by rw [sizeLine_eq, h2.length]; exact hc.2, fun p hp => ?_⟩)
        exact h F _ _ (Ext.laid hp) (.newL hd hp (h2.rep _))
      · exact h.elim
    · exact h.elim
  · unfold mulD
    split <;> first | (intro z; cases z; done) | (split <;> (intro z; cases z))
/-- a unary operator on ints -/
theorem de_un {op : UnaryOp} {g : Int → Int} (hu : UnR X (unaryOp op) (rU fun i => .int (g i))) (ha : DE X T Γ XE qa a fa) : DE X T Γ XE .fresh (.UnaryOp op a pos) fun env => (fa env).bind fun x => x.asI.bind fun i => .ok (.int (g i)) := by
  obtain ⟨ta, pa, sa⟩ := ha
  refine ⟨_, pe_un hu pa, fun H0 F0 σ H F env Q r h => ?_⟩
  refine sa.top r h fun d1 F1 H1 v1 x1 t1 r1 h1 => ?_
  cases d1 with
  | int i =>
    cases t1.int
    exact ⟨i, rfl, Go.now (Go.back (d := .int _) x1 h1) .int⟩
  | _ => exact h1.elim

/-! ### comparisons -/
theorem eqF_ok {T : Tab} {H : Hp} {F : Addr → Prop} {v1 v2 : V} {d1 d2 : D} {k : Bool} (t1 : Top T H F v1 d1) (t2 : Top T H F v2 d2) (e : eqF d1 d2 = .ok k) : L2.scal v1 v2 = true ∧ decide (v1 = v2) = k := by
  unfold eqF at e
  split at e
  all_goals first | (cases e; done) | skip
  · cases t1.non; cases t2.non; injection e with e; subst e; exact ⟨rfl, by simp⟩
  · cases t1.non; cases t2.int; injection e with e; subst e; exact ⟨rfl, by simp⟩
  · cases t1.int; cases t2.non; injection e with e; subst e; exact ⟨rfl, by simp⟩
  · cases t1.non; cases t2.bl; injection e with e; subst e; exact ⟨rfl, by simp⟩
  · cases t1.bl; cases t2.non; injection e with e; subst e; exact ⟨rfl, by simp⟩
  · cases t1.non; cases t2.str; injection e with e; subst e; exact ⟨rfl, by simp⟩
  · cases t1.str; cases t2.non; injection e with e; subst e; exact ⟨rfl, by simp⟩
  · cases t1.int; cases t2.int; injection e with e; subst e; exact ⟨rfl, by simp⟩
  · cases t1.bl; cases t2.bl; injection e with e; subst e; exact ⟨rfl, by simp⟩
  · cases t1.str; cases t2.str; injection e with e; subst e; exact ⟨rfl, by simp⟩
  · cases t1.int; cases t2.str; injection e with e; subst e; exact ⟨rfl, by simp⟩
  · cases t1.str; cases t2.int; injection e with e; subst e; exact ⟨rfl, by simp⟩
  · cases t1.bl; cases t2.str; injection e with e; subst e; exact ⟨rfl, by simp⟩
  · cases t1.str; cases t2.bl; injection e with e; subst e; exact ⟨rfl, by simp⟩
theorem Dp.ints {K : PySem.W.Frag} {H : Hp} : ∀ ns : List Int, DpAll K H (ns.map V.int) (ns.map PyData.int)
  | [] => .nil
  | n :: ns => .cons (.int n) (Dp.ints ns)
mutual
theorem Rep.data {T : Tab} {H : Hp} {F : Addr → Prop} : ∀ {v : V} {d : D} {x : PyData}, Rep T H F v d → d.data = some x → Dp T.K H v x
  | _, _, _, .non, e => by unfold D.data at e; cases e; exact .non
  | _, _, _, .bl b, e => by unfold D.data at e; cases e; exact .bl b
  | _, _, _, .int i, e => by unfold D.data at e; cases e; exact .int i
  | _, _, _, .str x, e => by unfold D.data at e; cases e; exact .str x
  | _, _, _, .fn f, e => by unfold D.data at e; cases e
  | _, _, _, .lst h1 h2 h3, e => by
    unfold D.data at e
    obtain ⟨xs, e1, rfl⟩ := Option.map_eq_some_iff.mp e
    exact .lst (SqL.of h2) (Reps.data h3 e1)
  | _, _, _, .tup h1 h2 h3, e => by
    unfold D.data at e
    obtain ⟨xs, e1, rfl⟩ := Option.map_eq_some_iff.mp e
    exact .tup (SqT.of h2) (Reps.data h3 e1)
  | _, _, _, .scr h1 h2, e => by
    unfold D.data at e
    cases e
    exact .lst (.inl h2) (Dp.ints _)
  | _, _, _, .scrK h1, e => by
    unfold D.data at e
    cases e
    exact .lst (.inr h1) (Dp.ints _)
  | _, _, _, .dK _ _ _, e => by unfold D.data at e; cases e
  | _, _, _, .dT _ _ _, e => by unfold D.data at e; cases e
  | _, _, _, .obj _ _ _, e => by unfold D.data at e; cases e
theorem Reps.data {T : Tab} {H : Hp} {F : Addr → Prop} : ∀ {v : List V} {d : List D} {x : List PyData}, Reps T H F v d → D.datas d = some x → DpAll T.K H v x
  | _, _, _, .nil, e => by unfold D.datas at e; cases e; exact .nil
  | _, _, _, .cons h t, e => by
    unfold D.datas at e
    split at e
    · rename_i y ys e1 e2
      cases e
      exact .cons (Rep.data h e1) (Reps.data t e2)
    · cases e
end
theorem Top.data {T : Tab} {H : Hp} {F : Addr → Prop} {v : V} {d : D} {x : PyData} (h : Top T H F v d) (e : d.data = some x) : Dp T.K H v x := by
  rcases h with h | ⟨a, rfl, h⟩
  · exact h.data e
  · cases h with
    | lst h2 h3 =>
      unfold D.data at e
      obtain ⟨xs, e1, rfl⟩ := Option.map_eq_some_iff.mp e
      exact .lst (SqL.of h2) (Reps.data h3 e1)
    | dK _ _ => unfold D.data at e; cases e
    | dT _ _ => unfold D.data at e; cases e
/-- the rule of == -/
def rEqA (K : PySem.W.Frag) : R2 := fun x y H Q => rEq x y H Q ∨ rEqD K x y H Q
def rNeA (K : PySem.W.Frag) : R2 := fun x y H Q => rNe x y H Q ∨ rNeD K x y H Q
theorem eqD_ok {T : Tab} {H : Hp} {F : Addr → Prop} {v1 v2 : V} {d1 d2 : D} {k : Bool} {Q : VK} (t1 : Top T H F v1 d1) (t2 : Top T H F v2 d2) (e : eqD d1 d2 = .ok k) (h : Q (.bl k) H) : rEqA T.K v1 v2 H Q := by
  unfold eqD at e
  split at e
  · rename_i k' e'
    injection e with e; subst e
    obtain ⟨h1, h2⟩ := eqF_ok t1 t2 e'
    exact .inl ⟨h1, by rw [h2]; exact h⟩
  · split at e
    · rename_i x y e1 e2
      split at e
      · rename_i hs
        rw [Bool.and_eq_true] at hs
        injection e with e; subst e
        exact .inr ⟨x, y, t1.data e1, t2.data e2, hs.1, hs.2, h⟩
      · cases e
    · cases e
theorem neD_ok {T : Tab} {H : Hp} {F : Addr → Prop} {v1 v2 : V} {d1 d2 : D} {k : Bool} {Q : VK} (t1 : Top T H F v1 d1) (t2 : Top T H F v2 d2) (e : eqD d1 d2 = .ok k) (h : Q (.bl (!k)) H) : rNeA T.K v1 v2 H Q := by
  unfold eqD at e
  split at e
  · rename_i k' e'
    injection e with e; subst e
    obtain ⟨h1, h2⟩ := eqF_ok t1 t2 e'
    exact .inl ⟨h1, by rw [h2]; exact h⟩
  · split at e
    · rename_i x y e1 e2
      split at e
      · rename_i hs
        rw [Bool.and_eq_true] at hs
        injection e with e; subst e
        exact .inr ⟨x, y, t1.data e1, t2.data e2, hs.1, hs.2, h⟩
      · cases e
    · cases e
theorem eqD_nx (d1 d2 : D) : ∀ c fs, eqD d1 d2 ≠ .exc c fs := by
  intro c fs
  unfold eqD
  split
  · intro z; cases z
  · split
    · split <;> (intro z; cases z)
    · intro z; cases z
end
end Ev

set_option maxHeartbeats 2000000
namespace Ev
open PySem PySem.Spec PyProof.Rows L2
variable [Tbs]

section
variable {X : Cx} {T : Tab} {Γ : List Mo} {XE : XT} {q q' qa qb qc : Qu} {a b c : Expr} {fa fb fc : Ev → R D} {pos : Pos}
/-- a comparison's rule by values, and what it tells of trees -/
def CmpOk (X : Cx) (T : Tab) (op : CmpOp) (g : D → D → R Bool) : Prop := ∃ r : R2, OpR X (compareOp op) r ∧ (∀ d1 d2 c fs, g d1 d2 ≠ .exc c fs) ∧
  ∀ (H : Hp) (F : Addr → Prop) (v1 v2 : V) (d1 d2 : D) (k : Bool) (Q : VK), Top T H F v1 d1 → Top T H F v2 d2 → g d1 d2 = .ok k → Q (.bl k) H → r v1 v2 H Q
theorem cmp_int {op : CmpOp} {p : Int → Int → Bool} {g : D → D → R Bool} (ho : OpR X (compareOp op) (rI0 fun i j => .bl (p i j))) (hg : ∀ d1 d2, (∃ i j, d1 = .int i ∧ d2 = .int j ∧ g d1 d2 = .ok (p i j)) ∨ g d1 d2 = .bad) : CmpOk X T op g := by
  refine ⟨_, ho, fun d1 d2 c fs z => ?_, fun H F v1 v2 d1 d2 k Q t1 t2 e h => ?_⟩
  · rcases hg d1 d2 with ⟨i, j, _, _, e⟩ | e <;> (rw [e] at z; cases z)
  · rcases hg d1 d2 with ⟨i, j, rfl, rfl, e'⟩ | e'
    · rw [e'] at e; injection e with e; subst e
      exact ⟨i, j, t1.int, t2.int, h⟩
    · rw [e'] at e; cases e
theorem cmp_lt : CmpOk X T .Lt ltD := cmp_int op_lt fun d1 d2 => by
  unfold ltD; split
  · exact .inl ⟨_, _, rfl, rfl, rfl⟩
  · exact .inr rfl
theorem cmp_le : CmpOk X T .LtE leD := cmp_int op_le fun d1 d2 => by
  unfold leD; split
  · exact .inl ⟨_, _, rfl, rfl, rfl⟩
  · exact .inr rfl
theorem cmp_gt : CmpOk X T .Gt gtD := cmp_int op_gt fun d1 d2 => by
  unfold gtD; split
  · exact .inl ⟨_, _, rfl, rfl, rfl⟩
  · exact .inr rfl
theorem cmp_ge : CmpOk X T .GtE geD := cmp_int op_ge fun d1 d2 => by
  unfold geD; split
  · exact .inl ⟨_, _, rfl, rfl, rfl⟩
  · exact .inr rfl
theorem cmp_eq (hK : X.K = T.K) (hu : X.A.units + 65 < cLine) : CmpOk X T .Eq eqD := by
  refine ⟨_, OpR.or op_eq (op_eqD (by omega)), fun d1 d2 c fs => eqD_nx d1 d2 c fs, fun H F v1 v2 d1 d2 k Q t1 t2 e h => ?_⟩
  have := eqD_ok t1 t2 e h
  rw [hK]
  exact this
theorem cmp_ne (hK : X.K = T.K) (hu : X.A.units + 65 < cLine) : CmpOk X T .NotEq neD := by
  refine ⟨_, OpR.or op_ne (op_neD (by omega)), fun d1 d2 c fs z => ?_, fun H F v1 v2 d1 d2 k Q t1 t2 e h => ?_⟩
  · unfold neD at z
    cases e : eqD d1 d2 with
    | ok k => rw [e] at z; cases z
    | exc c fs => exact eqD_nx _ _ _ _ e
    | bad => rw [e] at z; cases z
  · unfold neD at e
    cases e' : eqD d1 d2 with
    | ok k' =>
      rw [e'] at e
      injection e with e
      subst e
      have := neD_ok t1 t2 e' h
      rw [hK]
      exact this
    | exc c fs => exact absurd e' (eqD_nx _ _ _ _)
    | bad => rw [e'] at e; cases e
theorem op_din (hu : X.A.units + 1 < cLine) : OpR X (compareOp .In) (fun y x H Q => ∃ a o, x = .ref a ∧ DGet H a y o ∧ Q (.bl o.isSome) H) := by
  intro pins s σ H y x v u Q I ry rx h
  obtain ⟨a, o, rfl, g, q⟩ := h
  obtain rfl : u = Value.ref a := rx
  exact d_in hu I g ry fun s3 I3 => ⟨.bl o.isSome, H, I3, rfl, q⟩
theorem op_dnotin (hu : X.A.units + 1 < cLine) : OpR X (compareOp .NotIn) (fun y x H Q => ∃ a o, x = .ref a ∧ DGet H a y o ∧ Q (.bl (!o.isSome)) H) := by
  intro pins s σ H y x v u Q I ry rx h
  obtain ⟨a, o, rfl, g, q⟩ := h
  obtain rfl : u = Value.ref a := rx
  exact d_notIn hu I g ry fun s3 I3 => ⟨.bl (!o.isSome), H, I3, rfl, q⟩
theorem KReps.any {T : Tab} {H : Hp} {F : Addr → Prop} (k : Key) : ∀ {vs : List (Key × V)} {ds : List (Key × D)}, KReps T H F vs ds → (valV vs k).isSome = ds.any fun kv => decide (kv.1 = k)
  | _, _, .nil => rfl
  | (k', v) :: vs, (_, d) :: ds, .cons h t => by
    rw [List.any_cons, ← KReps.any k t]
    by_cases e : k' = k
    · rw [valV_pos e]; simp [e]
    · rw [valV_neg e]; simp [e]
theorem KReps.find {T : Tab} {H : Hp} {F : Addr → Prop} {k : Key} {x : D} : ∀ {vs : List (Key × V)} {ds : List (Key × D)}, KReps T H F vs ds → getK k ds = some x → ∃ v, valV vs k = some v ∧ Rep T H F v x
  | _, _, .nil, e => by cases e
  | (k', v) :: vs, (_, d) :: ds, .cons h t, e => by
    unfold getK at e
    by_cases e' : k' = k
    · rw [List.find?_cons, decide_eq_true e'] at e
      cases e
      exact ⟨v, valV_pos e', h⟩
    · rw [List.find?_cons, decide_eq_false e'] at e
      rw [valV_neg e']
      exact KReps.find t e
theorem Top.flat {T : Tab} {H : Hp} {F : Addr → Prop} {v : V} {d : D} (h : Top T H F v d) (f : flatD d = true) : flatV v = true := by
  cases d with
  | non => cases h.non; rfl
  | bl b => cases h.bl; rfl
  | int i => cases h.int; rfl
  | str x => cases h.str; rfl
  | _ => cases f
theorem Top.eqFB {T : Tab} {H : Hp} {F : Addr → Prop} {v w : V} {d e : D} (h : Top T H F v d) (h' : Top T H F w e) (f : flatD d = true) (f' : flatD e = true) : eqV v w = eqFB d e := by
  cases d with
  | non => cases h.non; cases e with
    | non => cases h'.non; rfl
    | bl b => cases h'.bl; rfl
    | int i => cases h'.int; rfl
    | str x => cases h'.str; rfl
    | _ => cases f'
  | bl b => cases h.bl; cases e with
    | non => cases h'.non; rfl
    | bl b => cases h'.bl; rfl
    | int i => cases h'.int; rfl
    | str x => cases h'.str; rfl
    | _ => cases f'
  | int i => cases h.int; cases e with
    | non => cases h'.non; rfl
    | bl b => cases h'.bl; rfl
    | int i => cases h'.int; rfl
    | str x => cases h'.str; rfl
    | _ => cases f'
  | str x => cases h.str; cases e with
    | non => cases h'.non; rfl
    | bl b => cases h'.bl; rfl
    | int i => cases h'.int; rfl
    | str x => cases h'.str; rfl
    | _ => cases f'
  | _ => cases f
theorem Reps.flat {T : Tab} {H : Hp} {F : Addr → Prop} : ∀ {vs : List V} {ds : List D}, Reps T H F vs ds → ds.all flatD = true → vs.all flatV = true
  | _, _, .nil, _ => rfl
  | _, _, .cons h t, f => by
    rw [List.all_cons, Bool.and_eq_true] at f ⊢
    exact ⟨Top.flat (.inl h) f.1, Reps.flat t f.2⟩
theorem Reps.inV {T : Tab} {H : Hp} {F : Addr → Prop} {v : V} {d : D} (h0 : Top T H F v d) (f0 : flatD d = true) : ∀ {vs : List V} {ds : List D}, Reps T H F vs ds → ds.all flatD = true → inV v vs = ds.any fun y => Ev.eqFB y d
  | _, _, .nil, _ => rfl
  | _, _, .cons h t, f => by
    rw [List.all_cons, Bool.and_eq_true] at f
    unfold L2.inV
    rw [List.any_cons, List.any_cons, Top.eqFB (.inl h) h0 f.1 f0]
    congr 1
    exact Reps.inV h0 f0 t f.2
theorem inD_nx (neg : Bool) (d1 d2 : D) : ∀ c fs, inD neg d1 d2 ≠ .exc c fs := by
  intro c fs
  unfold inD
  split
  · split <;> (intro z; cases z)
  · split
    · split <;> (intro z; cases z)
    · intro z; cases z
theorem cmp_in (hK : X.K = T.K) (hu : X.A.units + 65 < cLine) : CmpOk X T .In (inD false) := by
  refine ⟨_, OpR.or op_in_seq (op_din (by omega)), fun d1 d2 c fs => inD_nx _ d1 d2 c fs, fun H F v1 v2 d1 d2 k Q t1 t2 e h => ?_⟩
  unfold inD at e
  split at e
  · obtain ⟨a, vs, rfl, h1, h2⟩ := t2.dK
    right
    split at e
    · cases t1.int
      injection e with e
      refine ⟨a, _, rfl, .k (k := Sum.inl _) h1, ?_⟩
      rw [h2.any, ← Bool.false_xor (List.any _ _), e]
      exact h
    · cases t1.str
      injection e with e
      refine ⟨a, _, rfl, .k (k := Sum.inr _) h1, ?_⟩
      rw [h2.any, ← Bool.false_xor (List.any _ _), e]
      exact h
    · cases e
  · split at e
    · rename_i xs hs
      split at e
      · rename_i hf
        rw [Bool.and_eq_true] at hf
        injection e with e
        obtain ⟨a, vs, rfl, h1, h2⟩ := t2.seq hs
        left
        refine ⟨a, vs, rfl, by rw [hK]; exact h1, t1.flat hf.1, h2.flat hf.2, ?_⟩
        rw [Reps.inV t1 hf.1 h2 hf.2, ← Bool.false_xor (List.any _ _), e]
        exact h
      · cases e
    · cases e
theorem cmp_notin (hK : X.K = T.K) (hu : X.A.units + 65 < cLine) : CmpOk X T .NotIn (inD true) := by
  refine ⟨_, OpR.or op_notIn_seq (op_dnotin (by omega)), fun d1 d2 c fs => inD_nx _ d1 d2 c fs, fun H F v1 v2 d1 d2 k Q t1 t2 e h => ?_⟩
  unfold inD at e
  split at e
  · obtain ⟨a, vs, rfl, h1, h2⟩ := t2.dK
    right
    split at e
    · cases t1.int
      injection e with e
      refine ⟨a, _, rfl, .k (k := Sum.inl _) h1, ?_⟩
      rw [h2.any, ← Bool.true_xor (List.any _ _), e]
      exact h
    · cases t1.str
      injection e with e
      refine ⟨a, _, rfl, .k (k := Sum.inr _) h1, ?_⟩
      rw [h2.any, ← Bool.true_xor (List.any _ _), e]
      exact h
    · cases e
  · split at e
    · rename_i xs hs
      split at e
      · rename_i hf
        rw [Bool.and_eq_true] at hf
        injection e with e
        obtain ⟨a, vs, rfl, h1, h2⟩ := t2.seq hs
        left
        refine ⟨a, vs, rfl, by rw [hK]; exact h1, t1.flat hf.1, h2.flat hf.2, ?_⟩
        show Q (.bl (!L2.inV v1 vs)) H
        rw [Reps.inV t1 hf.1 h2 hf.2, ← Bool.true_xor (List.any _ _), e]
        exact h
      · cases e
    · cases e
/-- a comparison as a value, as a test -/
theorem de_cmp {op : CmpOp} {g : D → D → R Bool} (ho : CmpOk X T op g) (ha : DE X T Γ XE qa a fa) (hb : DE X T Γ XE qb b fb) (hm : behindInMarks op b = false) :
    DE X T Γ XE .fresh (.Compare a [op] [b] pos) (fun env => (fa env).bind fun x => (fb env).bind fun y => (g x y).bind fun k => .ok (.bl k)) ∧
      DT X T Γ XE (.Compare a [op] [b] pos) (fun env => (fa env).bind fun x => (fb env).bind fun y => (g x y).bind fun k => .ok (.bl k)) := by
  obtain ⟨r, hr, hx, hg⟩ := ho
  obtain ⟨ta, pa, sa⟩ := ha
  obtain ⟨tb, pb, sb⟩ := hb
  constructor
  · refine ⟨_, pe_cmpR hr pa pb hm, fun H0 F0 σ H F env Q s h => ?_⟩
    refine sa.top s h fun d1 F1 H1 v1 x1 t1 r1 h1 => ?_
    refine sb.top r1 h1 fun d2 F2 H2 v2 x2 t2 r2 h2 => ?_
    cases e : g d1 d2 with
    | ok k =>
      rw [e] at h2
      exact hg H2 F2 v1 v2 d1 d2 k Q (t1.ext x2) t2 e (Go.now (Go.back (d := .bl k) (x1.trans x2) h2) .bl)
    | exc c fs => exact absurd e (hx _ _ _ _)
    | bad => rw [e] at h2; exact h2.elim
  · refine ⟨_, pt_cmpR hr pa pb hm, fun H0 F0 σ H F env Q s h => ?_⟩
    simp only [R.bind_assoc, R.bind_ok] at h
    refine sa.top (P := fun k => ∀ F' H', Ext F H F' H' → Q k H') s h fun d1 F1 H1 v1 x1 t1 r1 h1 => ?_
    refine sb.top r1 h1 fun d2 F2 H2 v2 x2 t2 r2 h2 => ?_
    cases e : g d1 d2 with
    | ok k =>
      rw [e] at h2
      exact hg H2 F2 v1 v2 d1 d2 k _ (t1.ext x2) t2 e ⟨k, rfl, (show wpR (.ok k : R Bool) _ _ from h2) F2 H2 (x1.trans x2)⟩
    | exc c fs => exact absurd e (hx _ _ _ _)
    | bad => rw [e] at h2; exact h2.elim

/-- a test by the value's truth -/
theorem truV_ok {T : Tab} {H : Hp} {F : Addr → Prop} {v : V} {d : D} {k : Bool} (t : Top T H F v d) (e : truthD d = .ok k) : TruV T.K v H k := by
  unfold truthD at e
  split at e
  · cases t.non; injection e with e; exact e.symm
  · cases t.bl; injection e with e; exact e.symm
  · cases t.int; injection e with e; exact e.symm
  · obtain ⟨a, vs, rfl, h1, h2⟩ := t.lst
    injection e with e
    refine .inl ⟨vs, SqL.of h1, ?_⟩
    rw [← e]; cases h2 <;> rfl
  · obtain ⟨a, vs, rfl, _, h1, h2⟩ := t.tup
    injection e with e
    refine .inr (.inl ⟨vs, SqT.of h1, ?_⟩)
    rw [← e]; cases h2 <;> rfl
  · obtain ⟨a, rfl, h1⟩ := t.scr
    injection e with e
    refine .inl ⟨_, h1, ?_⟩
    rw [← e]; simp
  · cases e
theorem truthD_nx (d : D) : ∀ c fs, truthD d ≠ .exc c fs := by
  intro c fs; unfold truthD; split <;> (intro z; cases z)
def testE : Expr → Bool
  | .UnaryOp .Not _ _ => false
  | .BoolOp _ _ _ => false
  | .IfExp _ _ _ _ => false
  | .Compare _ _ _ _ => false
  | _ => true
theorem testE_ok {e : Expr} {env : Env} (h : testE e = true) : ∀ whole, isTrue e env whole = (do let v ← whole; standAt e.pos; holding [v] (truthy v)) := by
  intro whole
  cases e with
  | UnaryOp op a p => cases op <;> first | rfl | cases h
  | BoolOp => cases h
  | IfExp => cases h
  | Compare => cases h
  | _ => rfl
theorem dt_of (hK : X.K = T.K) (he : testE a = true) (ha : DE X T Γ XE q a fa) : DT X T Γ XE a fa := by
  obtain ⟨ta, pa, sa⟩ := ha
  refine ⟨_, pt_truth pa (testE_ok he), fun H0 F0 σ H F env Q s h => ?_⟩
  refine sa.top (P := fun k => ∀ F' H', Ext F H F' H' → Q k H') s h fun d1 F1 H1 v1 x1 t1 r1 h1 => ?_
  cases e : truthD d1 with
  | ok k => rw [e] at h1; rw [hK]; exact ⟨k, truV_ok t1 e, h1 F1 H1 x1⟩
  | exc c fs => exact absurd e (truthD_nx _ _ _)
  | bad => rw [e] at h1; exact h1.elim
theorem asB_truth (d : D) (k : Bool) (h : d.asB = .ok k) : truthD d = .ok k := by
  cases d <;> first | exact h | cases h
theorem asB_bl {d : D} {k : Bool} (h : d.asB = .ok k) : d = .bl k := by
  cases d <;> first | (injection h with h; subst h; rfl) | cases h
theorem asB_nx (d : D) : ∀ c fs, d.asB ≠ .exc c fs := by
  intro c fs; cases d <;> (intro z; cases z)
theorem de_not (ha : DE X T Γ XE qa a fa) : DE X T Γ XE .fresh (.UnaryOp .Not a pos) fun env => (fa env).bind fun x => x.asB.bind fun k => .ok (.bl (!k)) := by
  obtain ⟨ta, pa, sa⟩ := ha
  refine ⟨_, pe_not pa, fun H0 F0 σ H F env Q s h => ?_⟩
  refine sa.top s h fun d1 F1 H1 v1 x1 t1 r1 h1 => ?_
  cases e : d1.asB with
  | ok k =>
    rw [e] at h1
    cases asB_bl e
    exact ⟨k, t1.bl, Go.now (Go.back (d := .bl (!k)) x1 h1) .bl⟩
  | exc c fs => exact absurd e (asB_nx _ _ _)
  | bad => rw [e] at h1; exact h1.elim
theorem dt_not (ha : DT X T Γ XE a fa) : DT X T Γ XE (.UnaryOp .Not a pos) fun env => (fa env).bind fun x => x.asB.bind fun k => .ok (.bl (!k)) := by
  obtain ⟨ta, pa, sa⟩ := ha
  refine ⟨_, pt_not pa, fun H0 F0 σ H F env Q s h => ?_⟩
  refine sa H0 F0 σ H F env _ s ?_
  dsimp only at h ⊢
  cases e : fa env with
  | ok d =>
    rw [e] at h
    simp only [R.bind_ok] at h ⊢
    cases e' : d.asB with
    | ok k => rw [e'] at h; rw [asB_truth d k e']; exact h
    | exc c fs => exact absurd e' (asB_nx _ _ _)
    | bad => rw [e'] at h; exact h.elim
  | exc c fs => rw [e] at h; exact h
  | bad => rw [e] at h; exact h
/-- and, or as values -/
theorem de_and {rest : List Expr} (ha : DE X T Γ XE qa a fa) (hb : DE X T Γ XE qb (.BoolOp .And (b :: rest) pos) fb) : DE X T Γ XE .fresh (.BoolOp .And (a :: b :: rest) pos) fun env => (fa env).bind fun x => x.asB.bind fun k => match k with
    | true => (fb env).bind fun y => y.asB.bind fun k => .ok (.bl k)
    | false => .ok (.bl false) := by
  obtain ⟨ta, pa, sa⟩ := ha
  obtain ⟨tb, pb, sb⟩ := hb
  refine ⟨_, pe_and pa pb, fun H0 F0 σ H F env Q s h => ?_⟩
  refine sa.top s h fun d1 F1 H1 v1 x1 t1 r1 h1 => ?_
  cases e : d1.asB with
  | ok k =>
    rw [e] at h1
    cases asB_bl e
    refine ⟨k, t1.bl, ?_⟩
    cases k with
    | true =>
      simp only [if_true]
      refine sb.top r1 h1 fun d2 F2 H2 v2 x2 t2 r2 h2 => ?_
      cases e2 : d2.asB with
      | ok k2 =>
        rw [e2] at h2
        cases asB_bl e2
        cases t2.bl
        exact Go.now (Go.back (d := .bl k2) (x1.trans x2) h2) .bl
      | exc c fs => exact absurd e2 (asB_nx _ _ _)
      | bad => rw [e2] at h2; exact h2.elim
    | false =>
      simp only [Bool.false_eq_true, if_false]
      exact Go.now (Go.back (d := .bl false) x1 h1) .bl
  | exc c fs => exact absurd e (asB_nx _ _ _)
  | bad => rw [e] at h1; exact h1.elim
theorem de_or {rest : List Expr} (ha : DE X T Γ XE qa a fa) (hb : DE X T Γ XE qb (.BoolOp .Or (b :: rest) pos) fb) : DE X T Γ XE .fresh (.BoolOp .Or (a :: b :: rest) pos) fun env => (fa env).bind fun x => x.asB.bind fun k => match k with
    | true => .ok (.bl true)
    | false => (fb env).bind fun y => y.asB.bind fun k => .ok (.bl k) := by
  obtain ⟨ta, pa, sa⟩ := ha
  obtain ⟨tb, pb, sb⟩ := hb
  refine ⟨_, pe_or pa pb, fun H0 F0 σ H F env Q s h => ?_⟩
  refine sa.top s h fun d1 F1 H1 v1 x1 t1 r1 h1 => ?_
  cases e : d1.asB with
  | ok k =>
    rw [e] at h1
    cases asB_bl e
    refine ⟨k, t1.bl, ?_⟩
    cases k with
    | false =>
      simp only [Bool.false_eq_true, if_false]
      refine sb.top r1 h1 fun d2 F2 H2 v2 x2 t2 r2 h2 => ?_
      cases e2 : d2.asB with
      | ok k2 =>
        rw [e2] at h2
        cases asB_bl e2
        cases t2.bl
        exact Go.now (Go.back (d := .bl k2) (x1.trans x2) h2) .bl
      | exc c fs => exact absurd e2 (asB_nx _ _ _)
      | bad => rw [e2] at h2; exact h2.elim
    | true =>
      simp only [if_true]
      exact Go.now (Go.back (d := .bl true) x1 h1) .bl
  | exc c fs => exact absurd e (asB_nx _ _ _)
  | bad => rw [e] at h1; exact h1.elim
theorem de_one {op : BoolOp} (ha : DE X T Γ XE q a fa) : DE X T Γ XE q (.BoolOp op [a] pos) fa := by
  obtain ⟨ta, pa, sa⟩ := ha
  exact ⟨ta, pe_one pa, sa⟩
/-- tests -/
def DW (X : Cx) (T : Tab) (Γ : List Mo) (XE : XT) (e : Expr) (f : Ev → R D) : Prop := ∃ t, PW X e t ∧ SimT T Γ XE t fun env => (f env).bind truthD
theorem DW.dt (h : DW X T Γ XE a fa) : DT X T Γ XE a fa := by
  obtain ⟨t, p, s⟩ := h
  exact ⟨t, p.pt, s⟩
theorem dw_one_and (ha : DT X T Γ XE a fa) : DW X T Γ XE (.BoolOp .And [a] pos) fa := by
  obtain ⟨t, p, s⟩ := ha
  exact ⟨t, pw_and1 p, s⟩
theorem dw_one_or (ha : DT X T Γ XE a fa) : DW X T Γ XE (.BoolOp .Or [a] pos) fa := by
  obtain ⟨t, p, s⟩ := ha
  exact ⟨t, pw_or1 p, s⟩
theorem SimT.go {t : TT} {f : Ev → R D} (s : SimT T Γ XE t fun env => (f env).bind truthD) {H0 H : Hp} {F0 F : Addr → Prop} {σ : St} {env : Ev} {β : Type} {g : Bool → R β} {P : β → Prop} {Q : Bool → Hp → Prop} (r : SR T Γ H0 F0 F H env σ)
    (h : wpR (((f env).bind truthD).bind g) P (fun c fs => ∀ F' H', Ext F H F' H' → XE c fs σ F' H'))
    (k : ∀ d F1 H1, Ext F H F1 H1 → SR T Γ H0 F0 F1 H1 env σ → wpR (g d) P (fun c fs => ∀ F' H', Ext F1 H1 F' H' → XE c fs σ F' H') → Q d H1) : t σ H Q := by
  refine s H0 F0 σ H F env Q r (wpR_mono (wpR_bind h) (fun d hd F1 H1 x => ?_) fun c fs he => he)
  exact k d F1 H1 x (r.ext' x) (wpR_mono hd (fun _ z => z) fun c fs he F' H' y => he F' H' (x.trans y))
theorem asB_weak {β : Type} {r : R D} {g : Bool → R β} {P : β → Prop} {E : Nat → List D → Prop} (h : wpR (r.bind fun x => x.asB.bind g) P E) : wpR ((r.bind truthD).bind g) P E := by
  cases r with
  | ok d =>
    simp only [R.bind_ok] at h ⊢
    cases e' : d.asB with
    | ok k => rw [e'] at h; rw [asB_truth d k e']; exact h
    | exc c fs => exact absurd e' (asB_nx _ _ _)
    | bad => rw [e'] at h; exact h.elim
  | exc c fs => exact h
  | bad => exact h
theorem dw_and {rest : List Expr} (ha : DT X T Γ XE a fa) (hb : DW X T Γ XE (.BoolOp .And (b :: rest) pos) fb) : DW X T Γ XE (.BoolOp .And (a :: b :: rest) pos) fun env => (fa env).bind fun x => x.asB.bind fun k => match k with
    | true => (fb env).bind fun y => y.asB.bind fun k => .ok (.bl k)
    | false => .ok (.bl false) := by
  obtain ⟨ta, pa, sa⟩ := ha
  obtain ⟨tb, pb, sb⟩ := hb
  refine ⟨_, pw_and pa pb, fun H0 F0 σ H F env Q s h => ?_⟩
  simp only [R.bind_assoc] at h
  refine sa.go (P := fun k => ∀ F' H', Ext F H F' H' → Q k H') s (asB_weak h) fun d F1 H1 x1 r1 h1 => ?_
  cases d with
  | true =>
    simp only [if_true]
    simp only [R.bind_assoc, R.bind_ok] at h1
    refine sb H0 F0 σ H1 F1 env Q r1 ?_
    have h2 := asB_weak (g := fun k => (.ok k : R Bool)) (r := fb env) (P := fun k => ∀ F' H', Ext F H F' H' → Q k H') (E := GoX XE σ F1 H1) h1
    show wpR ((fb env).bind truthD) _ _
    cases e : (fb env).bind truthD with
    | ok k => rw [e] at h2; exact fun F' H' x => (show ∀ F' H', Ext F H F' H' → Q k H' from h2) F' H' (x1.trans x)
    | exc c fs => rw [e] at h2; exact h2
    | bad => rw [e] at h2; exact h2.elim
  | false =>
    simp only [Bool.false_eq_true, if_false]
    exact (show ∀ F' H', Ext F H F' H' → Q false H' from h1) F1 H1 x1
theorem dw_or {rest : List Expr} (ha : DT X T Γ XE a fa) (hb : DW X T Γ XE (.BoolOp .Or (b :: rest) pos) fb) : DW X T Γ XE (.BoolOp .Or (a :: b :: rest) pos) fun env => (fa env).bind fun x => x.asB.bind fun k => match k with
    | true => .ok (.bl true)
    | false => (fb env).bind fun y => y.asB.bind fun k => .ok (.bl k) := by
  obtain ⟨ta, pa, sa⟩ := ha
  obtain ⟨tb, pb, sb⟩ := hb
  refine ⟨_, pw_or pa pb, fun H0 F0 σ H F env Q s h => ?_⟩
  simp only [R.bind_assoc] at h
  refine sa.go (P := fun k => ∀ F' H', Ext F H F' H' → Q k H') s (asB_weak h) fun d F1 H1 x1 r1 h1 => ?_
  cases d with
  | false =>
    simp only [Bool.false_eq_true, if_false]
    simp only [R.bind_assoc, R.bind_ok] at h1
    refine sb H0 F0 σ H1 F1 env Q r1 ?_
    have h2 := asB_weak (g := fun k => (.ok k : R Bool)) (r := fb env) (P := fun k => ∀ F' H', Ext F H F' H' → Q k H') (E := GoX XE σ F1 H1) h1
    show wpR ((fb env).bind truthD) _ _
    cases e : (fb env).bind truthD with
    | ok k => rw [e] at h2; exact fun F' H' x => (show ∀ F' H', Ext F H F' H' → Q k H' from h2) F' H' (x1.trans x)
    | exc c fs => rw [e] at h2; exact h2
    | bad => rw [e] at h2; exact h2.elim
  | true =>
    simp only [if_true]
    exact (show ∀ F' H', Ext F H F' H' → Q true H' from h1) F1 H1 x1
theorem de_ife (hc : DT X T Γ XE c fc) (ha : DE X T Γ XE q a fa) (hb : DE X T Γ XE q b fb) : DE X T Γ XE q (.IfExp c a b pos) fun env => (fc env).bind fun x => (truthD x).bind fun k => match k with
    | true => fa env
    | false => fb env := by
  obtain ⟨tc, pc, sc⟩ := hc
  obtain ⟨ta, pa, sa⟩ := ha
  obtain ⟨tb, pb, sb⟩ := hb
  refine ⟨_, pe_ifExp pc pa pb, fun H0 F0 σ H F env Q s h => ?_⟩
  dsimp only at h
  rw [← R.bind_assoc] at h
  refine sc.go s h fun d F1 H1 x1 r1 h1 => ?_
  cases d with
  | true => exact sa H0 F0 σ H1 F1 env Q r1 (wpR_mono h1 (fun d hd => Go.back x1 hd) fun _ _ z => z)
  | false => exact sb H0 F0 σ H1 F1 env Q r1 (wpR_mono h1 (fun d hd => Go.back x1 hd) fun _ _ z => z)
/-- is None -/
theorem rep_non {T : Tab} {H : Hp} {F : Addr → Prop} {v : V} {d : D} (t : Top T H F v d) : decide (v = .non) = isNonD d := by
  cases d with
  | non => cases t.non; rfl
  | bl b => cases t.bl; rfl
  | int b => cases t.int; rfl
  | str b => cases t.str; rfl
  | lst ds => obtain ⟨_, _, rfl, _⟩ := t.lst; rfl
  | tup ds => obtain ⟨_, _, rfl, _⟩ := t.tup; rfl
  | scr ds => obtain ⟨_, rfl, _⟩ := t.scr; rfl
  | dK ds => obtain ⟨_, _, rfl, _⟩ := t.dK; rfl
  | dT ds =>
    rcases t with t | ⟨_, rfl, _⟩
    · cases t; rfl
    · rfl
  | obj c ds => obtain ⟨_, _, _, rfl, _⟩ := t.obj; rfl
  | fn f =>
    rcases t with t | ⟨_, rfl, _⟩
    · cases t; rfl
    · rfl
  | exv c fs =>
    rcases t with t | ⟨_, rfl, _⟩
    · cases t; rfl
    · rfl
  | xc c fs =>
    rcases t with t | ⟨_, rfl, t⟩
    · cases t
    · cases t
theorem de_isN {j : Nat} {pos' : Pos} (ha : DE X T Γ XE qa a fa) : DE X T Γ XE .fresh (.Compare a [.Is] [.Constant .none j pos'] pos) fun env => (fa env).bind fun x => .ok (.bl (isNonD x)) := by
  obtain ⟨ta, pa, sa⟩ := ha
  refine ⟨_, pe_cmp (pc_isN pa) rfl, fun H0 F0 σ H F env Q s h => ?_⟩
  refine sa.top s h fun d1 F1 H1 v1 x1 t1 r1 h1 => ?_
  rw [rep_non t1]
  exact Go.now (Go.back (d := .bl _) x1 h1) .bl
theorem de_notN {j : Nat} {pos' : Pos} (ha : DE X T Γ XE qa a fa) : DE X T Γ XE .fresh (.Compare a [.IsNot] [.Constant .none j pos'] pos) fun env => (fa env).bind fun x => .ok (.bl (!isNonD x)) := by
  obtain ⟨ta, pa, sa⟩ := ha
  refine ⟨_, pe_cmp (pc_notN pa) rfl, fun H0 F0 σ H F env Q s h => ?_⟩
  refine sa.top s h fun d1 F1 H1 v1 x1 t1 r1 h1 => ?_
  rw [rep_non t1]
  exact Go.now (Go.back (d := .bl _) x1 h1) .bl
theorem dt_isN {j : Nat} {pos' : Pos} (ha : DE X T Γ XE qa a fa) : DT X T Γ XE (.Compare a [.Is] [.Constant .none j pos'] pos) fun env => (fa env).bind fun x => .ok (.bl (isNonD x)) := by
  obtain ⟨ta, pa, sa⟩ := ha
  refine ⟨_, pt_cmp (pc_isN pa) rfl, fun H0 F0 σ H F env Q s h => ?_⟩
  simp only [R.bind_assoc, R.bind_ok] at h
  refine sa.top (P := fun k => ∀ F' H', Ext F H F' H' → Q k H') s h fun d1 F1 H1 v1 x1 t1 r1 h1 => ?_
  refine ⟨_, rfl, ?_⟩
  rw [rep_non t1]
  exact (show ∀ F' H', Ext F H F' H' → Q _ H' from h1) F1 H1 x1
theorem dt_notN {j : Nat} {pos' : Pos} (ha : DE X T Γ XE qa a fa) : DT X T Γ XE (.Compare a [.IsNot] [.Constant .none j pos'] pos) fun env => (fa env).bind fun x => .ok (.bl (!isNonD x)) := by
  obtain ⟨ta, pa, sa⟩ := ha
  refine ⟨_, pt_cmp (pc_notN pa) rfl, fun H0 F0 σ H F env Q s h => ?_⟩
  simp only [R.bind_assoc, R.bind_ok] at h
  refine sa.top (P := fun k => ∀ F' H', Ext F H F' H' → Q k H') s h fun d1 F1 H1 v1 x1 t1 r1 h1 => ?_
  refine ⟨_, rfl, ?_⟩
  rw [rep_non t1]
  exact (show ∀ F' H', Ext F H F' H' → Q _ H' from h1) F1 H1 x1

/-- a fresh value may be frozen -/
theorem de_clean (h : DE X T Γ XE .fresh a fa) : DE X T Γ XE .clean a fa := by
  obtain ⟨t, p, s⟩ := h
  refine ⟨t, p, fun H0 F0 σ H F env Q r h => s H0 F0 σ H F env Q r (wpR_mono h (fun d hd F' H' v x rv => ?_) fun _ _ z => z)⟩
  obtain ⟨F2, x2, _, rp⟩ := rv.rep x (by decide)
  exact hd F2 H' v x2 rp
theorem de_dirty (h : DE X T Γ XE q a fa) : DE X T Γ XE .dirty a fa := by
  obtain ⟨t, p, s⟩ := h
  exact ⟨t, p, fun H0 F0 σ H F env Q r h => s H0 F0 σ H F env Q r (wpR_mono h (fun d hd F' H' v x rv => hd F' H' v x rv.top) fun _ _ z => z)⟩
/-- a or b, values -/
theorem de_orv (hK : X.K = T.K) (ha : DE X T Γ XE q a fa) (hb : DE X T Γ XE q (.BoolOp .Or [b] pos) fb) : DE X T Γ XE q (.BoolOp .Or [a, b] pos) fun env => (fa env).bind fun x => (truthD x).bind fun k => match k with
    | true => .ok x
    | false => fb env := by
  obtain ⟨ta, pa, sa⟩ := ha
  obtain ⟨tb, pb, sb⟩ := hb
  refine ⟨_, pe_orT pa pb, fun H0 F0 σ H F env Q s h => ?_⟩
  refine sa H0 F0 σ H F env _ s (wpR_mono (wpR_bind h) (fun d hd F1 H1 v x1 rv => ?_) fun _ _ z => z)
  cases e : truthD d with
  | exc c fs => exact absurd e (truthD_nx _ _ _)
  | bad => rw [e] at hd; exact hd.elim
  | ok k =>
    rw [e, R.bind_ok] at hd
    refine ⟨k, by rw [hK]; exact truV_ok rv.top e, ?_⟩
    cases k with
    | true =>
      simp only [if_true]
      exact (show Go T q F H Q d from hd) F1 H1 v x1 rv
    | false =>
      simp only [Bool.false_eq_true, if_false]
      exact sb H0 F0 σ H1 F1 env Q (s.ext' x1) (wpR_mono hd (fun d hd => Go.back x1 hd) fun c fs z F' H' x => z F' H' (x1.trans x))
theorem dw_orv (ha : DT X T Γ XE a fa) (hb : DW X T Γ XE (.BoolOp .Or [b] pos) fb) : DW X T Γ XE (.BoolOp .Or [a, b] pos) fun env => (fa env).bind fun x => (truthD x).bind fun k => match k with
    | true => .ok x
    | false => fb env := by
  obtain ⟨ta, pa, sa⟩ := ha
  obtain ⟨tb, pb, sb⟩ := hb
  refine ⟨_, pw_or pa pb, fun H0 F0 σ H F env Q s h => ?_⟩
  have e : (((fa env).bind fun x => (truthD x).bind fun k => match k with
    | true => .ok x
    | false => fb env).bind truthD) = (((fa env).bind truthD).bind fun k => match k with
    | true => (.ok true : R Bool)
    | false => (fb env).bind truthD) := by
    cases fa env with
    | bad => rfl
    | exc c fs => rfl
    | ok d =>
      rw [R.bind_ok, R.bind_ok]
      cases ht : truthD d with
      | bad => rfl
      | exc c fs => rfl
      | ok k =>
        rw [R.bind_ok, R.bind_ok]
        cases k with
        | true => exact ht
        | false => rfl
  dsimp only at h
  rw [e] at h
  refine sa.go (P := fun k => ∀ F' H', Ext F H F' H' → Q k H') s h fun d F1 H1 x1 r1 h1 => ?_
  cases d with
  | false =>
    simp only [Bool.false_eq_true, if_false]
    refine sb H0 F0 σ H1 F1 env Q r1 ?_
    exact wpR_mono h1 (fun k hk F' H' x => hk F' H' (x1.trans x)) fun _ _ z => z
  | true =>
    simp only [if_true]
    exact (show ∀ F' H', Ext F H F' H' → Q true H' from h1) F1 H1 x1
/-- a < b < c -/
theorem de_chain {op op' : CmpOp} {g g' : D → D → R Bool} (ho : CmpOk X T op g) (ho' : CmpOk X T op' g') (ha : DE X T Γ XE qa a fa) (hb : DE X T Γ XE qb b fb) (hc : DE X T Γ XE qc c fc) (hm : ∀ {ta tb tc r r'}, OpR X (compareOp op) r → OpR X (compareOp op') r' → PE X a ta → PE X b tb → PE X c tc → PE X (.Compare a [op, op'] [b, c] pos) (tChain r r' ta tb tc)) :
    DE X T Γ XE .fresh (.Compare a [op, op'] [b, c] pos) (fun env => (fa env).bind fun x => (fb env).bind fun y => (g x y).bind fun k => match k with
      | true => (fc env).bind fun z => (g' y z).bind fun k => .ok (.bl k)
      | false => .ok (.bl false)) := by
  obtain ⟨r, hr, hx, hg⟩ := ho
  obtain ⟨r', hr', hx', hg'⟩ := ho'
  obtain ⟨ta, pa, sa⟩ := ha
  obtain ⟨tb, pb, sb⟩ := hb
  obtain ⟨tc, pc, sc⟩ := hc
  refine ⟨_, hm hr hr' pa pb pc, fun H0 F0 σ H F env Q s h => ?_⟩
  refine sa.top s h fun d1 F1 H1 v1 x1 t1 r1 h1 => ?_
  refine sb.top r1 h1 fun d2 F2 H2 v2 x2 t2 r2 h2 => ?_
  cases e : g d1 d2 with
  | exc c fs => exact absurd e (hx _ _ _ _)
  | bad => rw [e] at h2; exact h2.elim
  | ok k =>
    rw [e] at h2
    refine hg H2 F2 v1 v2 d1 d2 k _ (t1.ext x2) t2 e ⟨k, rfl, ?_⟩
    cases k with
    | false =>
      simp only [Bool.false_eq_true, if_false]
      exact Go.now (Go.back (d := .bl false) (x1.trans x2) h2) .bl
    | true =>
      simp only [if_true]
      refine sc.top r2 h2 fun d3 F3 H3 v3 x3 t3 r3 h3 => ?_
      cases e' : g' d2 d3 with
      | exc c fs => exact absurd e' (hx' _ _ _ _)
      | bad => rw [e'] at h3; exact h3.elim
      | ok k' =>
        rw [e'] at h3
        exact hg' H3 F3 v2 v3 d2 d3 k' Q (t2.ext x3) t3 e' (Go.now (Go.back (d := .bl k') ((x1.trans x2).trans x3) h3) .bl)
theorem dt_chain {op op' : CmpOp} {g g' : D → D → R Bool} (ho : CmpOk X T op g) (ho' : CmpOk X T op' g') (ha : DE X T Γ XE qa a fa) (hb : DE X T Γ XE qb b fb) (hc : DE X T Γ XE qc c fc) (hm : ∀ {ta tb tc r r'}, OpR X (compareOp op) r → OpR X (compareOp op') r' → PE X a ta → PE X b tb → PE X c tc → PT X (.Compare a [op, op'] [b, c] pos) (tTest (tChain r r' ta tb tc))) :
    DT X T Γ XE (.Compare a [op, op'] [b, c] pos) (fun env => (fa env).bind fun x => (fb env).bind fun y => (g x y).bind fun k => match k with
      | true => (fc env).bind fun z => (g' y z).bind fun k => .ok (.bl k)
      | false => .ok (.bl false)) := by
  obtain ⟨r, hr, hx, hg⟩ := ho
  obtain ⟨r', hr', hx', hg'⟩ := ho'
  obtain ⟨ta, pa, sa⟩ := ha
  obtain ⟨tb, pb, sb⟩ := hb
  obtain ⟨tc, pc, sc⟩ := hc
  refine ⟨_, hm hr hr' pa pb pc, fun H0 F0 σ H F env Q s h => ?_⟩
  simp only [R.bind_assoc] at h
  refine sa.top (P := fun k => ∀ F' H', Ext F H F' H' → Q k H') s h fun d1 F1 H1 v1 x1 t1 r1 h1 => ?_
  refine sb.top r1 h1 fun d2 F2 H2 v2 x2 t2 r2 h2 => ?_
  cases e : g d1 d2 with
  | exc c fs => exact absurd e (hx _ _ _ _)
  | bad => rw [e] at h2; exact h2.elim
  | ok k =>
    rw [e] at h2
    refine hg H2 F2 v1 v2 d1 d2 k _ (t1.ext x2) t2 e ⟨k, rfl, ?_⟩
    cases k with
    | false =>
      simp only [Bool.false_eq_true, if_false]
      exact ⟨false, rfl, (show ∀ F' H', Ext F H F' H' → Q false H' from h2) F2 H2 (x1.trans x2)⟩
    | true =>
      simp only [if_true]
      simp only [R.bind_assoc, R.bind_ok] at h2
      refine sc.top (P := fun k => ∀ F' H', Ext F H F' H' → Q k H') r2 h2 fun d3 F3 H3 v3 x3 t3 r3 h3 => ?_
      cases e' : g' d2 d3 with
      | exc c fs => exact absurd e' (hx' _ _ _ _)
      | bad => rw [e'] at h3; exact h3.elim
      | ok k' =>
        rw [e'] at h3
        exact hg' H3 F3 v2 v3 d2 d3 k' _ (t2.ext x3) t3 e' ⟨k', rfl, (show ∀ F' H', Ext F H F' H' → Q k' H' from h3) F3 H3 ((x1.trans x2).trans x3)⟩
end
end Ev

set_option maxHeartbeats 2000000
namespace Ev
open PySem PySem.Spec PyProof.Rows L2
variable [Tbs]
theorem ofO_nx {α : Type} (o : Option α) : ∀ c fs, ofO o ≠ .exc c fs := by
  intro c fs; cases o <;> (intro z; cases z)
section
variable {X : Cx} {T : Tab} {Γ : List Mo} {XE : XT} {q q' qa qb qc : Qu} {a b c : Expr} {fa fb fc : Ev → R D} {pos : Pos}
/-! ### subscripts -/
def rIxDK : R2 := fun x y H Q => ∃ d v, x = .ref d ∧ DGet H d y (some v) ∧ Q v H
theorem ix_dict (hu : X.A.units + 1 < cLine) : IxR X rIxDK := by
  intro value slice pins s σ H x y v u Q I rx ry h hs
  obtain ⟨d, z, rfl, g, q⟩ := h
  obtain rfl : v = Value.ref d := rx
  exact tail_any (dict_typeIs I g) PySem.F.slot_dict_getitem.lookup (d_getItem hu I g ry fun w' s3 I3 rw' => ⟨z, H, I3, rw', q⟩) hs
theorem Reps.atI {H : Hp} {F : Addr → Prop} {vs : List V} {ds : List D} {i : Int} {d : D} (h : Reps T H F vs ds) (e : L2.atI ds i = some d) : ∃ v, L2.atI vs i = some v ∧ Rep T H F v d := by
  unfold L2.atI at e ⊢
  rw [h.length]
  cases e' : ixN ds.length i with
  | none => rw [e'] at e; cases e
  | some j => rw [e'] at e; exact h.get e
theorem atI_map {α β : Type} (f : α → β) (xs : List α) (i : Int) : L2.atI (xs.map f) i = (L2.atI xs i).map f := by
  unfold L2.atI
  rw [List.length_map]
  cases ixN xs.length i with
  | none => rfl
  | some j => exact List.getElem?_map ..
theorem subD_ok {H : Hp} {F : Addr → Prop} {v1 v2 : V} {d1 d2 d : D} {Q : VK} (t1 : Top T H F v1 d1) (t2 : Top T H F v2 d2) (e : subD d1 d2 = .ok d) (h : ∀ v, Rep T H F v d → Q v H) : rIx T.K v1 v2 H Q ∨ rIxDK v1 v2 H Q := by
  unfold subD at e
  split at e
  · right
    obtain ⟨a, vs, rfl, h1, h2⟩ := t1.dK
    cases t2.int
    cases e' : getK (κ := Key) _ _ with
    | none => rw [e'] at e; cases e
    | some x =>
      rw [e'] at e; injection e with e; subst e
      obtain ⟨v, hv, hr⟩ := h2.find e'
      exact ⟨a, v, rfl, by rw [← hv]; exact .k (k := Sum.inl _) h1, h v hr⟩
  · right
    obtain ⟨a, vs, rfl, h1, h2⟩ := t1.dK
    cases t2.str
    cases e' : getK (κ := Key) _ _ with
    | none => rw [e'] at e; cases e
    | some x =>
      rw [e'] at e; injection e with e; subst e
      obtain ⟨v, hv, hr⟩ := h2.find e'
      exact ⟨a, v, rfl, by rw [← hv]; exact .k (k := Sum.inr _) h1, h v hr⟩
  · left; left
    obtain ⟨a, vs, rfl, h1, h2⟩ := t1.lst
    cases t2.int
    cases e' : L2.atI _ _ with
    | none => rw [e'] at e; cases e
    | some x =>
      rw [e'] at e; injection e with e; subst e
      obtain ⟨v, hv, hr⟩ := h2.atI e'
      exact ⟨a, vs, _, v, rfl, rfl, SqL.of h1, hv, h v hr⟩
  · left; right; left
    obtain ⟨a, vs, rfl, _, h1, h2⟩ := t1.tup
    cases t2.int
    cases e' : L2.atI _ _ with
    | none => rw [e'] at e; cases e
    | some x =>
      rw [e'] at e; injection e with e; subst e
      obtain ⟨v, hv, hr⟩ := h2.atI e'
      exact ⟨a, vs, _, v, rfl, rfl, SqT.of h1, hv, h v hr⟩
  · left; left
    obtain ⟨a, rfl, h1⟩ := t1.scr
    cases t2.int
    cases e' : L2.atI _ _ with
    | none => rw [e'] at e; cases e
    | some x =>
      rw [e'] at e; injection e with e; subst e
      exact ⟨a, _, _, V.int x, rfl, rfl, h1, by rw [atI_map, e']; rfl, h _ (.int x)⟩
  · left; right; right
    cases t1.str
    cases t2.int
    split at e
    · rename_i hl
      cases e' : L2.atI _ _ with
      | none => rw [e'] at e; cases e
      | some x =>
        rw [e'] at e; injection e with e; subst e
        exact ⟨_, _, x, rfl, rfl, by rw [sizeLine_eq]; exact hl, e', h _ (.str _)⟩
    · cases e
  · cases e
theorem subD_nx (d1 d2 : D) : ∀ c fs, subD d1 d2 ≠ .exc c fs := by
  intro c fs; unfold subD; split <;> first | exact ofO_nx _ _ _ | (split <;> first | exact ofO_nx _ _ _ | (intro z; cases z)) | (intro z; cases z)
theorem de_sub (hK : X.K = T.K) (hu : X.A.units + 65 < cLine) (ha : DE X T Γ XE qa a fa) (hb : DE X T Γ XE qb b fb) (hs : PlainIx b) : DE X T Γ XE .clean (.Subscript a b pos) fun env => (fa env).bind fun x => (fb env).bind fun y => subD x y := by
  obtain ⟨ta, pa, sa⟩ := ha
  obtain ⟨tb, pb, sb⟩ := hb
  refine ⟨_, pe_ix (ix_seq.or (ix_dict (by omega))) pa pb hs, fun H0 F0 σ H F env Q s h => ?_⟩
  refine sa.top s h fun d1 F1 H1 v1 x1 t1 r1 h1 => ?_
  refine sb.top r1 h1 fun d2 F2 H2 v2 x2 t2 r2 h2 => ?_
  cases e : subD d1 d2 with
  | ok d =>
    rw [e] at h2
    rw [hK]
    exact subD_ok (t1.ext x2) t2 e fun v hr => Go.now (q := .clean) (Go.back (d := d) (x1.trans x2) h2) hr
  | exc c fs => exact absurd e (subD_nx _ _ _ _)
  | bad => rw [e] at h2; exact h2.elim
theorem Inns.atI {H0 H : Hp} {F : Addr → Prop} {vs : List V} {ds : List D} {i : Int} {d : D} (h : Inns T H0 F H vs ds) (e : L2.atI ds i = some d) : ∃ b, L2.atI vs i = some (.ref b) ∧ At T H F b d := by
  unfold L2.atI at e ⊢
  rw [h.length]
  cases e' : ixN ds.length i with
  | none => rw [e'] at e; cases e
  | some j =>
    rw [e'] at e
    obtain ⟨b, hb, _, _, hat⟩ := h.get e
    exact ⟨b, hb, hat⟩
/-- an element of a list of own cells, to be read -/
theorem de_subL {i : Nat} {x : Str} {p : Pos} (hK : X.K = T.K) (hu : X.A.units + 65 < cLine) (hm : Γ[i]? = some .lol) (hN : X.N[i]? = some x) (hv : Vis X.env.scope x) (hd : (x == ("__debug__" : Str)) = false) (hcd : (x == ("__classdict__" : Str)) = false) (hb : DE X T Γ XE qb b fb) (hs : PlainIx b) :
    DE X T Γ XE .dirty (.Subscript (.Name x p) b pos) fun env => (getV env i).bind fun x => (fb env).bind fun y => subD x y := by
  obtain ⟨tb, pb, sb⟩ := hb
  refine ⟨_, pe_ix (ix_seq.or (ix_dict (by omega))) (pe_var hN hv hd hcd) pb hs, fun H0 F0 σ H F env Q s h => ?_⟩
  unfold getV at h
  dsimp only at h
  split at h
  · rename_i d1 e1
    rw [R.bind_ok] at h
    obtain ⟨v1, hv1, ok⟩ := s.slot i d1 e1
    rw [List.getD_eq_getElem?_getD, hm] at ok
    obtain ⟨a, vs, ds, rfl, rfl, h0, hf, ha, hn, hi⟩ := ok
    refine ⟨.ref a, hv1, ?_⟩
    refine sb.top s h fun d2 F2 H2 v2 x2 t2 r2 h2 => ?_
    obtain ⟨w, hw, ok⟩ := r2.slot i _ e1
    rw [hv1] at hw; cases hw
    rw [List.getD_eq_getElem?_getD, hm] at ok
    obtain ⟨a', vs', ds', ea, ed, _, _, ha2, _, hi2⟩ := ok
    cases ea; cases ed
    cases e : subD (.lst ds) d2 with
    | ok d =>
      rw [e] at h2
      rw [hK]
      left; left
      cases d2 with
      | int j =>
        cases t2.int
        have e : ofO (L2.atI ds j) = .ok d := e
        cases e' : L2.atI ds j with
        | none => rw [e'] at e; cases e
        | some x =>
          rw [e'] at e; injection e with e; subst e
          obtain ⟨b, hb, hat⟩ := hi2.atI e'
          exact ⟨_, vs', _, _, rfl, rfl, SqL.of ha2, hb, (show ∀ F' H' v, Ext F H F' H' → ResOk T .dirty H F' H' v x → Q v H' from h2) F2 H2 _ x2 (.inr ⟨b, rfl, hat⟩)⟩
      | _ => cases e
    | exc c fs => exact absurd e (subD_nx _ _ _ _)
    | bad => rw [e] at h2; exact h2.elim
  · exact h.elim
/-! ### slices -/
def DO (X : Cx) (T : Tab) (Γ : List Mo) (XE : XT) (o : Option Expr) (f : Ev → R (Option Int)) : Prop := ∃ t, PO X o t ∧
  ∀ (H0 : Hp) (F0 : Addr → Prop) (σ : St) (H : Hp) (F : Addr → Prop) (env : Ev) (Q : Option Int → Hp → Prop), SR T Γ H0 F0 F H env σ →
    wpR (f env) (fun k => ∀ F' H', Ext F H F' H' → Q k H') (fun c fs => ∀ F' H', Ext F H F' H' → XE c fs σ F' H') → t σ H Q
theorem do_none : DO X T Γ XE none fun _ => .ok none := ⟨_, po_none, fun _ _ _ H F _ _ _ h => h F H (Ext.refl _ _)⟩
theorem do_some (ha : DE X T Γ XE qa a fa) : DO X T Γ XE (some a) fun env => (fa env).bind fun x => x.asI.bind fun i => .ok (some i) := by
  obtain ⟨ta, pa, sa⟩ := ha
  refine ⟨_, po_some pa, fun H0 F0 σ H F env Q s h => ?_⟩
  refine sa.top (P := fun k => ∀ F' H', Ext F H F' H' → Q k H') s h fun d1 F1 H1 v1 x1 t1 r1 h1 => ?_
  cases d1 with
  | int i => cases t1.int; exact ⟨i, rfl, (show ∀ F' H', Ext F H F' H' → Q (some i) H' from h1) F1 H1 x1⟩
  | _ => exact h1.elim
theorem Reps.cut {H : Hp} {F : Addr → Prop} {vs : List V} {ds : List D} {lo hi : Option Int} (h : Reps T H F vs ds) : Reps T H F (cutV vs lo hi) (cutD ds lo hi) := by
  unfold cutV cutD
  rw [h.length]
  exact (h.drop _).take _
theorem cutV_ints (ns : List Int) (lo hi : Option Int) : cutV (ns.map V.int) lo hi = (cutD ns lo hi).map V.int := by
  unfold cutV cutD
  rw [List.length_map, List.map_take, List.map_drop]
theorem de_slice {lo hi : Option Expr} {fl fh : Ev → R (Option Int)} {p2 : Pos} (hK : X.K = T.K) (ha : DE X T Γ XE qa a fa) (hl : DO X T Γ XE lo fl) (hh : DO X T Γ XE hi fh) :
    DE X T Γ XE .fresh (.Subscript a (.Slice lo hi none p2) pos) fun env => (fa env).bind fun x => (fl env).bind fun l => (fh env).bind fun h => sliceD l h x := by
  obtain ⟨ta, pa, sa⟩ := ha
  obtain ⟨tl, pl, sl⟩ := hl
  obtain ⟨th, ph, sh⟩ := hh
  refine ⟨_, pe_slice (sl_list.or sl_str) pa pl ph, fun H0 F0 σ H F env Q s h => ?_⟩
  refine sa.top s h fun d1 F1 H1 v1 x1 t1 r1 h1 => ?_
  refine sl H0 F0 σ H1 F1 env _ r1 (wpR_mono (wpR_bind h1) (fun l hl F2 H2 x2 => ?_) fun _ _ z => z)
  refine sh H0 F0 σ H2 F2 env _ (r1.ext' x2) (wpR_mono (wpR_bind hl) (fun u hu F3 H3 x3 => ?_) fun _ _ z F' H' x => z F' H' (x2.trans x))
  have t3 := (t1.ext x2).ext x3
  have xx := (x1.trans x2).trans x3
  have dm := ((r1.ext' x2).ext' x3).dom
  unfold sliceD at hu
  split at hu
  · obtain ⟨a, vs, rfl, e1, e2⟩ := t3.lst
    refine .inl ⟨a, vs, rfl, SqL.of e1, fun p hp => ?_⟩
    exact hu F3 _ _ (xx.trans (Ext.laid hp)) (ResOk.back xx (.newL dm hp e2.cut))
  · obtain ⟨a, rfl, e1⟩ := t3.scr
    refine .inl ⟨a, _, rfl, by rw [hK]; exact e1, fun p hp => ?_⟩
    rw [cutV_ints]
    exact hu F3 _ _ (xx.trans (Ext.laid hp)) (ResOk.back xx (.newL dm hp Reps.ints))
  · split at hu
    · rename_i hz
      cases t3.str
      exact .inr ⟨_, rfl, by rw [sizeLine_eq]; exact hz, hu F3 _ _ xx .str⟩
    · exact hu.elim
  · exact hu.elim
theorem de_rev {k : Nat} {p1 p2 p3 : Pos} (hK : X.K = T.K) (ha : DE X T Γ XE qa a fa) : DE X T Γ XE .fresh (.Subscript a (.Slice none none (some (.UnaryOp .USub (.Constant (.int 1) k p1) p2)) p3) pos) fun env => (fa env).bind fun x => revD x := by
  obtain ⟨ta, pa, sa⟩ := ha
  refine ⟨_, pe_revL pa, fun H0 F0 σ H F env Q s h => ?_⟩
  refine sa.top s h fun d1 F1 H1 v1 x1 t1 r1 h1 => ?_
  unfold revD at h1
  split at h1
  · obtain ⟨a, vs, rfl, e1, e2⟩ := t1.lst
    refine ⟨a, vs, rfl, SqL.of e1, fun p hp => ?_⟩
    exact h1 F1 _ _ (x1.trans (Ext.laid hp)) (ResOk.back x1 (.newL r1.dom hp e2.reverse))
  · obtain ⟨a, rfl, e1⟩ := t1.scr
    refine ⟨a, _, rfl, by rw [hK]; exact e1, fun p hp => ?_⟩
    rw [← List.map_reverse]
    exact h1 F1 _ _ (x1.trans (Ext.laid hp)) (ResOk.back x1 (.newL r1.dom hp Reps.ints))
  · exact h1.elim
/-! ### xs[lo::st] -/
theorem pick_vals : ∀ (js : List Nat) {xs : List V} {us : List Value}, Vals xs us → Vals (js.filterMap (xs[·]?)) (js.filterMap (us[·]?))
  | [], _, _, _ => .nil
  | j :: js, xs, us, r => by
    have ih := pick_vals js r
    rw [List.filterMap_cons, List.filterMap_cons]
    cases e : xs[j]? with
    | none => rw [r.none_of e]; exact ih
    | some x =>
      obtain ⟨u, h1, h2⟩ := r.get e
      rw [h1]
      exact .cons h2 ih
theorem Reps.pick {H : Hp} {F : Addr → Prop} {vs : List V} {ds : List D} (h : Reps T H F vs ds) : ∀ js : List Nat, Reps T H F (js.filterMap (vs[·]?)) (js.filterMap (ds[·]?))
  | [] => .nil
  | j :: js => by
    have ih := Reps.pick h js
    rw [List.filterMap_cons, List.filterMap_cons]
    cases e : ds[j]? with
    | none =>
      have : vs[j]? = none := List.getElem?_eq_none (by rw [h.length]; exact List.getElem?_eq_none_iff.mp e)
      rw [this]
      exact ih
    | some x =>
      obtain ⟨y, h1, h2⟩ := h.get e
      rw [h1]
      exact .cons h2 ih
def tStp (K : PySem.W.Frag) (te : TE) (tl ts : TO) : TE := fun σ H Q => te σ H fun x H1 => tl σ H1 fun l H2 => ts σ H2 fun o H3 => ∃ a xs i, x = .ref a ∧ SqL K H3 a xs ∧ o = some i ∧ 0 < i ∧ ∀ p, H3 p = none → Q (.ref p) (upd H3 p (.lst (pickL xs l i)))
theorem pick_arr (its : List Value) (lo : Option Int) (i : Int) : slicePick its.toArray lo none (some i) = (pickL its lo i).toArray := by
  unfold slicePick pickL pickN
  rw [List.size_toArray]
  refine congrArg List.toArray (congrArg (fun f => List.filterMap f _) (funext fun j => ?_))
  exact List.getElem?_toArray
theorem pick_len {α : Type} (xs : List α) (lo : Option Int) (i : Int) : (pickL xs lo i).length ≤ (pickN xs.length lo i).length := List.length_filterMap_le _ _
theorem pe_stp {e : Expr} {te : TE} {lo : Option Expr} {st : Expr} {tl ts : TO} {p2 pos : Pos} (he : PE X e te) (hl : PO X lo tl) (hs : PO X (some st) ts) : PE X (.Subscript e (.Slice lo none (some st) p2) pos) (tStp X.K te tl ts) := by
  refine ⟨fun pins s σ H Q I h => ?_⟩
  refine Subscript_ (thn (he.run pins s σ H _ I h) fun v s1 ⟨x, H1, I1, r1, q1⟩ => ?_)
  refine wpAny_Slice (thn (hl.run pins s1 σ H1 _ I1 q1) fun vl s2 ⟨l, H2, I2, pl, q2⟩ => ?_)
  refine thn (po_none.run pins s2 σ H2 (fun o H3 => o = none ∧ H3 = H2) I2 ⟨rfl, rfl⟩) fun vu s3 ⟨u, H3, I3, pu, eu, e3⟩ => ?_
  subst eu e3
  refine thn (hs.run pins s3 σ H3 _ I3 q2) fun vs s4 ⟨o, H4, I4, ps, q4⟩ => ?_
  obtain ⟨a, xs, i, ex, hx, eo, hi, q⟩ := q4
  subst ex
  subst eo
  cases r1
  have I5 : Inv X pins σ H4 { s4 with heap := s4.heap.push { cls := .type "slice", data := .fields #[vl, vu, vs] } } := I4.kept (t' := s4.toks) fun b ob q => Heap.get?_push_of_some _ q
  obtain ⟨its, r, ht, hz⟩ := I5.list hx
  have hlen := r.length
  show wpAny (model X.prog X.w) X.A (subscriptTail e (.Slice lo none (some st) p2) (.ref a) (.ref s4.heap.objs.size)) (EP X pins σ Q) X.xe { s4 with heap := s4.heap.push { cls := .type "slice", data := .fields #[vl, vu, vs] } }
  refine tail_any (ops := [.ref a, .ref s4.heap.objs.size]) ht.isList.typeIs (PySem.slot_list_getitem.lookup) ?_ (by with_unfolding_all rfl)
  refine wpAny_getItem_list_slice ht.isList (Heap.IsSliceOf.new _ vl vu vs) pl pu ps (by intro z; injection z with z; omega) ?_ (by rw [List.size_toArray]; omega)
  have hle := slicePick_size_le its.toArray l none (some i)
  rw [pick_arr] at hle ⊢
  rw [List.size_toArray, List.size_toArray] at hle
  have pv : Vals (pickL xs l i) (pickL its l i) := by
    unfold pickL
    rw [hlen]
    exact pick_vals _ r
  refine ⟨.ref _, _, I5.laid (t' := s4.toks) (o := .lst (pickL xs l i)) (fun b ob q => Heap.get?_push_of_some _ q) (Nat.le_refl _) ?_, rfl, q _ (I5.hok.fresh (Nat.le_refl _))⟩
  exact ⟨by rw [pv.length]; omega, _, 0, pv, Heap.get?_push_size _ rfl⟩
theorem de_stp {lo : Option Expr} {st : Expr} {fl fs : Ev → R (Option Int)} {p2 : Pos} (hK : X.K = T.K) (ha : DE X T Γ XE qa a fa) (hl : DO X T Γ XE lo fl) (hs : DO X T Γ XE (some st) fs) :
    DE X T Γ XE .fresh (.Subscript a (.Slice lo none (some st) p2) pos) fun env => (fa env).bind fun x => (fl env).bind fun l => (fs env).bind fun i => stepD l i x := by
  obtain ⟨ta, pa, sa⟩ := ha
  obtain ⟨tl, pl, sl⟩ := hl
  obtain ⟨ts, ps, ss⟩ := hs
  refine ⟨_, pe_stp pa pl ps, fun H0 F0 σ H F env Q s h => ?_⟩
  refine sa.top s h fun d1 F1 H1 v1 x1 t1 r1 h1 => ?_
  refine sl H0 F0 σ H1 F1 env _ r1 (wpR_mono (wpR_bind h1) (fun l hl F2 H2 x2 => ?_) fun _ _ z => z)
  refine ss H0 F0 σ H2 F2 env _ (r1.ext' x2) (wpR_mono (wpR_bind hl) (fun u hu F3 H3 x3 => ?_) fun _ _ z F' H' x => z F' H' (x2.trans x))
  have t3 := (t1.ext x2).ext x3
  have xx := (x1.trans x2).trans x3
  have dm := ((r1.ext' x2).ext' x3).dom
  unfold stepD at hu
  split at hu
  · split at hu
    · rename_i hi
      obtain ⟨a, vs, rfl, e1, e2⟩ := t3.lst
      refine ⟨a, vs, _, rfl, SqL.of e1, rfl, hi, fun p hp => ?_⟩
      refine hu F3 _ _ (xx.trans (Ext.laid hp)) (ResOk.back xx (.newL dm hp ?_))
      unfold pickL
      rw [e2.length]
      exact e2.pick _
    · exact hu.elim
  · exact hu.elim
/-! ### displays, arguments -/
variable {es : List Expr} {fs : Ev → R (List D)}
def plainArg : Expr → Bool
  | .Starred _ _ => false
  | _ => true
theorem starEach_cons {e : Expr} {es : List Expr} {env : Env} (h : plainArg e = true) : starEach (e :: es) env = (false, eval e env) :: starEach es env := by
  cases e <;> first | rfl | cases h
theorem dc_nil : DC X T Γ XE [] fun _ => .ok [] := ⟨_, pa_nil, fun _ _ _ H F _ _ _ h => h F H [] (Ext.refl _ _) .nil⟩
theorem dc_cons (hp : plainArg a = true) (hq : qa ≠ .dirty) (ha : DE X T Γ XE qa a fa) (hs : DC X T Γ XE es fs) : DC X T Γ XE (a :: es) fun env => (fa env).bind fun x => (fs env).bind fun r => .ok (x :: r) := by
  obtain ⟨ta, pa, sa⟩ := ha
  obtain ⟨ts, ps, ss⟩ := hs
  refine ⟨_, pa_cons pa ps (starEach_cons hp), fun H0 F0 σ H F env Q s h => ?_⟩
  refine sa.rep (P := fun ds => ∀ F' H' vs, Ext F H F' H' → Reps T H' F' vs ds → Q vs H') hq s h fun d1 F1 H1 v1 x1 t1 r1 h1 => ?_
  refine ss H0 F0 σ H1 F1 env _ r1 (wpR_mono (wpR_bind h1) (fun ds hd F2 H2 vs x2 r2 => ?_) fun _ _ z => z)
  exact (show ∀ F' H' vs, Ext F H F' H' → Reps T H' F' vs (d1 :: ds) → Q vs H' from hd) F2 H2 _ (x1.trans x2) (.cons (t1.ext x2) r2)
theorem da_nil : DA X T Γ XE [] fun _ => .ok [] := ⟨_, pa_nil, fun _ _ _ H F _ _ _ h => h F H [] (Ext.refl _ _) .nil⟩
theorem da_cons (hp : plainArg a = true) (ha : DE X T Γ XE qa a fa) (hs : DA X T Γ XE es fs) : DA X T Γ XE (a :: es) fun env => (fa env).bind fun x => (fs env).bind fun r => .ok (x :: r) := by
  obtain ⟨ta, pa, sa⟩ := ha
  obtain ⟨ts, ps, ss⟩ := hs
  refine ⟨_, pa_cons pa ps (starEach_cons hp), fun H0 F0 σ H F env Q s h => ?_⟩
  refine sa.top (P := fun ds => ∀ F' H' vs, Ext F H F' H' → Tops T H' F' vs ds → Q vs H') s h fun d1 F1 H1 v1 x1 t1 r1 h1 => ?_
  refine ss H0 F0 σ H1 F1 env _ r1 (wpR_mono (wpR_bind h1) (fun ds hd F2 H2 vs x2 r2 => ?_) fun _ _ z => z)
  exact (show ∀ F' H' vs, Ext F H F' H' → Tops T H' F' vs (d1 :: ds) → Q vs H' from hd) F2 H2 _ (x1.trans x2) (.cons (t1.ext x2) r2)
theorem DC.da (h : DC X T Γ XE es fs) : DA X T Γ XE es fs := by
  obtain ⟨t, p, s⟩ := h
  exact ⟨t, p, fun H0 F0 σ H F env Q r h => s H0 F0 σ H F env Q r (wpR_mono h (fun ds hd F' H' vs x y => hd F' H' vs x y.tops) fun _ _ z => z)⟩
theorem de_lst (hs : DC X T Γ XE es fs) : DE X T Γ XE .fresh (.List es pos) fun env => (fs env).bind fun ds => if ds.length ≤ 16777216 then .ok (.lst ds) else .bad := by
  obtain ⟨ts, ps, ss⟩ := hs
  refine ⟨_, pe_lst ps, fun H0 F0 σ H F env Q s h => ?_⟩
  refine ss H0 F0 σ H F env _ s (wpR_mono (wpR_bind h) (fun ds hd F2 H2 vs x2 r2 => ?_) fun _ _ z => z)
  split at hd
  · rename_i hz
    refine ⟨by rw [sizeLine_eq, r2.length]; exact hz, fun p hp => ?_⟩
    exact hd F2 _ _ (x2.trans (Ext.laid hp)) (ResOk.back x2 (.newL (x2.dom s.dom) hp r2))
  · exact hd.elim
theorem de_tup {k : Nat} (hs : DC X T Γ XE es fs) : DE X T Γ XE .fresh (.Tuple es k pos) fun env => (fs env).bind fun ds => if ds.length ≤ 16777216 then .ok (.tup ds) else .bad := by
  obtain ⟨ts, ps, ss⟩ := hs
  refine ⟨_, pe_tup ps, fun H0 F0 σ H F env Q s h => ?_⟩
  refine ss H0 F0 σ H F env _ s (wpR_mono (wpR_bind h) (fun ds hd F2 H2 vs x2 r2 => ?_) fun _ _ z => z)
  split at hd
  · rename_i hz
    refine ⟨by rw [sizeLine_eq, r2.length]; exact hz, fun p hp => ?_⟩
    exact hd _ _ _ (x2.trans (Ext.laidF hp)) (ResOk.back x2 (.newT hp r2))
  · exact hd.elim
theorem de_dct0 : DE X T Γ XE .fresh (.Dict [] [] pos) fun _ => .ok (.dK []) :=
  ⟨_, pe_dnewK, fun _ _ _ H F _ Q s h p hp => h F _ _ (Ext.laid hp) (.newD s.dom hp .nil)⟩
/-! ### built-in functions -/
/-- a built-in's rule by values, and what it tells of trees -/
def CalOk (T : Tab) (q : Qu) (r : List V → Hp → VK → Prop) (g : List D → R D) : Prop := (∀ ds c fs, g ds ≠ .exc c fs) ∧
  ∀ (H : Hp) (F : Addr → Prop) (vs : List V) (ds : List D) (d : D) (Q : VK), Tops T H F vs ds → Dom F H → g ds = .ok d → Go T q F H Q d → r vs H Q
theorem de_callB {id : String} {x : Str} {p : Pos} {r : List V → Hp → VK → Prop} {g : List D → R D} (hc : CallR X (.builtin id) r) (ho : CalOk T q r g) (hg : Gl X x) (hm : X.mg x = none) (hv : bootBuiltins x = some (.builtin id)) (hn : x ≠ "__name__") (hdb : (x == ("__debug__" : Str)) = false)
    (hp : plainArg a = true) (hpl : (backTo pos (starEach es X.env)).any (·.1) = false) (ha : DA X T Γ XE (a :: es) fs) : DE X T Γ XE q (.Call (.Name x p) (a :: es) [] pos) fun env => (fs env).bind g := by
  obtain ⟨t, pt, s⟩ := ha
  refine ⟨_, pe_callB hc hg hm hv pt hn hdb (starEach_cons hp) hpl, fun H0 F0 σ H F env Q r h => ?_⟩
  refine s H0 F0 σ H F env _ r (wpR_mono (wpR_bind h) (fun ds hd F2 H2 vs x2 r2 => ?_) fun _ _ z => z)
  cases e : g ds with
  | ok d => rw [e] at hd; exact ho.2 H2 F2 vs ds d Q r2 (x2.dom r.dom) e (Go.back x2 hd)
  | exc c fs => exact absurd e (ho.1 _ _ _)
  | bad => rw [e] at hd; exact hd.elim
theorem de_callTy {id : String} {x : Str} {p : Pos} {r : List V → Hp → VK → Prop} {g : List D → R D} (hc : CallR X (.type id) r) (ho : CalOk T q r g) (hg : Gl X x) (hm : X.mg x = none) (hv : bootBuiltins x = some (.type id)) (hn : x ≠ "__name__") (hdb : (x == ("__debug__" : Str)) = false)
    (hp : plainArg a = true) (hpl : (backTo pos (starEach es X.env)).any (·.1) = false) (ha : DA X T Γ XE (a :: es) fs) : DE X T Γ XE q (.Call (.Name x p) (a :: es) [] pos) fun env => (fs env).bind g := by
  obtain ⟨t, pt, s⟩ := ha
  refine ⟨_, pe_callTy hc hg hm hv pt hn hdb (starEach_cons hp) hpl, fun H0 F0 σ H F env Q r h => ?_⟩
  refine s H0 F0 σ H F env _ r (wpR_mono (wpR_bind h) (fun ds hd F2 H2 vs x2 r2 => ?_) fun _ _ z => z)
  cases e : g ds with
  | ok d => rw [e] at hd; exact ho.2 H2 F2 vs ds d Q r2 (x2.dom r.dom) e (Go.back x2 hd)
  | exc c fs => exact absurd e (ho.1 _ _ _)
  | bad => rw [e] at hd; exact hd.elim
theorem Tops.one {H : Hp} {F : Addr → Prop} {vs : List V} {d : D} (h : Tops T H F vs [d]) : ∃ v, vs = [v] ∧ Top T H F v d := by
  cases h with
  | cons h t => cases t; exact ⟨_, rfl, h⟩
theorem Tops.two {H : Hp} {F : Addr → Prop} {vs : List V} {d e : D} (h : Tops T H F vs [d, e]) : ∃ v w, vs = [v, w] ∧ Top T H F v d ∧ Top T H F w e := by
  cases h with
  | cons h t => cases t with
    | cons h' t' => cases t'; exact ⟨_, _, rfl, h, h'⟩
theorem backTo_none {es : List Expr} {env : Env} {pos : Pos} (h : es.all plainArg = true) : (backTo pos (starEach es env)).any (·.1) = false := by
  unfold backTo
  induction es with
  | nil => rfl
  | cons e es ih =>
    rw [List.all_cons, Bool.and_eq_true] at h
    rw [starEach_cons h.1, List.map_cons, List.any_cons, ih h.2]
    rfl
end
end Ev

set_option maxHeartbeats 2000000
namespace Ev
open PySem PySem.Spec PyProof.Rows L2
variable [Tbs]
theorem CallR.or {X : Cx} {f : Value} {r r' : List V → Hp → VK → Prop} (h : CallR X f r) (h' : CallR X f r') : CallR X f (fun vs H Q => r vs H Q ∨ r' vs H Q) := by
  intro pins s σ H vs us Q I rv q
  rcases q with q | q
  · exact h pins s σ H vs us Q I rv q
  · exact h' pins s σ H vs us Q I rv q
theorem bind_nx {α β : Type} {r : R α} {f : α → R β} (h1 : ∀ c fs, r ≠ .exc c fs) (h2 : ∀ a c fs, f a ≠ .exc c fs) : ∀ c fs, r.bind f ≠ .exc c fs := by
  intro c fs z
  cases r with
  | ok a => exact h2 a c fs z
  | exc c' fs' => exact h1 _ _ rfl
  | bad => cases z
theorem ok_nx {α : Type} (a : α) : ∀ c fs, (R.ok a) ≠ .exc c fs := by intro c fs z; cases z
section
variable {X : Cx} {T : Tab} {H : Hp} {F : Addr → Prop} {q : Qu}
theorem asI_nx (d : D) : ∀ c fs, d.asI ≠ .exc c fs := by
  intro c fs; cases d <;> (intro z; cases z)
theorem allI_nx : ∀ ds c fs, allI ds ≠ .exc c fs
  | [], _, _ => by intro z; cases z
  | d :: ds, c, fs => bind_nx (asI_nx d) (fun i => bind_nx (allI_nx ds) fun r => ok_nx _) c fs
theorem allB_nx : ∀ ds c fs, allB ds ≠ .exc c fs
  | [], _, _ => by intro z; cases z
  | d :: ds, c, fs => bind_nx (asB_nx d) (fun i => bind_nx (allB_nx ds) fun r => ok_nx _) c fs
theorem bind_ok_of {α β : Type} {r : R α} {f : α → R β} {b : β} (h : r.bind f = .ok b) : ∃ a, r = .ok a ∧ f a = .ok b := by
  cases r with
  | ok a => exact ⟨a, rfl, h⟩
  | exc c fs => cases h
  | bad => cases h
theorem ofO_ok {α : Type} {o : Option α} {a : α} (h : ofO o = .ok a) : o = some a := by
  cases o with
  | some x => injection h with h; rw [h]
  | none => cases h
theorem asI_ok {d : D} {i : Int} (h : d.asI = .ok i) : d = .int i := by
  cases d <;> first | (injection h with h; subst h; rfl) | cases h
theorem allI_ok : ∀ {ds : List D} {ns : List Int}, allI ds = .ok ns → ds = ns.map D.int
  | [], _, h => by injection h with h; subst h; rfl
  | d :: ds, _, h => by
    obtain ⟨i, h1, h⟩ := bind_ok_of h
    obtain ⟨r, h2, h⟩ := bind_ok_of h
    injection h with h
    subst h
    rw [asI_ok h1, allI_ok h2]; rfl
theorem allB_ok : ∀ {ds : List D} {ns : List Bool}, allB ds = .ok ns → ds = ns.map D.bl
  | [], _, h => by injection h with h; subst h; rfl
  | d :: ds, _, h => by
    obtain ⟨i, h1, h⟩ := bind_ok_of h
    obtain ⟨r, h2, h⟩ := bind_ok_of h
    injection h with h
    subst h
    rw [asB_bl h1, allB_ok h2]; rfl
theorem Reps.ofInts : ∀ {ns : List Int} {vs : List V}, Reps T H F vs (ns.map D.int) → vs = ns.map V.int
  | [], _, .nil => rfl
  | n :: ns, _, .cons h t => by
    cases h
    rw [Reps.ofInts t]; rfl
theorem Reps.ofBls : ∀ {ns : List Bool} {vs : List V}, Reps T H F vs (ns.map D.bl) → vs = ns.map V.bl
  | [], _, .nil => rfl
  | n :: ns, _, .cons h t => by
    cases h
    rw [Reps.ofBls t]; rfl
theorem Reps.keys : ∀ {vs : List (Key × V)} {ds : List (Key × D)}, KReps T H F vs ds → Reps T H F (vs.map fun kv => kV kv.1) (ds.map fun kv => keyD kv.1)
  | _, _, .nil => .nil
  | (k, v) :: vs, (_, d) :: ds, .cons h t => .cons (by cases k <;> first | exact .int _ | exact .str _) (Reps.keys t)
theorem cal_len (hK : X.K = T.K) : CalOk T .fresh (fun xs H Q => ∃ x n, xs = [x] ∧ LenV X.K x H n ∧ Q (.int n) H) lenD := by
  constructor
  · intro ds c fs
    unfold lenD
    split
    · split <;> (intro z; cases z)
    · exact bind_nx (ofO_nx _) (fun _ => ok_nx _) c fs
    · intro z; cases z
  · intro H F vs ds d Q tt hd e h
    unfold lenD at e
    split at e
    · obtain ⟨v, rfl, t⟩ := tt.one
      cases t.str
      split at e
      · rename_i hz
        injection e with e; subst e
        exact ⟨_, _, rfl, ⟨by rw [sizeLine_eq]; exact hz, rfl⟩, h.now .int⟩
      · cases e
    · obtain ⟨v, rfl, t⟩ := tt.one
      obtain ⟨xs, e1, e⟩ := bind_ok_of e
      injection e with e; subst e
      obtain ⟨a, ws, rfl, h1, h2⟩ := t.seq (ofO_ok e1)
      refine ⟨_, ws.length, rfl, ?_, by rw [h2.length]; exact h.now .int⟩
      rw [hK]
      rcases h1 with h1 | h1
      · exact .inl ⟨ws, h1, rfl⟩
      · exact .inr ⟨ws, h1, rfl⟩
    · cases e
theorem cal_list (hK : X.K = T.K) : CalOk T .fresh (fun xs H Q => (∃ p ys, xs = [.ref p] ∧ (SqL X.K H p ys ∨ SqT X.K H p ys) ∧ ∀ l, H l = none → Q (.ref l) (upd H l (.lst ys))) ∨ (∃ (a : Addr) (kvs : List (Key × V)), xs = [.ref a] ∧ Rd H a (.dK kvs) ∧ ∀ p, H p = none → Q (.ref p) (upd H p (.lst (kvs.map fun kv => kV kv.1))))) listD := by
  constructor
  · intro ds c fs
    unfold listD
    split
    · intro z; cases z
    · exact bind_nx (ofO_nx _) (fun _ => ok_nx _) c fs
    · intro z; cases z
  · intro H F vs ds d Q tt hd e h
    unfold listD at e
    split at e
    · obtain ⟨v, rfl, t⟩ := tt.one
      obtain ⟨a, ws, rfl, h1, h2⟩ := t.dK
      injection e with e; subst e
      exact .inr ⟨a, ws, rfl, .inl h1, fun p hp => h F _ _ (Ext.laid hp) (.newL hd hp (Reps.keys h2))⟩
    · obtain ⟨v, rfl, t⟩ := tt.one
      obtain ⟨xs, e1, e⟩ := bind_ok_of e
      injection e with e; subst e
      obtain ⟨a, ws, rfl, h1, h2⟩ := t.seq (ofO_ok e1)
      refine .inl ⟨a, ws, rfl, by rw [hK]; exact h1, fun p hp => h F _ _ (Ext.laid hp) (.newL hd hp h2)⟩
    · cases e
theorem cal_int : CalOk T q (fun xs H Q => (∃ i, xs = [.int i] ∧ Q (.int i) H) ∨ ∃ k, xs = [.bl k] ∧ Q (.int (if k then 1 else 0)) H) intD := by
  constructor
  · intro ds c fs
    unfold intD
    split <;> (intro z; cases z)
  · intro H F vs ds d Q tt hd e h
    unfold intD at e
    split at e
    · obtain ⟨v, rfl, t⟩ := tt.one
      cases t.int; injection e with e; subst e
      exact .inl ⟨_, rfl, h.now .int⟩
    · obtain ⟨v, rfl, t⟩ := tt.one
      cases t.bl; injection e with e; subst e
      exact .inr ⟨_, rfl, h.now .int⟩
    · cases e
theorem cal_max2 : CalOk T q (fun xs H Q => ∃ i j, xs = [.int i, .int j] ∧ Q (.int (if j > i then j else i)) H) max2D := by
  constructor
  · intro ds c fs
    unfold max2D
    split <;> (intro z; cases z)
  · intro H F vs ds d Q tt hd e h
    unfold max2D at e
    split at e
    · obtain ⟨v, w, rfl, t, t'⟩ := tt.two
      cases t.int; cases t'.int; injection e with e; subst e
      exact ⟨_, _, rfl, h.now .int⟩
    · cases e
theorem cal_min2 : CalOk T q (fun xs H Q => ∃ i j, xs = [.int i, .int j] ∧ Q (.int (if j < i then j else i)) H) min2D := by
  constructor
  · intro ds c fs
    unfold min2D
    split <;> (intro z; cases z)
  · intro H F vs ds d Q tt hd e h
    unfold min2D at e
    split at e
    · obtain ⟨v, w, rfl, t, t'⟩ := tt.two
      cases t.int; cases t'.int; injection e with e; subst e
      exact ⟨_, _, rfl, h.now .int⟩
    · cases e
theorem cal_sum (hK : X.K = T.K) : CalOk T q (rSum X.K) sumD := by
  constructor
  · intro ds c fs
    unfold sumD
    split
    · exact bind_nx (allI_nx _) (fun _ => ok_nx _) c fs
    · intro z; cases z
  · intro H F vs ds d Q tt hd e h
    unfold sumD at e
    split at e
    · obtain ⟨v, rfl, t⟩ := tt.one
      obtain ⟨ns, e1, e⟩ := bind_ok_of e
      injection e with e; subst e
      obtain ⟨a, ws, rfl, h1, h2⟩ := t.lst
      cases allI_ok e1
      cases h2.ofInts
      exact ⟨a, ns, rfl, SqL.of h1, h.now .int⟩
    · cases e
theorem mostI_ok : ∀ (r : List Int) (a m : Int), (∀ y ∈ a :: r, y ≤ m) → m ∈ a :: r → m = mostI a r
  | [], a, m, h, hm => by rw [List.mem_singleton.mp hm]; rfl
  | b :: r, a, m, h, hm => by
    have ha := h a (by simp)
    have hb := h b (by simp)
    unfold mostI
    refine mostI_ok r _ m (fun y hy => ?_) ?_
    · rcases List.mem_cons.mp hy with rfl | hy
      · split <;> assumption
      · exact h y (by simp [hy])
    · rcases List.mem_cons.mp hm with rfl | hm
      · rw [if_neg (by omega)]; simp
      · rcases List.mem_cons.mp hm with rfl | hm
        · split
          · simp
          · have : a = m := by omega
            subst this; simp
        · simp [hm]
theorem leastI_ok : ∀ (r : List Int) (a m : Int), (∀ y ∈ a :: r, m ≤ y) → m ∈ a :: r → m = leastI a r
  | [], a, m, h, hm => by rw [List.mem_singleton.mp hm]; rfl
  | b :: r, a, m, h, hm => by
    have ha := h a (by simp)
    have hb := h b (by simp)
    unfold leastI
    refine leastI_ok r _ m (fun y hy => ?_) ?_
    · rcases List.mem_cons.mp hy with rfl | hy
      · split <;> assumption
      · exact h y (by simp [hy])
    · rcases List.mem_cons.mp hm with rfl | hm
      · rw [if_neg (by omega)]; simp
      · rcases List.mem_cons.mp hm with rfl | hm
        · split
          · simp
          · have : a = m := by omega
            subst this; simp
        · simp [hm]
theorem cal_maxL (hK : X.K = T.K) : CalOk T q (rMax X.K) maxLD := by
  constructor
  · intro ds c fs
    unfold maxLD
    split
    · exact bind_nx (allI_nx _) (fun ns => by cases ns <;> (intro c fs z; cases z)) c fs
    · intro z; cases z
  · intro H F vs ds d Q tt hd e h
    unfold maxLD at e
    split at e
    · obtain ⟨v, rfl, t⟩ := tt.one
      obtain ⟨ns, e1, e2⟩ := bind_ok_of e
      obtain ⟨a, ws, rfl, h1, h2⟩ := t.lst
      cases allI_ok e1
      cases h2.ofInts
      cases ns with
      | nil => cases e2
      | cons b r =>
        injection e2 with e2; subst e2
        refine ⟨a, _, rfl, SqL.of h1, by simp, fun m hm hy => ?_⟩
        rw [mostI_ok r b m hy hm]
        exact h.now .int
    · cases e
theorem cal_minL (hK : X.K = T.K) : CalOk T q (rMin X.K) minLD := by
  constructor
  · intro ds c fs
    unfold minLD
    split
    · exact bind_nx (allI_nx _) (fun ns => by cases ns <;> (intro c fs z; cases z)) c fs
    · intro z; cases z
  · intro H F vs ds d Q tt hd e h
    unfold minLD at e
    split at e
    · obtain ⟨v, rfl, t⟩ := tt.one
      obtain ⟨ns, e1, e2⟩ := bind_ok_of e
      obtain ⟨a, ws, rfl, h1, h2⟩ := t.lst
      cases allI_ok e1
      cases h2.ofInts
      cases ns with
      | nil => cases e2
      | cons b r =>
        injection e2 with e2; subst e2
        refine ⟨a, _, rfl, SqL.of h1, by simp, fun m hm hy => ?_⟩
        rw [leastI_ok r b m hy hm]
        exact h.now .int
    · cases e
theorem insI_perm (n : Int) : ∀ l : List Int, (insI n l).Perm (n :: l)
  | [] => .refl _
  | m :: r => by
    unfold insI
    split
    · exact .refl _
    · exact ((insI_perm n r).cons m).trans (.swap n m r)
theorem sortI_perm : ∀ l : List Int, (sortI l).Perm l
  | [] => .refl _
  | n :: r => (insI_perm n _).trans ((sortI_perm r).cons n)
theorem insI_sorted (n : Int) : ∀ l : List Int, l.Pairwise (· ≤ ·) → (insI n l).Pairwise (· ≤ ·)
  | [], _ => by simp [insI]
  | m :: r, h => by
    rw [List.pairwise_cons] at h
    unfold insI
    split
    · rename_i hn
      refine List.pairwise_cons.mpr ⟨fun y hy => ?_, List.pairwise_cons.mpr h⟩
      rcases List.mem_cons.mp hy with rfl | hy
      · exact hn
      · exact Int.le_trans hn (h.1 y hy)
    · rename_i hn
      refine List.pairwise_cons.mpr ⟨fun y hy => ?_, insI_sorted n r h.2⟩
      rcases List.mem_cons.mp ((insI_perm n r).mem_iff.mp hy) with rfl | hy
      · omega
      · exact h.1 y hy
theorem sortI_sorted : ∀ l : List Int, (sortI l).Pairwise (· ≤ ·)
  | [] => .nil
  | n :: r => insI_sorted n _ (sortI_sorted r)
theorem sorted_unique : ∀ {l m : List Int}, l.Perm m → l.Pairwise (· ≤ ·) → m.Pairwise (· ≤ ·) → l = m
  | [], m, h, _, _ => by rw [List.Perm.nil_eq h]
  | a :: l, [], h, _, _ => absurd h.length_eq (by simp)
  | a :: l, b :: m, h, hl, hm => by
    rw [List.pairwise_cons] at hl hm
    have e : a = b := by
      have h1 : a ∈ b :: m := h.mem_iff.mp (by simp)
      have h2 : b ∈ a :: l := h.mem_iff.mpr (by simp)
      have l1 : b ≤ a := by
        rcases List.mem_cons.mp h1 with e | h1
        · omega
        · exact hm.1 a h1
      have l2 : a ≤ b := by
        rcases List.mem_cons.mp h2 with e | h2
        · omega
        · exact hl.1 b h2
      omega
    subst e
    rw [sorted_unique (List.Perm.cons_inv h) hl.2 hm.2]
theorem cal_sorted (hK : X.K = T.K) : CalOk T .fresh (rSortedI X.K) sortedD := by
  constructor
  · intro ds c fs
    unfold sortedD
    split
    · exact bind_nx (allI_nx _) (fun _ => ok_nx _) c fs
    · intro z; cases z
  · intro H F vs ds d Q tt hd e h
    unfold sortedD at e
    split at e
    · obtain ⟨v, rfl, t⟩ := tt.one
      obtain ⟨ns, e1, e⟩ := bind_ok_of e
      injection e with e; subst e
      obtain ⟨a, ws, rfl, h1, h2⟩ := t.lst
      cases allI_ok e1
      cases h2.ofInts
      refine ⟨a, ns, rfl, SqL.of h1, fun ns' p hp hs hn => ?_⟩
      rw [sorted_unique (hp.trans (sortI_perm ns).symm) hs (sortI_sorted ns)]
      exact h F _ _ (Ext.laid hn) (.newL hd hn Reps.ints)
    · cases e
theorem cal_any (hK : X.K = T.K) : CalOk T q (rAny X.K) anyD := by
  constructor
  · intro ds c fs
    unfold anyD
    split
    · exact bind_nx (allB_nx _) (fun _ => ok_nx _) c fs
    · intro z; cases z
  · intro H F vs ds d Q tt hd e h
    unfold anyD at e
    split at e
    · obtain ⟨v, rfl, t⟩ := tt.one
      obtain ⟨ns, e1, e⟩ := bind_ok_of e
      injection e with e; subst e
      obtain ⟨a, ws, rfl, h1, h2⟩ := t.lst
      cases allB_ok e1
      cases h2.ofBls
      exact ⟨a, ns, rfl, SqL.of h1, h.now .bl⟩
    · cases e
theorem cal_all (hK : X.K = T.K) : CalOk T q (rAll X.K) allD := by
  constructor
  · intro ds c fs
    unfold allD
    split
    · exact bind_nx (allB_nx _) (fun _ => ok_nx _) c fs
    · intro z; cases z
  · intro H F vs ds d Q tt hd e h
    unfold allD at e
    split at e
    · obtain ⟨v, rfl, t⟩ := tt.one
      obtain ⟨ns, e1, e⟩ := bind_ok_of e
      injection e with e; subst e
      obtain ⟨a, ws, rfl, h1, h2⟩ := t.lst
      cases allB_ok e1
      cases h2.ofBls
      exact ⟨a, ns, rfl, SqL.of h1, h.now .bl⟩
    · cases e
end
end Ev

set_option maxHeartbeats 2000000
namespace Ev
open PySem PySem.Spec PyProof.Rows L2
variable [Tbs]
section
variable {X : Cx} {T : Tab} {Γ : List Mo} {XE : XT} {q q' qa qb qc : Qu} {a b c : Expr} {fa fb fc : Ev → R D} {pos : Pos} {es : List Expr} {fs : Ev → R (List D)}
/-! ### bit_length, isinstance of built-in types -/
theorem attrBase {e : Expr} {f : Str} {env : Env} (h : ∀ id p p2, e ≠ .Call (.Name id p) [] [] p2) : attributeBase e f env (eval e env) = eval e env := by
  cases e with
  | Call fn args kw p =>
    cases fn with
    | Name id p1 =>
      cases args with
      | nil => cases kw with
        | nil => exact absurd rfl (h _ _ _)
        | cons _ _ => rfl
      | cons _ _ => rfl
    | _ => rfl
  | _ => rfl
theorem de_bits {apos : Pos} (ha : DE X T Γ XE qa a fa) (hb : attributeBase a "bit_length" X.env (eval a X.env) = eval a X.env) (hl : (apos.endLine == pos.line) = true) : DE X T Γ XE .fresh (.Call (.Attribute a "bit_length" apos) [] [] pos) fun env => (fa env).bind fun x => (R.ok ([] : List D)).bind fun ds => bmD .bitLength x ds := by
  obtain ⟨ta, pa, sa⟩ := ha
  refine ⟨_, pe_bits pa hb hl, fun H0 F0 σ H F env Q s h => ?_⟩
  refine sa.top s h fun d1 F1 H1 v1 x1 t1 r1 h1 => ?_
  cases d1 with
  | int i => cases t1.int; exact ⟨i, rfl, Go.now (Go.back (d := .int _) x1 h1) .int⟩
  | _ => exact h1.elim
theorem isTy_kit (a b : String) (r : Bool) (h : isTy a b = some r) : kitB a b = some r := by
  unfold isTy at h
  split at h
  all_goals first | (injection h with h; subst h; decide +kernel) | cases h
theorem Top.ty {H : Hp} {F : Addr → Prop} {v : V} {d : D} {t : String} (h : Top T H F v d) (e : tagD d = some t) : TyX T.K H v (.type t) := by
  unfold tagD at e
  split at e
  · cases h.non; injection e with e; subst e; exact .base .non
  · cases h.bl; injection e with e; subst e; exact .base (.bl _)
  · cases h.int; injection e with e; subst e; exact .base (.int _)
  · cases h.str; injection e with e; subst e; exact .base (.str _)
  · obtain ⟨_, _, rfl, h1, _⟩ := h.lst; injection e with e; subst e; exact .base (.lst h1)
  · obtain ⟨_, _, rfl, _, h1, _⟩ := h.tup; injection e with e; subst e; exact .base (.tup h1)
  · obtain ⟨_, _, rfl, h1, _⟩ := h.dK; injection e with e; subst e; exact .base (.dK h1)
  · cases e
theorem de_isi {ty : String} {x : Str} {p p2 : Pos} (hK : X.K = T.K) (hg : Gl X "isinstance") (hm : X.mg "isinstance" = none) (hv : bootBuiltins "isinstance" = some (.builtin "isinstance"))
    (hgt : Gl X x) (hmt : X.mg x = none) (hvt : bootBuiltins x = some (.type ty)) (hnt : x ≠ "__name__") (hdt : (x == ("__debug__" : Str)) = false) (hp : plainArg a = true) (ha : DE X T Γ XE qa a fa) :
    DE X T Γ XE .fresh (.Call (.Name "isinstance" p) [a, .Name x p2] [] pos) fun env => (fa env).bind fun x => (isiD x ty).bind fun k => .ok (.bl k) := by
  obtain ⟨ta, pa, sa⟩ := ha
  refine ⟨_, pe_callB call_isi hg hm hv (pa_cons pa (pa_cons (pe_bltn (v := .ty ty) hgt hmt hvt rfl hnt hdt) pa_nil (starEach_cons rfl)) (starEach_cons hp)) (by decide) (by decide) (starEach_cons hp) (backTo_none (by simp [plainArg])), fun H0 F0 σ H F env Q s h => ?_⟩
  refine sa.top s h fun d1 F1 H1 v1 x1 t1 r1 h1 => ?_
  unfold isiD at h1
  cases e1 : tagD d1 with
  | none => rw [e1] at h1; exact h1.elim
  | some t =>
    rw [e1] at h1
    cases e2 : isTy t ty with
    | none => simp only [Option.bind_some, e2] at h1; exact h1.elim
    | some k =>
      simp only [Option.bind_some, e2] at h1
      exact ⟨v1, .ty ty, .type t, .type ty, k, rfl, .ty ty, by rw [hK]; exact t1.ty e1, kit_ty (isTy_kit _ _ _ e2), Go.now (Go.back (d := .bl k) x1 h1) .bl⟩
/-! ### the program's own functions -/
def ArgOk (T : Tab) (H : Hp) (F : Addr → Prop) (m : Mo) (v : V) (d : D) : Prop := match m with
  | .frz => Rep T H F v d
  | _ => Top T H F v d
inductive ArgsOk (T : Tab) (H : Hp) (F : Addr → Prop) : List Mo → List V → List D → Prop
  | nil : ArgsOk T H F [] [] []
  | cons {m : Mo} {v : V} {d : D} {ms : List Mo} {vs : List V} {ds : List D} : ArgOk T H F m v d → ArgsOk T H F ms vs ds → ArgsOk T H F (m :: ms) (v :: vs) (d :: ds)
theorem ArgsOk.length {H : Hp} {F : Addr → Prop} {ms : List Mo} {vs : List V} {ds : List D} (h : ArgsOk T H F ms vs ds) : vs.length = ms.length ∧ ds.length = ms.length := by
  induction h with
  | nil => exact ⟨rfl, rfl⟩
  | cons _ _ ih => exact ⟨by rw [List.length_cons, List.length_cons, ih.1], by rw [List.length_cons, List.length_cons, ih.2]⟩
theorem ArgsOk.append {H : Hp} {F : Addr → Prop} {ms ms' : List Mo} {vs vs' : List V} {ds ds' : List D} (h : ArgsOk T H F ms vs ds) (h' : ArgsOk T H F ms' vs' ds') : ArgsOk T H F (ms ++ ms') (vs ++ vs') (ds ++ ds') := by
  induction h with
  | nil => exact h'
  | cons h _ ih => exact .cons h ih
theorem ArgOk.ext {H H' : Hp} {F F' : Addr → Prop} {m : Mo} {v : V} {d : D} (x : Ext F H F' H') (h : ArgOk T H F m v d) : ArgOk T H' F' m v d := by
  cases m with
  | frz => exact Rep.ext x h
  | own => exact Top.ext x h
  | brw => exact Top.ext x h
  | lol => exact Top.ext x h
/-- no exception -/
abbrev NoXE : XT := fun _ _ _ _ _ => False
/-- the promise of a def that changes nothing that stands: what f tells of the trees -/
abbrev spN (T : Tab) (ms : List Mo) (q : Qu) (f : List D → Option D) : Sp := fun vs H Q _ => ∃ F ds d, Dom F H ∧ TbsOk H ∧ ArgsOk T H F ms vs ds ∧ f ds = some d ∧ Go T q F H Q d
def SimM (T : Tab) (Γ : List Mo) (XE : XT) (ms : List Mo) (t : TA) (f : Ev → R (List D)) : Prop :=
  ∀ (H0 : Hp) (F0 : Addr → Prop) (σ : St) (H : Hp) (F : Addr → Prop) (env : Ev) (Q : List V → Hp → Prop), SR T Γ H0 F0 F H env σ →
    wpR (f env) (fun ds => ∀ F' H' vs, Ext F H F' H' → ArgsOk T H' F' ms vs ds → Q vs H') (fun c fs => ∀ F' H', Ext F H F' H' → XE c fs σ F' H') → t σ H Q
def DM (X : Cx) (T : Tab) (Γ : List Mo) (XE : XT) (ms : List Mo) (es : List Expr) (f : Ev → R (List D)) : Prop := ∃ t, PA X es t ∧ SimM T Γ XE ms t f
theorem dm_nil : DM X T Γ XE [] [] fun _ => .ok [] := ⟨_, pa_nil, fun _ _ _ H F _ _ _ h => h F H [] (Ext.refl _ _) .nil⟩
theorem dm_cons {m : Mo} {ms : List Mo} (hp : plainArg a = true) (hq : m = .frz → qa ≠ .dirty) (ha : DE X T Γ XE qa a fa) (hs : DM X T Γ XE ms es fs) : DM X T Γ XE (m :: ms) (a :: es) fun env => (fa env).bind fun x => (fs env).bind fun r => .ok (x :: r) := by
  obtain ⟨ta, pa, sa⟩ := ha
  obtain ⟨ts, ps, ss⟩ := hs
  refine ⟨_, pa_cons pa ps (starEach_cons hp), fun H0 F0 σ H F env Q s h => ?_⟩
  have go : ∀ d1 F1 H1 v1, Ext F H F1 H1 → ArgOk T H1 F1 m v1 d1 → SR T Γ H0 F0 F1 H1 env σ → wpR ((fs env).bind fun r => (.ok (d1 :: r) : R (List D))) (fun ds => ∀ F' H' vs, Ext F H F' H' → ArgsOk T H' F' (m :: ms) vs ds → Q vs H') (fun c fs => ∀ F' H', Ext F1 H1 F' H' → XE c fs σ F' H') → ts σ H1 fun xs H2 => Q (v1 :: xs) H2 := by
    intro d1 F1 H1 v1 x1 t1 r1 h1
    refine ss H0 F0 σ H1 F1 env _ r1 (wpR_mono (wpR_bind h1) (fun ds hd F2 H2 vs x2 r2 => ?_) fun _ _ z => z)
    exact (show ∀ F' H' vs, Ext F H F' H' → ArgsOk T H' F' (m :: ms) vs (d1 :: ds) → Q vs H' from hd) F2 H2 _ (x1.trans x2) (.cons (t1.ext x2) r2)
  by_cases hm : m = .frz
  · subst hm
    exact sa.rep (P := fun ds => ∀ F' H' vs, Ext F H F' H' → ArgsOk T H' F' (.frz :: ms) vs ds → Q vs H') (hq rfl) s h fun d1 F1 H1 v1 x1 t1 r1 h1 => go d1 F1 H1 v1 x1 t1 r1 h1
  · exact sa.top (P := fun ds => ∀ F' H' vs, Ext F H F' H' → ArgsOk T H' F' (m :: ms) vs ds → Q vs H') s h fun d1 F1 H1 v1 x1 t1 r1 h1 => go d1 F1 H1 v1 x1 (by cases m <;> first | exact absurd rfl hm | exact t1) r1 h1
/-- default values -/
inductive Dfl : List V → List D → Prop
  | nil : Dfl [] []
  | non {vs : List V} {ds : List D} : Dfl vs ds → Dfl (.non :: vs) (.non :: ds)
theorem Dfl.args {H : Hp} {F : Addr → Prop} : ∀ {vs : List V} {ds : List D}, Dfl vs ds → ArgsOk T H F (vs.map fun _ => .frz) vs ds
  | _, _, .nil => .nil
  | _, _, .non h => .cons Rep.non h.args
theorem plainArg_pa {X : Cx} : ∀ {es : List Expr}, es.all plainArg = true → (∀ e ∈ es, plainArg e = true)
  | _, h => fun e he => List.all_eq_true.mp h e he
theorem de_call {k : Nat} {f : Addr} {fd : FuncData} {ps : List Str} {ms : List Mo} {g : List D → Option D} {x : Str} {p : Pos} {ds : List Value} {dvs : List V} {dd : List D}
    (Fn : FnOk X.prog X.w X.K X.mg X.base CX0 k f fd ps (spN T (ms ++ dvs.map fun _ => .frz) q g)) (hr : Room k X.A) (hg : Gl X x) (hm : X.mg x = some (.ref f)) (hk : PySem.W.keepIn X.K (.ref f) = true) (hb : Binds X.K fd ps ds) (hd : Vals dvs ds) (hdd : Dfl dvs dd)
    (hdb : (x == ("__debug__" : Str)) = false) (hp : plainArg a = true) (hps : es.all plainArg = true) (ha : DM X T Γ XE ms (a :: es) fs) : DE X T Γ XE q (.Call (.Name x p) (a :: es) [] pos) fun env => (fs env).bind fun ds => ofO (g (ds ++ dd)) := by
  obtain ⟨t, pt, s⟩ := ha
  refine ⟨_, pe_call (E := E0) Fn hr hg hm hk hb hd pass0 pt hdb (starEach_cons hp) (backTo_none hps), fun H0 F0 σ H F env Q r h => ?_⟩
  refine s H0 F0 σ H F env _ r (wpR_mono (wpR_bind h) (fun ds hd F2 H2 vs x2 r2 => ?_) fun _ _ z => z)
  cases e : g (ds ++ dd) with
  | some d => rw [e] at hd; exact ⟨F2, ds ++ dd, d, x2.dom r.dom, x2.tabs r.tabs, r2.append hdd.args, e, Go.back x2 (show Go T q F H Q d from hd)⟩
  | none => rw [e] at hd; exact hd.elim
theorem de_call0 {k : Nat} {f : Addr} {fd : FuncData} {ps : List Str} {g : List D → Option D} {x : Str} {p : Pos} {ds : List Value} {dvs : List V} {dd : List D}
    (Fn : FnOk X.prog X.w X.K X.mg X.base CX0 k f fd ps (spN T (dvs.map fun _ => .frz) q g)) (hr : Room k X.A) (hg : Gl X x) (hm : X.mg x = some (.ref f)) (hk : PySem.W.keepIn X.K (.ref f) = true) (hb : Binds X.K fd ps ds) (hd : Vals dvs ds) (hdd : Dfl dvs dd)
    (hdb : (x == ("__debug__" : Str)) = false) : DE X T Γ XE q (.Call (.Name x p) [] [] pos) fun env => (R.ok ([] : List D)).bind fun ds => ofO (g (ds ++ dd)) := by
  refine ⟨_, pe_call0 (E := E0) Fn hr hg hm hk hb hd pass0 hdb, fun H0 F0 σ H F env Q r h => ?_⟩
  show spN T (dvs.map fun _ => .frz) q g ([] ++ dvs) H Q E0
  rw [List.nil_append]
  have h : wpR (ofO (g ([] ++ dd))) (Go T q F H Q) _ := h
  cases e : g ([] ++ dd) with
  | some d => rw [e] at h; exact ⟨F, dd, d, r.dom, r.tabs, hdd.args, e, h⟩
  | none => rw [e] at h; exact h.elim
/-- C(..): the __init__ of the class makes the tree that f tells -/
abbrev spMk (T : Tab) (C : Addr) (ms : List Mo) (f : List D → Option D) : Sp := fun vs H Q _ => ∃ x dx ws Hb F ds d, vs = .ref x :: ws ∧ Hb x = none ∧ Hb dx = none ∧ dx ≠ x ∧ H = upd (upd Hb dx (.own x)) x (.ins C dx []) ∧ Dom F Hb ∧ TbsOk Hb ∧ ArgsOk T Hb F ms ws ds ∧ f ds = some d ∧
  ∀ F' H', Ext F Hb F' H' → Rep T H' F' (.ref x) d → Q .non H'
theorem de_make {k : Nat} {C f : Addr} {fd : FuncData} {ps : List Str} {ms : List Mo} {g : List D → Option D} {x : Str} {p : Pos} {ds : List Value} {dvs : List V} {dd : List D} (M : Mk X.K C f)
    (Fn : FnOk X.prog X.w X.K X.mg X.base CX0 k f fd ps (spMk T C (ms ++ dvs.map fun _ => .frz) g)) (hr : Room (k + 1) X.A) (hg : Gl X x) (hm : X.mg x = some (.ref C)) (hb : Binds X.K fd ps ds) (hd : Vals dvs ds) (hdd : Dfl dvs dd)
    (hdb : (x == ("__debug__" : Str)) = false) (hp : plainArg a = true) (hps : es.all plainArg = true) (ha : DM X T Γ XE ms (a :: es) fs) (hc : ∀ ds d, g ds = some d → d.cell = false) : DE X T Γ XE .fresh (.Call (.Name x p) (a :: es) [] pos) fun env => (fs env).bind fun ds => ofO (g (ds ++ dd)) := by
  obtain ⟨t, pt, s⟩ := ha
  refine ⟨_, pe_make (E := E0) M Fn hr hg hm hb hd pass0 pt hdb (starEach_cons hp) (backTo_none hps), fun H0 F0 σ H F env Q r h => ?_⟩
  refine s H0 F0 σ H F env _ r (wpR_mono (wpR_bind h) (fun ds hd F2 H2 vs x2 r2 => ?_) fun _ _ z => z)
  cases e : g (ds ++ dd) with
  | none => rw [e] at hd; exact hd.elim
  | some d =>
    rw [e] at hd
    intro y dy hy hdy hne
    exact ⟨y, dy, _, H2, F2, ds ++ dd, d, rfl, hy, hdy, hne, rfl, x2.dom r.dom, x2.tabs r.tabs, r2.append hdd.args, e, fun F' H' x3 rp => ⟨rfl, (show Go T .fresh F H Q d from hd) F' H' _ (x2.trans x3) (.sc (hc _ _ e) rp)⟩⟩
/-- o.m(..): for each class that the table names -/
abbrev spMe (T : Tab) (c : Nat) (ms : List Mo) (q : Qu) (f : List D → Option D) : Sp := fun vs H Q _ => ∃ F v fs ws ds d, vs = v :: ws ∧ Dom F H ∧ TbsOk H ∧ Rep T H F v (.obj c fs) ∧ ArgsOk T H F ms ws ds ∧ f (.obj c fs :: ds) = some d ∧ Go T q F H Q d
theorem FReps.lookup {H : Hp} {F : Addr → Prop} (m : Str) : ∀ {vs : List (Str × V)} {ds : List (Str × D)}, FReps T H F vs ds → (ds.lookup m = none → vs.lookup m = none) ∧ ∀ d, ds.lookup m = some d → ∃ v, vs.lookup m = some v ∧ Rep T H F v d
  | _, _, .nil => ⟨fun _ => rfl, fun _ e => by cases e⟩
  | (k, v) :: vs, (_, d) :: ds, .cons h t => by
    obtain ⟨h1, h2⟩ := FReps.lookup m t
    rw [List.lookup_cons, List.lookup_cons]
    cases e : m == k with
    | true => exact ⟨fun z => (by cases z), fun x z => by injection z with z; subst z; exact ⟨v, rfl, h⟩⟩
    | false => exact ⟨h1, h2⟩
theorem Rep.objAt {H : Hp} {F : Addr → Prop} {v : V} {c : Nat} {fs : List (Str × D)} (h : Rep T H F v (.obj c fs)) : ∃ a dx vs, v = .ref a ∧ H a = some (.ins (T.cl c) dx vs) ∧ FReps T H F vs fs := by
  cases h with
  | obj s e r => exact ⟨_, _, _, rfl, e, r⟩
/-- one class's method: how it is reached and what it promises -/
structure MethOk (X : Cx) (T : Tab) (q : Qu) (ms : List Mo) (m : Str) (g : List D → Option D) (c : Nat) : Prop where
  ex : ∃ (k : Nat) (f : Addr) (fd : FuncData) (ps : List Str), FnOk X.prog X.w X.K X.mg X.base CX0 k f fd ps (spMe T c ms q g) ∧ Room k X.A ∧ Cls X.K (T.cl c) ∧ Meth X.K (T.cl c) m f ∧ Binds X.K fd ps []
def SimE' (T : Tab) (Γ : List Mo) (XE : XT) (q : Qu) (t : TE) (P : Ev → Prop) (f : Ev → R D) : Prop :=
  ∀ (H0 : Hp) (F0 : Addr → Prop) (σ : St) (H : Hp) (F : Addr → Prop) (env : Ev) (Q : VK), P env → SR T Γ H0 F0 F H env σ →
    wpR (f env) (Go T q F H Q) (GoX XE σ F H) → t σ H Q
theorem de_cls {e : Expr} {fo f : Ev → R D} (cs : List Nat) (h : ∀ c ∈ cs, ∃ t, PE X e t ∧ SimE' T Γ XE q t (fun env => ∃ fs, fo env = .ok (.obj c fs)) f)
    (hc : ∀ env d, f env = .ok d → ∃ c ∈ cs, ∃ fs, fo env = .ok (.obj c fs)) (hx : ∀ env c fs, f env ≠ .exc c fs) : DE X T Γ XE q e f := by
  have all : ∀ cs' : List Nat, (∀ c ∈ cs', c ∈ cs) → ∃ t, PE X e t ∧ SimE' T Γ XE q t (fun env => ∃ c ∈ cs', ∃ fs, fo env = .ok (.obj c fs)) f := by
    intro cs'
    induction cs' with
    | nil => exact fun _ => ⟨fun _ _ _ => False, ⟨fun _ _ _ _ _ _ h => h.elim⟩, fun _ _ _ _ _ _ _ ⟨c, hc, _⟩ _ _ => by cases hc⟩
    | cons c cs' ih =>
      intro hs
      obtain ⟨t1, p1, s1⟩ := h c (hs c (by simp))
      obtain ⟨t2, p2, s2⟩ := ih fun c' h' => hs c' (by simp [h'])
      refine ⟨fun σ H Q => t1 σ H Q ∨ t2 σ H Q, ⟨fun pins s σ H Q I h => h.elim (p1.run pins s σ H Q I) (p2.run pins s σ H Q I)⟩, fun H0 F0 σ H F env Q hP r hw => ?_⟩
      obtain ⟨c', hc', fs, e⟩ := hP
      rcases List.mem_cons.mp hc' with rfl | hc'
      · exact .inl (s1 H0 F0 σ H F env Q ⟨fs, e⟩ r hw)
      · exact .inr (s2 H0 F0 σ H F env Q ⟨c', hc', fs, e⟩ r hw)
  obtain ⟨t, p, s⟩ := all cs fun _ h => h
  refine ⟨t, p, fun H0 F0 σ H F env Q r hw => s H0 F0 σ H F env Q ?_ r hw⟩
  cases e : f env with
  | ok d => exact hc env d e
  | exc c fs => exact absurd e (hx _ _ _)
  | bad => rw [e] at hw; exact hw.elim
end
end Ev

set_option maxHeartbeats 2000000
namespace Ev
open PySem PySem.Spec PyProof.Rows L2
variable [Tbs]
section
variable {X : Cx} {T : Tab} {Γ : List Mo} {XE : XT} {q q' qa qb qc : Qu} {a b c : Expr} {fa fb fc : Ev → R D} {pos : Pos} {es : List Expr} {fs : Ev → R (List D)}
theorem methEq {o : Expr} {m : Str} {apos : Pos} {es : List Expr} {env : Env} (hb : attributeBase o m env (eval o env) = eval o env) (hf : methodCallForm (es.length + ([] : List Keyword).length) (backTo pos (starEach es env)) (backToKw pos (keywordEach [] env)) = true) (hl : (apos.endLine == pos.line) = true) :
    eval (.Call (.Attribute o m apos) es [] pos) env = (do
      let ov ← eval o env
      standAt apos.atName
      let (f, first) ← holding [ov] (getMethod ov m (do return (← importBound o env).getD true))
      callWith pos f first (backTo pos (starEach es env)) (backToKw pos (keywordEach [] env))) := by
  have hpos : methodCallPos true o env apos pos = pure pos := by unfold methodCallPos; simp [hl]
  show (do
      let ov ← attributeBase o m env (eval o env)
      standAt apos.atName
      methodCall o m apos pos env ov (es.length + ([] : List Keyword).length) (backTo pos (starEach es env)) (backToKw pos (keywordEach [] env))) = _
  rw [hb]
  unfold methodCall calleeOf
  rw [hf, hpos]
  simp only [if_true, pure_bind]
theorem methForm {es : List Expr} {env : Env} (hp : es.all plainArg = true) (hl : es.length < 29) : methodCallForm (es.length + ([] : List Keyword).length) (backTo pos (starEach es env)) (backToKw pos (keywordEach [] env)) = true := by
  unfold methodCallForm
  rw [Bool.and_eq_true, Bool.and_eq_true]
  refine ⟨⟨?_, rfl⟩, ?_⟩
  · have h := backTo_none (pos := pos) (env := env) hp
    rw [List.any_eq_false] at h
    rw [List.all_eq_true]
    intro x hx
    have := h x hx
    simpa using this
  · show decide (es.length + 0 + 0 < 30) = true
    rw [decide_eq_true_iff]
    omega
theorem de_meth {m : Str} {apos : Pos} {cs : List Nat} {ms : List Mo} {g : List D → Option D} {o : Expr} {fo : Ev → R D} (hM : ∀ c ∈ cs, MethOk X T q ms m g c) (hg : ∀ x ds d, g (x :: ds) = some d → ∃ c ∈ cs, ∃ fs, x = .obj c fs ∧ fs.lookup m = none)
    (ho : DE X T Γ XE qb o fo) (hox : ∀ env c fs, fo env ≠ .exc c fs) (hsx : ∀ env c ds, fs env ≠ .exc c ds) (hb : attributeBase o m X.env (eval o X.env) = eval o X.env) (hl : (apos.endLine == pos.line) = true) (hn : es.length < 28) (hp : plainArg a = true) (hps : es.all plainArg = true) (ha : DM X T Γ XE ms (a :: es) fs) :
    DE X T Γ XE q (.Call (.Attribute o m apos) (a :: es) [] pos) fun env => (fo env).bind fun x => (fs env).bind fun ds => ofO (g (x :: ds)) := by
  obtain ⟨t, pt, s⟩ := ha
  obtain ⟨to, po, so⟩ := ho
  refine de_cls (fo := fo) cs (fun c hc => ?_) (fun env d e => ?_) fun env c' fs' => ?_
  · obtain ⟨k, f, fd, ps, Fn, hr, hcl, hme, hbi⟩ := (hM c hc).ex
    refine ⟨_, pe_meth (E := E0) po hcl hme Fn hr hbi .nil pass0 pt (starEach_cons hp) (backTo_none hps) (methEq hb (methForm (by rw [List.all_cons, hp, hps]; rfl) (by rw [List.length_cons]; omega)) hl), fun H0 F0 σ H F env Q hP r h => ?_⟩
    obtain ⟨gs, e⟩ := hP
    dsimp only at h
    rw [e] at h
    refine so H0 F0 σ H F env _ r ?_
    rw [e]
    intro F1 H1 v1 x1 t1
    rcases t1.top with t1 | ⟨_, _, t1⟩
    · obtain ⟨y, dx, vs, rfl, ey, fr⟩ := t1.objAt
      have r1 := r.ext' x1
      have h1 : wpR ((fs env).bind fun ds => ofO (g (.obj c gs :: ds))) (Go T q F H Q) (GoX XE σ F H) := h
      have hno : gs.lookup m = none := by
        cases e2 : fs env with
        | ok ds =>
          rw [e2] at h1
          cases e3 : g (.obj c gs :: ds) with
          | some d =>
            obtain ⟨c', _, fs', e4, e5⟩ := hg _ _ _ e3
            injection e4 with _ e4
            rw [e4]; exact e5
          | none => rw [R.bind_ok, e3] at h1; exact h1.elim
        | exc c' fs' => exact absurd e2 (hsx _ _ _)
        | bad => rw [e2] at h1; exact h1.elim
      refine ⟨y, dx, vs, rfl, ey, (FReps.lookup m fr).1 hno, ?_⟩
      refine s H0 F0 σ H1 F1 env _ r1 (wpR_mono (wpR_bind h1) (fun ds hd F2 H2 ws x2 r2 => ?_) fun c' fs' z F' H' x => z F' H' (x1.trans x))
      cases e3 : g (.obj c gs :: ds) with
      | none => rw [e3] at hd; exact hd.elim
      | some d =>
        rw [e3] at hd
        exact ⟨F2, _, gs, ws ++ [], ds, d, rfl, (r1.ext' x2).dom, (r1.ext' x2).tabs, t1.ext x2, by rw [List.append_nil]; exact r2, e3, Go.back (x1.trans x2) (show Go T q F H Q d from hd)⟩
    · cases t1
  · obtain ⟨x, e1, e⟩ := bind_ok_of e
    obtain ⟨ds, e2, e⟩ := bind_ok_of e
    obtain ⟨c, hc, fs', rfl, _⟩ := hg _ _ _ (ofO_ok e)
    exact ⟨c, hc, fs', e1⟩
  · exact bind_nx (fun c fs => hox env c fs) (fun x => bind_nx (fun c fs => hsx env c fs) fun _ => ofO_nx _) c' fs'
theorem de_meth0 {m : Str} {apos : Pos} {cs : List Nat} {g : List D → Option D} {o : Expr} {fo : Ev → R D} (hM : ∀ c ∈ cs, MethOk X T q [] m g c) (hg : ∀ x ds d, g (x :: ds) = some d → ∃ c ∈ cs, ∃ fs, x = .obj c fs ∧ fs.lookup m = none)
    (ho : DE X T Γ XE qb o fo) (hox : ∀ env c fs, fo env ≠ .exc c fs) (hb : attributeBase o m X.env (eval o X.env) = eval o X.env) (hl : (apos.endLine == pos.line) = true) :
    DE X T Γ XE q (.Call (.Attribute o m apos) [] [] pos) fun env => (fo env).bind fun x => (R.ok ([] : List D)).bind fun ds => ofO (g (x :: ds)) := by
  obtain ⟨to, po, so⟩ := ho
  refine de_cls (fo := fo) cs (fun c hc => ?_) (fun env d e => ?_) fun env c' fs' => ?_
  · obtain ⟨k, f, fd, ps, Fn, hr, hcl, hme, hbi⟩ := (hM c hc).ex
    refine ⟨_, pe_meth0 (E := E0) po hcl hme Fn hr hbi .nil pass0 (methEq hb (methForm rfl (by decide)) hl), fun H0 F0 σ H F env Q hP r h => ?_⟩
    obtain ⟨gs, e⟩ := hP
    dsimp only at h
    rw [e] at h
    refine so H0 F0 σ H F env _ r ?_
    rw [e]
    intro F1 H1 v1 x1 t1
    rcases t1.top with t1 | ⟨_, _, t1⟩
    · obtain ⟨y, dx, vs, rfl, ey, fr⟩ := t1.objAt
      have r1 := r.ext' x1
      have h1 : wpR (ofO (g [.obj c gs])) (Go T q F H Q) (GoX XE σ F H) := h
      cases e3 : g [.obj c gs] with
      | none => rw [e3] at h1; exact h1.elim
      | some d =>
        rw [e3] at h1
        obtain ⟨c', _, fs', e4, e5⟩ := hg _ _ _ e3
        injection e4 with _ e4
        rw [← e4] at e5
        exact ⟨y, dx, vs, rfl, ey, (FReps.lookup m fr).1 e5, F1, _, gs, [], [], d, rfl, r1.dom, r1.tabs, t1, .nil, e3, Go.back x1 (show Go T q F H Q d from h1)⟩
    · cases t1
  · obtain ⟨x, e1, e⟩ := bind_ok_of e
    obtain ⟨c, hc, fs', rfl, _⟩ := hg _ _ _ (ofO_ok e)
    exact ⟨c, hc, fs', e1⟩
  · exact bind_nx (fun c fs => hox env c fs) (fun x => ofO_nx _) c' fs'
theorem de_attr {m : Str} {g : List D → Option D} {o : Expr} {fo : Ev → R D} (hK : X.K = T.K) (hg : ∀ x d, g [x] = some d → ∃ c fs, x = .obj c fs ∧ fs.lookup m = some d ∧ Cls T.K (T.cl c) ∧ NoAttr T.K (T.cl c) m)
    (ho : DE X T Γ XE qb o fo) (hb : attributeBase o m X.env (eval o X.env) = eval o X.env) : DE X T Γ XE .clean (.Attribute o m pos) fun env => (fo env).bind fun x => ofO (g [x]) := by
  obtain ⟨to, po, so⟩ := ho
  refine ⟨_, pe_fld po hb, fun H0 F0 σ H F env Q r h => ?_⟩
  refine so.top r h fun d1 F1 H1 v1 x1 t1 r1 h1 => ?_
  cases e : g [d1] with
  | none => rw [e] at h1; exact h1.elim
  | some d =>
    rw [e] at h1
    obtain ⟨c, fs, rfl, l, h2, h3⟩ := hg _ _ e
    rcases t1 with t1 | ⟨_, _, t1⟩
    · obtain ⟨y, dx, vs, rfl, ey, fr⟩ := t1.objAt
      obtain ⟨v, lv, rv⟩ := (FReps.lookup m fr).2 d l
      rw [hK]
      exact ⟨y, _, dx, vs, v, rfl, ey, h2, h3, lv, Go.now (q := .clean) (Go.back x1 (show Go T .clean F H Q d from h1)) rv⟩
    · cases t1
end
section
variable {X : Cx} {T : Tab} {Γ : List Mo} {XE : XT} {q qa qb : Qu} {a : Expr} {fa : Ev → R D} {pos : Pos}
theorem idxI_ok (k : Int) : ∀ (ns : List Int) (j : Nat), idxI k ns = some j → ns[j]? = some k ∧ ∀ m : Nat, m < j → ns[m]? ≠ some k
  | [], _, h => by cases h
  | n :: ns, j, h => by
    unfold idxI at h
    split at h
    · rename_i e
      injection h with h
      subst h
      exact ⟨by rw [e]; rfl, fun m hm => absurd hm (Nat.not_lt_zero _)⟩
    · rename_i e
      obtain ⟨i, h', rfl⟩ := Option.map_eq_some_iff.mp h
      obtain ⟨h1, h2⟩ := idxI_ok k ns i h'
      refine ⟨h1, fun m hm => ?_⟩
      cases m with
      | zero => exact fun z => e (Option.some.inj z)
      | succ m => exact h2 m (by omega)
theorem de_index {b : Expr} {fb : Ev → R D} {apos : Pos} (hK : X.K = T.K) (ha : DE X T Γ XE qa a fa) (hb : DE X T Γ XE qb b fb) (hbs : attributeBase a "index" X.env (eval a X.env) = eval a X.env) (hl : (apos.endLine == pos.line) = true) (hp : plainArg b = true) (hbx : ∀ env c fs, fb env ≠ .exc c fs) :
    DE X T Γ XE .fresh (.Call (.Attribute a "index" apos) [b] [] pos) fun env => (fa env).bind fun x => (fb env).bind fun y => bmD .index x [y] := by
  obtain ⟨ta, pa, sa⟩ := ha
  obtain ⟨tb, pb, sb⟩ := hb
  refine ⟨_, pe_bm PySem.F.plainAttrs_list PySem.F.slot_list_index PySem.F.type_list_index mt_index pa (pa_cons pb pa_nil (starEach_cons hp)) hbs (methForm (pos := pos) (env := X.env) (es := [b]) (by rw [List.all_cons, hp]; rfl) (by show 1 < 29; omega)) hl (starEach_cons hp) (backTo_none rfl), fun H0 F0 σ H F env Q s h => ?_⟩
  refine sa.top s h fun d1 F1 H1 v1 x1 t1 r1 h1 => ?_
  cases d1 with
  | lst xs =>
    obtain ⟨l, ws, rfl, k1, k2⟩ := t1.lst
    rw [hK]
    refine ⟨.inl ⟨rfl, _, SqL.of k1⟩, ?_⟩
    refine sb.top r1 h1 fun d2 F2 H2 v2 x2 t2 r2 h2 => ?_
    cases d2 with
    | int k =>
      cases t2.int
      unfold bmD at h2
      dsimp only at h2
      cases e : allI xs with
      | bad => rw [e] at h2; exact h2.elim
      | exc c fs => exact absurd e (allI_nx _ _ _)
      | ok ns =>
        rw [e, R.bind_ok] at h2
        cases e2 : idxI k ns with
        | none => rw [e2] at h2; exact h2.elim
        | some j =>
          rw [e2] at h2
          have h2 : Go T .fresh F2 H2 Q (.int (j : Nat)) := Go.back (x1.trans x2) (show Go T .fresh F H Q (.int (j : Nat)) from h2)
          obtain ⟨j1, j2⟩ := idxI_ok k ns j e2
          cases allI_ok e
          cases k2.ofInts
          refine ⟨l, ns.map V.int, .int k, j, .int k, rfl, rfl, SqL.of (x2.keep _ _ k1 rfl), rfl, ?_, by rw [List.getElem?_map, j1]; rfl, by unfold eqV; simp, fun m z hm hz => ?_, ?_⟩
          · rw [List.all_eq_true]
            intro z hz
            obtain ⟨i, _, rfl⟩ := List.mem_map.mp hz
            rfl
          · rw [List.getElem?_map] at hz
            cases e3 : ns[m]? with
            | none => rw [e3] at hz; cases hz
            | some i =>
              rw [e3] at hz
              cases hz
              have : i ≠ k := fun z => j2 m hm (by rw [e3, z])
              unfold eqV
              simpa using this
          · exact Go.now h2 .int
    | _ => exact h2.elim
  | _ =>
    cases e : fb env with
    | bad => rw [e] at h1; exact h1.elim
    | exc c fs => exact absurd e (hbx _ _ _)
    | ok y => rw [e] at h1; exact h1.elim
end
end Ev

set_option maxHeartbeats 2000000
namespace Ev
open PySem PySem.Spec PyProof.Rows L2
variable [Tbs]
/-- what of the heap H1 stands through a loop's turns: for a for, what is frozen and what stood at the entry; for a comprehension, all -/
def Kp (st : Bool) (H0 : Hp) (F1 : Addr → Prop) (H1 H : Hp) : Prop := (∀ a o, F1 a → H1 a = some o → isT o = false → H a = some o) ∧ (∀ a o, H0 a = some o → isT o = false → H a = some o) ∧ (st = false → ∀ a o, H1 a = some o → isT o = false → H a = some o)
/-- a walk that gives the trees ds -/
def ItOk (T : Tab) (J : It) (ds : List D) (F1 : Addr → Prop) (P : Hp → Prop) : Prop := ∃ (G : Hp → Prop) (Y : Nat → Hp → V → Hp → Prop), Walk J ds.length G Y ∧ (∀ H', P H' → G H') ∧
  ∀ (i : Nat) (H : Hp) (x : V) (H' : Hp) (F : Addr → Prop), i < ds.length → P H → (∀ a, F1 a → F a) → Y i H x H' → ∃ F' d, Ext F H F' H' ∧ ds[i]? = some d ∧ Rep T H' F' x d
def SimI (T : Tab) (Γ : List Mo) (XE : XT) (st : Bool) (wi : TI) (f : Ev → R (List D)) : Prop :=
  ∀ (H0 : Hp) (F0 : Addr → Prop) (σ : St) (H : Hp) (F : Addr → Prop) (env : Ev) (RR : It → Hp → Prop), SR T Γ H0 F0 F H env σ →
    wpR (f env) (fun ds => ∀ F1 H1 J, Ext F H F1 H1 → ItOk T J ds F1 (Kp st H0 F1 H1) → RR J H1) (GoX XE σ F H) → wi σ H RR
def DI (X : Cx) (T : Tab) (Γ : List Mo) (XE : XT) (st : Bool) (tg e : Expr) (f : Ev → R (List D)) : Prop := ∃ wi, PI X tg e wi ∧ SimI T Γ XE st wi f
section
variable {X : Cx} {T : Tab} {Γ : List Mo} {XE : XT} {q q' qa qb qc : Qu} {a b c : Expr} {fa fb fc : Ev → R D} {pos : Pos} {es : List Expr} {fs : Ev → R (List D)} {tg : Expr} {st : Bool}
theorem PI.or {e : Expr} {w1 w2 : TI} (h1 : PI X tg e w1) (h2 : PI X tg e w2) : PI X tg e (fun σ H R => w1 σ H R ∨ w2 σ H R) :=
  ⟨fun pins s σ H R I h => h.elim (h1.run pins s σ H R I) (h2.run pins s σ H R I)⟩
/-- a list or tuple that stands through the turns -/
inductive Src (T : Tab) (F1 : Addr → Prop) (H1 : Hp) (P : Hp → Prop) : V → D → List D → Prop
  | l {x : Addr} {vs : List V} {d : D} {ds : List D} : d.seq = some ds → (∀ H', P H' → SqL T.K H' x vs) → SqL T.K H1 x vs → Reps T H1 F1 vs ds → (∀ es, d ≠ .tup es) → Src T F1 H1 P (.ref x) d ds
  | t {x : Addr} {vs : List V} {ds : List D} : (∀ H', P H' → SqT T.K H' x vs) → SqT T.K H1 x vs → Reps T H1 F1 vs ds → Src T F1 H1 P (.ref x) (.tup ds) ds
theorem Src.rep {F1 : Addr → Prop} {H1 : Hp} {P : Hp → Prop} {v : V} {d : D} {ds : List D} (hP : ∀ H', P H' → ∀ a o, F1 a → H1 a = some o → isT o = false → H' a = some o) (h : Rep T H1 F1 v d) (e : d.seq = some ds) : Src T F1 H1 P v d ds := by
  cases h with
  | lst s h2 h3 => cases e; exact .l rfl (fun H' p => SqL.of (hP H' p _ _ s h2 rfl)) (SqL.of h2) h3 (fun _ z => by cases z)
  | tup s h2 h3 => cases e; exact .t (fun H' p => SqT.of (hP H' p _ _ s h2 rfl)) (SqT.of h2) h3
  | scr s h2 => cases e; exact .l rfl (fun H' p => .inl (h2.imp (fun e => hP H' p _ _ s e rfl) fun ⟨o, e⟩ => ⟨o, hP H' p _ _ s e rfl⟩)) (.inl h2) Reps.ints (fun _ z => by cases z)
  | scrK h => cases e; exact .l rfl (fun H' p => .inr h) (.inr h) Reps.ints (fun _ z => by cases z)
  | _ => cases e
theorem Src.at_ {F1 : Addr → Prop} {H1 : Hp} {P : Hp → Prop} {x : Addr} {d : D} {ds : List D} (hP : ∀ H', P H' → ∀ o, H1 x = some o → isT o = false → H' x = some o) (h : At T H1 F1 x d) (e : d.seq = some ds) : Src T F1 H1 P (.ref x) d ds := by
  cases h with
  | lst h2 h3 => cases e; exact .l rfl (fun H' p => SqL.of (hP H' p _ h2 rfl)) (SqL.of h2) h3 (fun _ z => by cases z)
  | _ => cases e
theorem itOk_list {F1 : Addr → Prop} {H1 : Hp} {P : Hp → Prop} {x : Addr} {vs : List V} {ds : List D} (hF : ∀ H', P H' → ∀ a o, F1 a → H1 a = some o → isT o = false → H' a = some o) (hs : ∀ H', P H' → SqL T.K H' x vs) (r : Reps T H1 F1 vs ds) : ItOk T (Itl T.K x) ds F1 P := by
  refine ⟨_, _, by rw [← r.length]; exact walk_list (xs := vs), hs, fun i H v H' F hi hp hF' y => ?_⟩
  obtain ⟨rfl, y⟩ := y
  obtain ⟨d, e, rv⟩ := r.getV y
  exact ⟨F, d, Ext.refl _ _, e, rv.mono hF' (hF _ hp)⟩
theorem itOk_tup {F1 : Addr → Prop} {H1 : Hp} {P : Hp → Prop} {x : Addr} {vs : List V} {ds : List D} (hF : ∀ H', P H' → ∀ a o, F1 a → H1 a = some o → isT o = false → H' a = some o) (hs : ∀ H', P H' → SqT T.K H' x vs) (r : Reps T H1 F1 vs ds) : ItOk T (Itt T.K x) ds F1 P := by
  refine ⟨_, _, by rw [← r.length]; exact walk_tup (xs := vs), hs, fun i H v H' F hi hp hF' y => ?_⟩
  obtain ⟨rfl, y⟩ := y
  obtain ⟨d, e, rv⟩ := r.getV y
  exact ⟨F, d, Ext.refl _ _, e, rv.mono hF' (hF _ hp)⟩
theorem di_src (hK : X.K = T.K) {t : TE} (pa : PE X a t) (hs : ∀ (H0 : Hp) (F0 : Addr → Prop) (σ : St) (H : Hp) (F : Addr → Prop) (env : Ev) (d : D) (ds : List D) (Q : VK), SR T Γ H0 F0 F H env σ → fa env = .ok d → d.seq = some ds →
      (∀ F1 H1 v, Ext F H F1 H1 → SR T Γ H0 F0 F1 H1 env σ → Src T F1 H1 (Kp st H0 F1 H1) v d ds → Q v H1) → t σ H Q) (hx : ∀ env c fs, fa env ≠ .exc c fs) :
    DI X T Γ XE st tg a fun env => (fa env).bind fun x => ofO x.seq := by
  refine ⟨_, PI.or (pi_list pa) (pi_tup pa), fun H0 F0 σ H F env RR r h => ?_⟩
  cases e : fa env with
  | exc c fs => exact absurd e (hx _ _ _)
  | bad => simp only [e] at h; exact h.elim
  | ok d =>
    simp only [e, Ev.R.bind_ok] at h
    cases e2 : d.seq with
    | none => rw [e2] at h; exact h.elim
    | some ds =>
      rw [e2] at h
      have h : ∀ F1 H1 J, Ext F H F1 H1 → ItOk T J ds F1 (Kp st H0 F1 H1) → RR J H1 := h
      by_cases ht : ∃ es, d = .tup es
      · obtain ⟨es, rfl⟩ := ht
        right
        refine hs H0 F0 σ H F env _ ds _ r e e2 fun F1 H1 v x1 _ sr => ?_
        cases e2
        cases sr with
        | l _ _ _ _ hn => exact absurd rfl (hn _)
        | t s1 s2 s3 => exact ⟨_, rfl, ⟨_, by rw [hK]; exact s2⟩, h F1 H1 _ x1 (by rw [hK]; exact itOk_tup (fun H' p => p.1) s1 s3)⟩
      · left
        refine hs H0 F0 σ H F env _ ds _ r e e2 fun F1 H1 v x1 _ sr => ?_
        cases sr with
        | t s1 s2 s3 => exact absurd ⟨_, rfl⟩ ht
        | l _ s1 s2 s3 _ => exact ⟨_, rfl, ⟨_, by rw [hK]; exact s2⟩, h F1 H1 _ x1 (by rw [hK]; exact itOk_list (fun H' p => p.1) s1 s3)⟩
theorem src_rep (hq : q ≠ .dirty) {t : TE} (sa : SimE T Γ XE q t fa) : ∀ (H0 : Hp) (F0 : Addr → Prop) (σ : St) (H : Hp) (F : Addr → Prop) (env : Ev) (d : D) (ds : List D) (Q : VK), SR T Γ H0 F0 F H env σ → fa env = .ok d → d.seq = some ds →
      (∀ F1 H1 v, Ext F H F1 H1 → SR T Γ H0 F0 F1 H1 env σ → Src T F1 H1 (Kp st H0 F1 H1) v d ds → Q v H1) → t σ H Q := by
  intro H0 F0 σ H F env d ds Q r e e2 k
  refine sa H0 F0 σ H F env Q r ?_
  rw [e]
  intro F1 H1 v x1 rv
  obtain ⟨F2, x2, _, rp⟩ := rv.rep x1 hq
  exact k F2 H1 v x2 (r.ext' x2) (.rep (fun H' p => p.1) rp e2)
theorem src_any {t : TE} (sa : SimE T Γ XE q t fa) : ∀ (H0 : Hp) (F0 : Addr → Prop) (σ : St) (H : Hp) (F : Addr → Prop) (env : Ev) (d : D) (ds : List D) (Q : VK), SR T Γ H0 F0 F H env σ → fa env = .ok d → d.seq = some ds →
      (∀ F1 H1 v, Ext F H F1 H1 → SR T Γ H0 F0 F1 H1 env σ → Src T F1 H1 (Kp false H0 F1 H1) v d ds → Q v H1) → t σ H Q := by
  intro H0 F0 σ H F env d ds Q r e e2 k
  refine sa H0 F0 σ H F env Q r ?_
  rw [e]
  intro F1 H1 v x1 rv
  rcases rv.top with rp | ⟨x, rfl, rp⟩
  · exact k F1 H1 v x1 (r.ext' x1) (.rep (fun H' p => p.1) rp e2)
  · exact k F1 H1 _ x1 (r.ext' x1) (.at_ (fun H' p => p.2.2 rfl x) rp e2)
theorem src_brw {i : Nat} (hm : NoO Γ i) : ∀ (H0 : Hp) (F0 : Addr → Prop) (σ : St) (H : Hp) (F : Addr → Prop) (env : Ev) (d : D) (ds : List D) (Q : VK), SR T Γ H0 F0 F H env σ → getV env i = .ok d → d.seq = some ds →
      (∀ F1 H1 v, Ext F H F1 H1 → SR T Γ H0 F0 F1 H1 env σ → Src T F1 H1 (Kp st H0 F1 H1) v d ds → Q v H1) → tVar i σ H Q := by
  intro H0 F0 σ H F env d ds Q r e e2 k
  have e' : env[i]? = some (some d) := by
    unfold getV at e
    split at e
    · rename_i d' e'; injection e with e; subst e; exact e'
    · cases e
  obtain ⟨v, hv, ok⟩ := r.slot i d e'
  refine ⟨v, hv, k F H v (Ext.refl _ _) r ?_⟩
  rw [List.getD_eq_getElem?_getD] at ok
  cases eg : Γ[i]? with
  | none =>
    rw [eg] at ok
    rcases ok with rp | ⟨x, rfl, ⟨o, ho⟩, rp⟩
    · exact .rep (fun H' p => p.1) rp e2
    · exact .at_ (fun H' p u hu n => by cases r.ext.back ho hu n; exact p.2.1 _ _ ho n) rp e2
  | some m =>
    rw [eg] at ok
    cases m with
    | own => exact absurd eg hm.1
    | lol => exact absurd eg hm.2
    | frz => exact .rep (fun H' p => p.1) ok e2
    | brw =>
      rcases ok with rp | ⟨x, rfl, ⟨o, ho⟩, rp⟩
      · exact .rep (fun H' p => p.1) rp e2
      · exact .at_ (fun H' p u hu n => by cases r.ext.back ho hu n; exact p.2.1 _ _ ho n) rp e2
theorem di_rep (hK : X.K = T.K) (hq : q ≠ .dirty) (ha : DE X T Γ XE q a fa) (hx : ∀ env c fs, fa env ≠ .exc c fs) : DI X T Γ XE st tg a fun env => (fa env).bind fun x => ofO x.seq := by
  obtain ⟨t, pa, sa⟩ := ha
  exact di_src hK pa (src_rep hq sa) hx
theorem di_any (hK : X.K = T.K) (ha : DE X T Γ XE q a fa) (hx : ∀ env c fs, fa env ≠ .exc c fs) : DI X T Γ XE false tg a fun env => (fa env).bind fun x => ofO x.seq := by
  obtain ⟨t, pa, sa⟩ := ha
  exact di_src hK pa (src_any sa) hx
theorem di_var {i : Nat} {x : Str} (hK : X.K = T.K) (hm : NoO Γ i) (hN : X.N[i]? = some x) (hv : Vis X.env.scope x) (hd : (x == ("__debug__" : Str)) = false) (hcd : (x == ("__classdict__" : Str)) = false) : DI X T Γ XE st tg (.Name x pos) fun env => (getV env i).bind fun x => ofO x.seq :=
  di_src hK (pe_var hN hv hd hcd) (src_brw hm) fun env c fs z => by unfold getV at z; split at z <;> cases z
/-! ### ranges -/
theorem itOk_range {F1 : Addr → Prop} {P : Hp → Prop} (lo hi : Int) : ItOk T (Itr lo (hi - lo).toNat) ((List.range (hi - lo).toNat).map fun k => .int (lo + (k : Nat))) F1 P := by
  refine ⟨fun _ => True, _, by rw [List.length_map, List.length_range]; exact walk_range, fun _ _ => trivial, fun i H v H' F hi hp hF' y => ?_⟩
  obtain ⟨rfl, rfl⟩ := y
  rw [List.length_map, List.length_range] at hi
  exact ⟨F, _, Ext.refl _ _, by rw [List.getElem?_map, List.getElem?_range hi]; rfl, .int _⟩
theorem itOk_rangeR {F1 : Addr → Prop} {P : Hp → Prop} (n : Int) : ItOk T (Itc (0 + (((n - 0).toNat : Nat) : Int) - 1) (-1) (n - 0).toNat) ((List.range (n - 0).toNat).map fun k => D.int (0 + (k : Nat))).reverse F1 P := by
  refine ⟨fun _ => True, _, by rw [List.length_reverse, List.length_map, List.length_range]; exact walk_rangeC, fun _ _ => trivial, fun i H v H' F hi hp hF' y => ?_⟩
  obtain ⟨rfl, rfl⟩ := y
  rw [List.length_reverse, List.length_map, List.length_range] at hi
  refine ⟨F, .int (0 + ((n - 0).toNat : Nat) - 1 + (i : Nat) * -1), Ext.refl _ _, ?_, .int _⟩
  rw [List.getElem?_reverse (by simpa using hi), List.getElem?_map, List.length_map, List.length_range, List.getElem?_range (by omega)]
  simp only [Option.map_some]
  congr 2
  omega
theorem rangeD_ok {lo hi : Int} {ds : List D} (h : rangeD lo hi = .ok ds) : -(2 ^ 62) ≤ lo ∧ lo < 2 ^ 62 ∧ -(2 ^ 62) ≤ hi ∧ hi < 2 ^ 62 ∧ ds = (List.range (hi - lo).toNat).map fun k => .int (lo + (k : Nat)) := by
  unfold rangeD at h
  split at h
  · rename_i hc
    simp only [Bool.and_eq_true, decide_eq_true_eq] at hc
    injection h with h
    exact ⟨hc.1.1.1, hc.1.1.2, hc.1.2, hc.2, h.symm⟩
  · cases h
theorem rangeD_nx (lo hi : Int) : ∀ c fs, rangeD lo hi ≠ .exc c fs := by
  intro c fs; unfold rangeD; split <;> (intro z; cases z)
theorem di_range1 {p : Pos} (hg : Gl X "range") (hm : X.mg "range" = none) (hp : plainArg a = true) (ha : DE X T Γ XE q a fa) : DI X T Γ XE st tg (.Call (.Name "range" p) [a] [] pos) fun env => (fa env).bind fun x => x.asI.bind fun n => rangeD 0 n := by
  obtain ⟨t, pa, sa⟩ := ha
  refine ⟨_, pi_range1 hg hm (pa_cons pa pa_nil (starEach_cons hp)) (starEach_cons hp), fun H0 F0 σ H F env RR r h => ?_⟩
  refine sa.top (P := fun ds => ∀ F1 H1 J, Ext F H F1 H1 → ItOk T J ds F1 (Kp st H0 F1 H1) → RR J H1) r h fun d1 F1 H1 v1 x1 t1 r1 h1 => ?_
  cases e : d1.asI with
  | exc c fs => exact absurd e (asI_nx _ _ _)
  | bad => rw [e] at h1; exact h1.elim
  | ok n =>
    rw [e, Ev.R.bind_ok] at h1
    cases asI_ok e
    cases e2 : rangeD 0 n with
    | exc c fs => exact absurd e2 (rangeD_nx _ _ _ _)
    | bad => rw [e2] at h1; exact h1.elim
    | ok ds =>
      rw [e2] at h1
      obtain ⟨b1, b2, b3, b4, rfl⟩ := rangeD_ok e2
      cases t1.int
      refine ⟨n, rfl, b3, b4, ?_⟩
      have := itOk_range (T := T) (F1 := F1) (P := Kp st H0 F1 H1) 0 n
      rw [Int.sub_zero] at this
      exact (show ∀ F1 H1 J, _ from h1) F1 H1 _ x1 (by rw [Int.sub_zero]; exact this)
theorem di_range2 {p : Pos} (hg : Gl X "range") (hm : X.mg "range" = none) (hp : plainArg a = true) (hp2 : plainArg b = true) (ha : DE X T Γ XE qa a fa) (hb : DE X T Γ XE qb b fb) : DI X T Γ XE st tg (.Call (.Name "range" p) [a, b] [] pos) fun env => (fa env).bind fun x => (fb env).bind fun y => x.asI.bind fun i => y.asI.bind fun j => rangeD i j := by
  obtain ⟨ta, pa, sa⟩ := ha
  obtain ⟨tb, pb, sb⟩ := hb
  refine ⟨_, pi_range2 hg hm (pa_cons pa (pa_cons pb pa_nil (starEach_cons hp2)) (starEach_cons hp)) (by rw [starEach_cons hp, starEach_cons hp2]; rfl) (starEach_cons hp2), fun H0 F0 σ H F env RR r h => ?_⟩
  refine sa.top (P := fun ds => ∀ F1 H1 J, Ext F H F1 H1 → ItOk T J ds F1 (Kp st H0 F1 H1) → RR J H1) r h fun d1 F1 H1 v1 x1 t1 r1 h1 => ?_
  refine sb.top r1 h1 fun d2 F2 H2 v2 x2 t2 r2 h2 => ?_
  cases e : d1.asI with
  | exc c fs => exact absurd e (asI_nx _ _ _)
  | bad => rw [e] at h2; exact h2.elim
  | ok i =>
    rw [e, Ev.R.bind_ok] at h2
    cases asI_ok e
    cases e' : d2.asI with
    | exc c fs => exact absurd e' (asI_nx _ _ _)
    | bad => rw [e'] at h2; exact h2.elim
    | ok j =>
      rw [e', Ev.R.bind_ok] at h2
      cases asI_ok e'
      cases e2 : rangeD i j with
      | exc c fs => exact absurd e2 (rangeD_nx _ _ _ _)
      | bad => rw [e2] at h2; exact h2.elim
      | ok ds =>
        rw [e2] at h2
        obtain ⟨b1, b2, b3, b4, rfl⟩ := rangeD_ok e2
        cases t1.int
        cases t2.int
        exact ⟨i, j, rfl, ⟨b1, b2, b3, b4⟩, (show ∀ F1 H1 J, _ from h2) F2 H2 _ (x1.trans x2) (itOk_range i j)⟩
end
end Ev

set_option maxHeartbeats 2000000
namespace Ev
open PySem PySem.Spec PyProof.Rows L2
variable [Tbs]
def setM (Γ : List Mo) (m : Mo) : List Nat → List Mo
  | [] => Γ
  | v :: vs => (setM Γ m vs).set v m
section
variable {T : Tab} {Γ Γ' : List Mo} {H0 H H' : Hp} {F0 F F' : Addr → Prop} {env : Ev} {σ : St} {v : V} {d : D} {m : Mo}
theorem getElem?_set_cases {α : Type} {l : List α} {i j : Nat} {a b : α} (h : (l.set i a)[j]? = some b) : (i = j ∧ a = b ∧ i < l.length) ∨ (i ≠ j ∧ l[j]? = some b) := by
  by_cases e : i = j
  · subst e
    rw [List.getElem?_set_self'] at h
    cases e2 : l[i]? with
    | none => rw [e2] at h; cases h
    | some x =>
      rw [e2] at h
      exact .inl ⟨rfl, Option.some.inj h, (List.getElem?_eq_some_iff.mp e2).1⟩
  · rw [List.getElem?_set_ne e] at h
    exact .inr ⟨e, h⟩
/-- a slot forgotten; its mode may change then -/
theorem SR.drop (s : SR T Γ H0 F0 F H env σ) (i : Nat) (m : Mo) : SR T (Γ.set i m) H0 F0 F H (env.set i none) (σ.set i none) where
  len := by rw [List.length_set, List.length_set]; exact s.len
  slot := fun j d e => by
    rcases getElem?_set_cases e with ⟨_, e, _⟩ | ⟨ne, e⟩
    · cases e
    · obtain ⟨v, hv, ok⟩ := s.slot j d e
      refine ⟨v, by rw [List.getElem?_set_ne ne]; exact hv, ?_⟩
      rw [List.getD_eq_getElem?_getD, List.getElem?_set_ne ne, ← List.getD_eq_getElem?_getD]
      exact ok
  sep := fun j k a hj hk => by
    have un : ∀ j, Owns H (Γ.set i m) (env.set i none) (σ.set i none) j a → Owns H Γ env σ j a := by
      intro j h
      by_cases e : i = j
      · subst e
        obtain ⟨d, e⟩ := h.held
        rcases getElem?_set_cases e with ⟨_, e, _⟩ | ⟨ne, _⟩
        · cases e
        · exact absurd rfl ne
      · exact h.same (List.getElem?_set_ne e) (List.getElem?_set_ne e) (List.getElem?_set_ne e)
    exact s.sep j k a (un j hj) (un k hk)
  ext := s.ext
  dom := s.dom
  tabs := s.tabs
/-- a slot is given a frozen value -/
theorem SR.setF (s : SR T Γ H0 F0 F H env σ) (i : Nat) (r : Rep T H F v d) (hm : NoO Γ i) : SR T Γ H0 F0 F H (env.set i (some d)) (σ.set i (some v)) where
  len := by rw [List.length_set, List.length_set]; exact s.len
  slot := fun j d' e => by
    rcases getElem?_set_cases e with ⟨rfl, e, hl⟩ | ⟨ne, e⟩
    · cases e
      refine ⟨v, List.getElem?_set_self (by rw [← s.len]; exact hl), ?_⟩
      rw [List.getD_eq_getElem?_getD]
      cases e : Γ[i]? with
      | none => exact .inl r
      | some m =>
        cases m with
        | own => exact absurd e hm.1
        | lol => exact absurd e hm.2
        | frz => exact r
        | brw => exact .inl r
    · obtain ⟨v, hv, ok⟩ := s.slot j d' e
      exact ⟨v, by rw [List.getElem?_set_ne ne]; exact hv, ok⟩
  sep := fun j k a hj hk => by
    have un : ∀ j, Owns H Γ (env.set i (some d)) (σ.set i (some v)) j a → Owns H Γ env σ j a := by
      intro j h
      by_cases e : i = j
      · subst e
        rcases h.mode with z | z
        · exact absurd z hm.1
        · exact absurd z hm.2
      · exact h.same rfl (List.getElem?_set_ne e) (List.getElem?_set_ne e)
    exact s.sep j k a (un j hj) (un k hk)
  ext := s.ext
  dom := s.dom
  tabs := s.tabs
/-- a slot is given a new cell of its own, or a value without one -/
theorem SR.setO (s : SR T Γ H0 F0 F H env σ) (i : Nat) (hm : Γ[i]? = some .own) (r : if d.cell = true then ∃ a, v = .ref a ∧ H0 a = none ∧ ¬ F a ∧ At T H F a d ∧ ∀ j, j ≠ i → ¬ Owns H Γ env σ j a else Rep T H F v d) :
    SR T Γ H0 F0 F H (env.set i (some d)) (σ.set i (some v)) where
  len := by rw [List.length_set, List.length_set]; exact s.len
  slot := fun j d' e => by
    rcases getElem?_set_cases e with ⟨rfl, e, hl⟩ | ⟨ne, e⟩
    · cases e
      refine ⟨v, List.getElem?_set_self (by rw [← s.len]; exact hl), ?_⟩
      rw [List.getD_eq_getElem?_getD, hm]
      show if d.cell = true then _ else _
      split at r
      · rename_i hc
        rw [if_pos hc]
        obtain ⟨a, h1, h2, h3, h4, _⟩ := r
        exact ⟨a, h1, h2, h3, h4⟩
      · rename_i hc
        rw [if_neg hc]
        exact r
    · obtain ⟨v, hv, ok⟩ := s.slot j d' e
      exact ⟨v, by rw [List.getElem?_set_ne ne]; exact hv, ok⟩
  sep := fun j k a hj hk => by
    have un : ∀ j, i ≠ j → Owns H Γ (env.set i (some d)) (σ.set i (some v)) j a → Owns H Γ env σ j a := fun j e h => h.same rfl (List.getElem?_set_ne e) (List.getElem?_set_ne e)
    have at_ : Owns H Γ (env.set i (some d)) (σ.set i (some v)) i a → ∀ j, j ≠ i → ¬ Owns H Γ env σ j a := by
      rintro (⟨h1, h2, d', h3, h4⟩ | ⟨h1, _⟩) j hji
      · rcases getElem?_set_cases h3 with ⟨_, e, _⟩ | ⟨ne, _⟩
        · cases e
          rcases getElem?_set_cases h2 with ⟨_, e, _⟩ | ⟨ne, _⟩
          · injection e with e
            subst e
            rw [if_pos h4] at r
            obtain ⟨a', e', _, _, _, h5⟩ := r
            cases e'
            exact h5 j hji
          · exact absurd rfl ne
        · exact absurd rfl ne
      · rw [hm] at h1; cases h1
    by_cases ej : i = j
    · by_cases ek : i = k
      · rw [← ej, ← ek]
      · subst ej
        exact absurd (un k ek hk) (at_ hj k (Ne.symm ek))
    · by_cases ek : i = k
      · subst ek
        exact absurd (un j ej hj) (at_ hk j (Ne.symm ej))
      · exact s.sep j k a (un j ej hj) (un k ek hk)
  ext := s.ext
  dom := s.dom
  tabs := s.tabs
theorem SR.wipe (s : SR T Γ H0 F0 F H env σ) (m : Mo) : ∀ vs : List Nat, SR T (setM Γ m vs) H0 F0 F H (wipeE env vs) (L2.wipe σ vs)
  | [] => s
  | v :: vs => (SR.wipe s m vs).drop v m
end
/-- a target of a loop, of an assignment: it takes a frozen value -/
def SimG (T : Tab) (Γ : List Mo) (g : TG) (t : Tg) : Prop :=
  ∀ (H0 : Hp) (F0 : Addr → Prop) (σ : St) (H : Hp) (F : Addr → Prop) (env : Ev) (v : V) (d : D) (env' : Ev) (Q : St → Hp → Prop), SR T Γ H0 F0 F H env σ → Rep T H F v d → bindT t d env = .ok env' →
    (∀ σ', SR T Γ H0 F0 F H env' σ' → (∀ vs : List Nat, (∀ i ∈ (match t with | .one i => [i] | .many is => is), i ∈ vs) → L2.wipe σ' vs = L2.wipe σ vs) → Q σ' H) → g v σ H Q
theorem wipe_set {σ : St} {i : Nat} {x : Option V} : ∀ {vs : List Nat}, i ∈ vs → L2.wipe (σ.set i x) vs = L2.wipe σ vs
  | v :: vs, h => by
    unfold L2.wipe
    by_cases hv : i ∈ vs
    · rw [wipe_set hv]
    · have e : i = v := by
        rcases List.mem_cons.mp h with e | h
        · exact e
        · exact absurd h hv
      subst e
      have all : ∀ vs : List Nat, i ∉ vs → L2.wipe (σ.set i x) vs = (L2.wipe σ vs).set i x := by
        intro vs
        induction vs with
        | nil => intro _; rfl
        | cons w ws ih =>
          intro hn
          unfold L2.wipe
          rw [ih fun z => hn (List.mem_cons_of_mem _ z), List.set_comm]
          exact fun z => hn (by rw [z]; exact List.mem_cons_self)
      rw [all vs hv, List.set_set]
theorem simG_one {T : Tab} {Γ : List Mo} {i : Nat} (hm : NoO Γ i) : SimG T Γ (gName i) (.one i) := by
  intro H0 F0 σ H F env v d env' Q s r e k
  injection e with e
  subst e
  exact k _ (s.setF i r hm) fun vs h => wipe_set (h i (by simp))
theorem simGs {T : Tab} {Γ : List Mo} : ∀ (is : List Nat) (_ : ∀ i ∈ is, NoO Γ i) (H0 : Hp) (F0 : Addr → Prop) (σ : St) (H : Hp) (F : Addr → Prop) (env : Ev) (vs : List V) (ds : List D) (env' : Ev) (Q : St → Hp → Prop), SR T Γ H0 F0 F H env σ → Reps T H F vs ds → bindMany is ds env = .ok env' →
    (∀ σ', SR T Γ H0 F0 F H env' σ' → (∀ ws : List Nat, (∀ i ∈ is, i ∈ ws) → L2.wipe σ' ws = L2.wipe σ ws) → Q σ' H) → is.foldr (fun i t => gCons (gName i) t) gNil vs σ H Q
  | [], _, H0, F0, σ, H, F, env, vs, ds, env', Q, s, r, e, k => by
    cases ds with
    | nil =>
      cases r
      injection e with e; subst e
      exact ⟨rfl, k σ s fun _ _ => rfl⟩
    | cons _ _ => cases e
  | i :: is, hm, H0, F0, σ, H, F, env, vs, ds, env', Q, s, r, e, k => by
    cases ds with
    | nil => cases e
    | cons d ds =>
      cases r with
      | cons rv rt =>
        refine ⟨_, _, rfl, ?_⟩
        refine simGs is (fun j hj => hm j (by simp [hj])) H0 F0 _ H F (env.set i (some d)) _ ds env' Q (s.setF i rv (hm i (by simp))) rt e fun σ' s' w => ?_
        refine k σ' s' fun ws h => ?_
        rw [w ws fun j hj => h j (by simp [hj]), wipe_set (h i (by simp))]
theorem Rep.tup' {T : Tab} {H : Hp} {F : Addr → Prop} {v : V} {ds : List D} (h : Rep T H F v (.tup ds)) : ∃ a vs, v = .ref a ∧ H a = some (.tup vs) ∧ Reps T H F vs ds := by
  cases h with
  | tup s e r => exact ⟨_, _, rfl, e, r⟩
theorem Rep.lst' {T : Tab} {H : Hp} {F : Addr → Prop} {v : V} {ds : List D} (h : Rep T H F v (.lst ds)) : ∃ a vs, v = .ref a ∧ H a = some (.lst vs) ∧ Reps T H F vs ds := by
  cases h with
  | lst s e r => exact ⟨_, _, rfl, e, r⟩
/-- (a, b, ..) = a tuple, or a list -/
def gTL (K : PySem.W.Frag) (n : Nat) (t : TGs) : TG := fun v σ H Q => gTup K n t v σ H Q ∨ gUnl K n t v σ H Q
theorem pg_tl {X : Cx} {es : List Expr} {k : Nat} {t : TGs} {n : Nat} {pos : Pos} (hc : X.calm = true) (h : PGs X es t)
    (hn : (assignEach es X.env).length = n) (hst : (assignEach es X.env).findIdx? (·.1) = none) : PG X (.Tuple es k pos) (gTL X.K n t) :=
  ⟨fun pins s σ H v u Q I r hw => hw.elim ((pg_tup (k := k) (pos := pos) hc h hn hst).run pins s σ H v u Q I r) ((pg_unl (k := k) (pos := pos) hc h hn hst).run pins s σ H v u Q I r)⟩
theorem simG_many {T : Tab} {Γ : List Mo} {is : List Nat} (hm : ∀ i ∈ is, NoO Γ i) (hn : ∀ (ds : List D) (env env' : Ev), bindMany is ds env = .ok env' → ds.length = is.length) : SimG T Γ (gTL T.K is.length (is.foldr (fun i t => gCons (gName i) t) gNil)) (.many is) := by
  intro H0 F0 σ H F env v d env' Q s r e k
  cases d with
  | tup ds =>
    obtain ⟨a, vs, rfl, h1, h2⟩ := r.tup'
    refine .inl ⟨a, vs, rfl, SqT.of h1, by rw [h2.length]; exact hn ds env env' e, ?_⟩
    exact simGs is hm H0 F0 σ H F env vs ds env' Q s h2 e k
  | lst ds =>
    obtain ⟨a, vs, rfl, h1, h2⟩ := r.lst'
    refine .inr ⟨a, vs, rfl, SqL.of h1, by rw [h2.length]; exact hn ds env env' e, ?_⟩
    exact simGs is hm H0 F0 σ H F env vs ds env' Q s h2 e k
  | _ => cases e
theorem bindMany_len : ∀ (is : List Nat) (ds : List D) (env env' : Ev), bindMany is ds env = .ok env' → ds.length = is.length
  | [], [], _, _, _ => rfl
  | [], _ :: _, _, _, h => by cases h
  | _ :: _, [], _, _, h => by cases h
  | i :: is, d :: ds, env, env', h => congrArg (· + 1) (bindMany_len is ds _ _ h)
/-- targets and their rules -/
def DG (X : Cx) (T : Tab) (Γ : List Mo) (e : Expr) (t : Tg) : Prop := ∃ g, PG X e g ∧ SimG T Γ g t
section
variable {ι : Type} {X : ι → Cx} {T : Tab} {Γ : List Mo} {XE : XT} {q : Qu} {e : Expr} {f : Ev → R D}
/-- one reading for many contexts -/
theorem de_unif (h : ∀ i, DE (X i) T Γ XE q e f) : ∃ t, (∀ i, PE (X i) e t) ∧ SimE T Γ XE q t f := by
  refine ⟨fun σ H Q => ∀ i, (h i).choose σ H Q, fun i => ⟨fun pins s σ H Q I hq => (h i).choose_spec.1.run pins s σ H Q I (hq i)⟩, fun H0 F0 σ H F env Q r hw i => ?_⟩
  exact (h i).choose_spec.2 H0 F0 σ H F env Q r hw
theorem dt_unif (h : ∀ i, DT (X i) T Γ XE e f) : ∃ t, (∀ i, PT (X i) e t) ∧ SimT T Γ XE t fun env => (f env).bind truthD := by
  refine ⟨fun σ H Q => ∀ i, (h i).choose σ H Q, fun i => ⟨fun pins s σ H Q I hq => (h i).choose_spec.1.run pins s σ H Q I (hq i)⟩, fun H0 F0 σ H F env Q r hw i => ?_⟩
  exact (h i).choose_spec.2 H0 F0 σ H F env Q r hw
theorem dg_unif {t : Tg} (h : ∀ i, DG (X i) T Γ e t) : ∃ g, (∀ i, PG (X i) e g) ∧ SimG T Γ g t := by
  refine ⟨fun v σ H Q => ∀ i, (h i).choose v σ H Q, fun i => ⟨fun pins s σ H v u Q I r hq => (h i).choose_spec.1.run pins s σ H v u Q I r (hq i)⟩, fun H0 F0 σ H F env v d env' Q s r e k i => ?_⟩
  exact (h i).choose_spec.2 H0 F0 σ H F env v d env' Q s r e k
end
end Ev

set_option maxHeartbeats 2000000
namespace Ev
open PySem PySem.Spec PyProof.Rows L2
variable [Tbs]
theorem noExc_ok {α : Type} {r : Ev.R α} {a : α} (h : noExc r = .ok a) : r = .ok a := by
  cases r <;> first | exact h | cases h
theorem noExc_nx {α : Type} (r : Ev.R α) : ∀ c fs, noExc r ≠ .exc c fs := by
  intro c fs; cases r <;> (intro z; cases z)
theorem asB_of_wp {d : D} {k : Bool} (h : d.asB = .ok k) : truthD d = .ok k := asB_truth d k h
def tgSlots : Tg → List Nat
  | .one i => [i]
  | .many is => is
section
variable {X : Cx} {T : Tab} {Γ : List Mo} {XE : XT} {q : Qu} {pos : Pos} {elt tg iter : Expr} {ifs : List Expr} {scope : Scope} {own : List (Str × Nat)} {t : Tg} {fI : Ev → Ev.R (List D)} {fc fe : Ev → Ev.R D}
theorem compL_cons {b : D → Ev.R Ev} {c f : Ev → Ev.R D} {d : D} {ds xs : List D} (h : compL b c f (d :: ds) = .ok xs) : ∃ env k, b d = .ok env ∧ c env = .ok (.bl k) ∧
    ((k = true ∧ ∃ x r, f env = .ok x ∧ compL b c f ds = .ok r ∧ xs = x :: r) ∨ (k = false ∧ compL b c f ds = .ok xs)) := by
  unfold compL at h
  obtain ⟨env, e1, h1⟩ := bind_ok_of h
  obtain ⟨kd, e2, h2⟩ := bind_ok_of h1
  obtain ⟨k, e3, h3⟩ := bind_ok_of h2
  clear h h1 h2
  cases asB_bl e3
  refine ⟨env, k, e1, e2, ?_⟩
  cases k with
  | true =>
    obtain ⟨x, e4, h4⟩ := bind_ok_of h3
    obtain ⟨r, e5, h5⟩ := bind_ok_of h4
    injection h5 with h5
    exact .inl ⟨rfl, x, r, e4, e5, h5.symm⟩
  | false => exact .inr ⟨rfl, h3⟩
/-- the reading of a comprehension -/
theorem simLc {wi : TI} {g : TG} {tt : TT} {te : TE} {vs : List Nat} (si : SimI T Γ XE false wi fI) (sg : SimG T (setM Γ .frz vs) g t) (sc : SimT T (setM Γ .frz vs) NoXE tt fun env => (fc env).bind truthD) (se : SimE T (setM Γ .frz vs) NoXE q te fe) (hq : q ≠ .dirty) (hv : ∀ i ∈ tgSlots t, i ∈ vs) :
    SimE T Γ XE .fresh (tLc wi g tt te vs) fun env => (fI env).bind fun ds => noExc ((compL (fun d => bindT t d (wipeE env vs)) fc fe ds).bind fun xs => if xs.length ≤ 16777216 then .ok (.lst xs) else .bad) := by
  intro H0 F0 σ H F env Q r h
  refine si H0 F0 σ H F env _ r (wpR_mono (wpR_bind h) (fun ds hd F1 H1 J x1 it => ?_) fun _ _ z => z)
  have r1 := r.ext' x1
  cases e : noExc ((compL (fun d => bindT t d (wipeE env vs)) fc fe ds).bind fun xs => if xs.length ≤ 16777216 then .ok (D.lst xs) else .bad) with
  | exc c fs => exact absurd e (noExc_nx _ _ _)
  | bad => rw [e] at hd; exact hd.elim
  | ok dl =>
    rw [e] at hd
    have hd : Go T .fresh F H Q dl := hd
    obtain ⟨xs, e1, e2⟩ := bind_ok_of (noExc_ok e)
    split at e2
    · rename_i hlen
      injection e2 with e2
      subst e2
      intro Dp hD
      obtain ⟨G, Y, w, hG, hY⟩ := it
      -- what holds before the turn i
      let Pv : Nat → Hp → Prop := fun i H' => ∃ F' acc dacc rest, Ext F1 H1 F' H' ∧ ¬ F' Dp ∧ H' Dp = some (.lst acc) ∧ Reps T H' F' acc dacc ∧ compL (fun d => bindT t d (wipeE env vs)) fc fe (ds.drop i) = .ok rest ∧ dacc ++ rest = xs
      have hnF : ¬ F1 Dp := fun z => by obtain ⟨o, eo⟩ := r1.dom _ z; rw [hD] at eo; cases eo
      refine lc_it w Pv ⟨F1, [], [], xs, Ext.laid hD, hnF, upd_same, .nil, by rw [List.drop_zero]; exact e1, rfl⟩ (fun i H' _ ⟨F', acc, dacc, rest, xx, _⟩ => hG H' ⟨fun a o _ h n => xx.keep a o h n, fun a o h n => xx.keep a o (r1.ext.keep a o h n) n, fun _ => xx.keep⟩) ?_ ?_
      · intro i x H' H'' hi ⟨F', acc, dacc, rest, xx, hnD, eD, rp, ec, es⟩ y
        obtain ⟨F'', d, x2, ed, rd⟩ := hY i H' x H'' F' hi ⟨fun a o _ h n => xx.keep a o h n, fun a o h n => xx.keep a o (r1.ext.keep a o h n) n, fun _ => xx.keep⟩ xx.sub y
        have edr : ds.drop i = d :: ds.drop (i + 1) := by
          rw [List.drop_eq_getElem_cons hi]
          rw [List.getElem?_eq_getElem hi] at ed
          rw [Option.some.inj ed]
        rw [edr] at ec
        obtain ⟨env', k, eb, ek, alt⟩ := compL_cons ec
        have rw1 := ((r1.ext' xx).ext' x2).wipe .frz vs
        have hnD2 : ¬ F'' Dp := fun z => by
          rcases x2.new _ z with z | ⟨z, _⟩
          · exact hnD z
          · exact z.no eD (fun _ q => nomatch q)
        have eD2 := x2.keep _ _ eD rfl
        have rp2 := rp.ext x2
        refine sg H0 F0 _ H'' F'' _ x d env' _ rw1 rd eb fun σ2 r2 hw => ?_
        refine ⟨?_, ?_⟩
        · rw [hw vs (by cases t <;> exact hv)]
          have : ∀ ws : List Nat, (∀ i ∈ ws, i ∈ vs) → L2.wipe (L2.wipe σ ws) vs = L2.wipe σ vs := by
            intro ws
            induction ws with
            | nil => intro _; rfl
            | cons w ws ih =>
              intro hw
              show L2.wipe ((L2.wipe σ ws).set w none) vs = _
              rw [wipe_set (hw w (by simp)), ih fun i hi => hw i (by simp [hi])]
          exact this vs fun _ h => h
        · refine sc H0 F0 σ2 H'' F'' env' _ r2 ?_
          show wpR ((fc env').bind truthD) _ _
          rw [ek]
          intro F3 H3 x3
          have r3 := r2.ext' x3
          have hnD3 : ¬ F3 Dp := fun z => by
            rcases x3.new _ z with z | ⟨z, _⟩
            · exact hnD2 z
            · exact z.no eD2 (fun _ q => nomatch q)
          have eD3 := x3.keep _ _ eD2 rfl
          rcases alt with ⟨rfl, xv, rr, ef, er, exs⟩ | ⟨rfl, er⟩
          · simp only [if_true]
            refine se H0 F0 σ2 H3 F3 env' _ r3 ?_
            rw [ef]
            intro F4 H4 v4 x4 rv4
            obtain ⟨F5, x5, _, rp5⟩ := rv4.rep x4 hq
            have hnD5 : ¬ F5 Dp := fun z => by
              rcases x5.new _ z with z | ⟨z, _⟩
              · exact hnD3 z
              · exact z.no eD3 (fun _ q => nomatch q)
            have eD5 := x5.keep _ _ eD3 rfl
            have rpa := (rp2.ext x3).ext x5
            have keepF : ∀ a o, F5 a → H4 a = some o → isT o = false → upd H4 Dp (.lst (acc ++ [v4])) a = some o := fun a o ha ho _ => by
              rw [upd_ne (fun z => hnD5 (by rw [← z]; exact ha))]
              exact ho
            refine ⟨acc, eD5, ?_, F5, acc ++ [v4], dacc ++ [xv], rr, ?_, hnD5, upd_same, ?_, er, ?_⟩
            · rw [sizeLine_eq, rp.length]
              have : xs.length = dacc.length + rest.length := by rw [← es, List.length_append]
              rw [exs, List.length_cons] at this
              omega
            · have xx5 := ((xx.trans x2).trans x3).trans x5
              exact xx5.over hD hnD5 eD5 rfl (fun _ z => nomatch z)
            · exact (rpa.mono (fun _ h => h) keepF).append (.cons (rp5.mono (fun _ h => h) keepF) .nil)
            · rw [← es, exs, List.append_assoc]; rfl
          · simp only [Bool.false_eq_true, if_false]
            exact ⟨F3, acc, dacc, rest, (xx.trans x2).trans x3, hnD3, eD3, rp2.ext x3, er, es⟩
      · intro H' ⟨F', acc, dacc, rest, xx, hnD, eD, rp, ec, es⟩
        rw [List.drop_length] at ec
        unfold compL at ec
        injection ec with ec
        subst ec
        rw [List.append_nil] at es
        subst es
        refine hd F' H' _ (x1.trans xx) ?_
        unfold ResOk
        simp only
        rw [if_pos (show (D.lst dacc).cell = true from rfl)]
        refine ⟨Dp, rfl, ?_, hnD, .lst eD rp⟩
        exact x1.non _ hD
    · cases e2
end
end Ev

set_option maxHeartbeats 2000000
namespace Ev
open PySem PySem.Spec PyProof.Rows L2
variable [Tbs]
/-- what is frozen stays -/
def Fz (F : Addr → Prop) (H : Hp) (F' : Addr → Prop) (H' : Hp) : Prop := (∀ a, F a → F' a) ∧ ∀ a o, F a → H a = some o → isT o = false → H' a = some o
theorem Fz.refl (F : Addr → Prop) (H : Hp) : Fz F H F H := ⟨fun _ h => h, fun _ _ _ h _ => h⟩
theorem Fz.trans {F F1 F2 : Addr → Prop} {H H1 H2 : Hp} (a : Fz F H F1 H1) (b : Fz F1 H1 F2 H2) : Fz F H F2 H2 := ⟨fun x h => b.1 x (a.1 x h), fun x o h e n => b.2 x o (a.1 x h) (a.2 x o h e n) n⟩
theorem Ext.fz {F F' : Addr → Prop} {H H' : Hp} (x : Ext F H F' H') : Fz F H F' H' := ⟨x.sub, fun a o _ h n => x.keep a o h n⟩
def leMo : Mo → Mo → Bool
  | .own, .lol => false
  | .own, _ => true
  | .lol, .lol => true
  | .frz, .frz => true
  | .frz, .brw => true
  | .brw, .brw => true
  | _, _ => false
def wkM : List Mo → List Mo → Bool
  | [], [] => true
  | a :: r, b :: s => leMo a b && wkM r s
  | _, _ => false
section
variable {T : Tab} {Γ Γ' : List Mo} {H0 H H' : Hp} {F0 F F' : Addr → Prop} {env : Ev} {σ : St} {v : V} {d : D} {m : Mo}
theorem SR.frzO (s : SR T Γ H0 F0 F H env σ) (i : Nat) (hm : Γ[i]? = some .own ∨ Γ[i]? = some .lol) : ∃ F', (∀ a, F a → F' a) ∧ SR T (Γ.set i .frz) H0 F0 F' H env σ := by
  have hil : i < Γ.length := hm.elim (fun h => (List.getElem?_eq_some_iff.mp h).1) fun h => (List.getElem?_eq_some_iff.mp h).1
  have hset : (Γ.set i .frz)[i]? = some .frz := List.getElem?_set_self hil
  refine ⟨fun b => F b ∨ Owns H Γ env σ i b, fun b h => .inl h, s.len, fun j dj ej => ?_, fun j k b hj hk => ?_, ⟨s.ext.keep, s.ext.tb, fun b h => .inl (s.ext.sub b h), fun b h => ?_, s.ext.tabs⟩, fun b h => ?_, s.tabs⟩
  · obtain ⟨w, hw, ok⟩ := s.slot j dj ej
    refine ⟨w, hw, ?_⟩
    by_cases hij : i = j
    · subst hij
      rw [List.getD_eq_getElem?_getD, hset]
      show Rep T H _ w dj
      rw [List.getD_eq_getElem?_getD] at ok
      rcases hm with hm | hm
      · rw [hm] at ok
        unfold SlotOk at ok
        simp only [Option.getD_some] at ok
        split at ok
        · rename_i hc
          obtain ⟨a, e, _, _, hat⟩ := ok
          subst e
          exact (hat.mono (fun b h => .inl h) (fun _ _ _ h _ => h) fun _ h _ => h).rep (.inr (.inl ⟨hm, hw, dj, ej, hc⟩))
        · exact ok.mono (fun b h => .inl h) fun _ _ _ h _ => h
      · rw [hm] at ok
        obtain ⟨a, vs, ds, e1, e2, _, _, ha, hn, hi⟩ := ok
        subst e1; subst e2
        refine .lst (.inr (.inr ⟨hm, a, hw, ⟨_, ej⟩, .inl rfl⟩)) ha ?_
        have own : ∀ b, V.ref b ∈ vs → F b ∨ Owns H Γ env σ i b := fun b hb => .inr (.inr ⟨hm, a, hw, ⟨_, ej⟩, .inr ⟨vs, ha, hb⟩⟩)
        clear ha ej hw hn
        induction hi with
        | nil => exact .nil
        | @cons b d vs ds h0 hf r _ _ ih =>
          exact .cons ((r.mono (fun b h => .inl h) (fun _ _ _ h _ => h) fun _ h _ => h).rep (own b List.mem_cons_self)) (ih fun b hb => own b (List.mem_cons_of_mem _ hb))
    · rw [List.getD_eq_getElem?_getD, List.getElem?_set_ne hij, ← List.getD_eq_getElem?_getD]
      refine ok.grow (fun b h => .inl h) (fun _ _ _ h _ => h) (fun _ _ _ _ h _ => h) fun b ho => ⟨?_, fun _ h _ => h⟩
      rintro (z | z)
      · exact (ok.owned ho).2.1 z
      · exact hij (s.sep i j b z (ho.owns ej hw rfl))
  · have un : ∀ j, Owns H (Γ.set i .frz) env σ j b → Owns H Γ env σ j b := by
      intro j h
      by_cases e : i = j
      · subst e
        rcases h.mode with z | z
        · rw [hset] at z; cases z
        · rw [hset] at z; cases z
      · exact h.same (List.getElem?_set_ne e) rfl rfl
    exact s.sep j k b (un j hj) (un k hk)
  · rcases h with h | h
    · exact s.ext.new b h
    · obtain ⟨h0, _, ho⟩ := h.facts s
      exact .inr ⟨.inl h0, ho⟩
  · rcases h with h | h
    · exact s.dom b h
    · exact (h.facts s).2.2
theorem SR.brwO (s : SR T Γ H0 F0 F H env σ) (i : Nat) (hm : Γ[i]? = some .frz) : SR T (Γ.set i .brw) H0 F0 F H env σ := by
  have hil : i < Γ.length := (List.getElem?_eq_some_iff.mp hm).1
  have hset : (Γ.set i .brw)[i]? = some .brw := List.getElem?_set_self hil
  refine ⟨s.len, fun j dj ej => ?_, fun j k b hj hk => ?_, s.ext, s.dom, s.tabs⟩
  · obtain ⟨w, hw, ok⟩ := s.slot j dj ej
    refine ⟨w, hw, ?_⟩
    by_cases hij : i = j
    · subst hij
      rw [List.getD_eq_getElem?_getD, hset]
      rw [List.getD_eq_getElem?_getD, hm] at ok
      exact .inl ok
    · rw [List.getD_eq_getElem?_getD, List.getElem?_set_ne hij, ← List.getD_eq_getElem?_getD]
      exact ok
  · have un : ∀ j, Owns H (Γ.set i .brw) env σ j b → Owns H Γ env σ j b := by
      intro j h
      by_cases e : i = j
      · subst e
        rcases h.mode with z | z
        · rw [hset] at z; cases z
        · rw [hset] at z; cases z
      · exact h.same (List.getElem?_set_ne e) rfl rfl
    exact s.sep j k b (un j hj) (un k hk)
theorem set_self_mo {Γ : List Mo} {i : Nat} {m : Mo} (h : Γ[i]? = some m) : Γ.set i m = Γ := by
  apply List.ext_getElem?
  intro j
  by_cases e : i = j
  · subst e
    rw [List.getElem?_set_self (List.getElem?_eq_some_iff.mp h).1, h]
  · rw [List.getElem?_set_ne e]
theorem SR.mode (s : SR T Γ H0 F0 F H env σ) (i : Nat) {m m' : Mo} (hm : Γ[i]? = some m) (hl : leMo m m' = true) : ∃ F', (∀ a, F a → F' a) ∧ SR T (Γ.set i m') H0 F0 F' H env σ := by
  cases m with
  | own =>
    cases m' with
    | own => exact ⟨F, fun _ h => h, by rw [set_self_mo hm]; exact s⟩
    | lol => cases hl
    | frz => exact s.frzO i (.inl hm)
    | brw =>
      obtain ⟨F', h1, s1⟩ := s.frzO i (.inl hm)
      have := s1.brwO i (List.getElem?_set_self (List.getElem?_eq_some_iff.mp hm).1)
      rw [List.set_set] at this
      exact ⟨F', h1, this⟩
  | lol =>
    cases m' with
    | lol => exact ⟨F, fun _ h => h, by rw [set_self_mo hm]; exact s⟩
    | own => cases hl
    | frz => cases hl
    | brw => cases hl
  | frz =>
    cases m' with
    | lol => cases hl
    | own => cases hl
    | frz => exact ⟨F, fun _ h => h, by rw [set_self_mo hm]; exact s⟩
    | brw => exact ⟨F, fun _ h => h, s.brwO i hm⟩
  | brw =>
    cases m' with
    | lol => cases hl
    | own => cases hl
    | frz => cases hl
    | brw => exact ⟨F, fun _ h => h, by rw [set_self_mo hm]; exact s⟩
theorem SR.weak' : ∀ (Γ Γ' P : List Mo) (F : Addr → Prop), wkM Γ Γ' = true → SR T (P ++ Γ) H0 F0 F H env σ → ∃ F', (∀ a, F a → F' a) ∧ SR T (P ++ Γ') H0 F0 F' H env σ
  | [], [], P, F, _, s => ⟨F, fun _ h => h, s⟩
  | [], _ :: _, _, _, h, _ => by cases h
  | _ :: _, [], _, _, h, _ => by cases h
  | a :: r, b :: r', P, F, h, s => by
    unfold wkM at h
    rw [Bool.and_eq_true] at h
    have hi : (P ++ a :: r)[P.length]? = some a := by rw [List.getElem?_append_right (Nat.le_refl _), Nat.sub_self]; rfl
    obtain ⟨F1, h1, s1⟩ := s.mode P.length hi h.1
    have e : (P ++ a :: r).set P.length b = (P ++ [b]) ++ r := by
      rw [List.set_append_right _ _ (Nat.le_refl _), Nat.sub_self, List.append_assoc]; rfl
    rw [e] at s1
    obtain ⟨F2, h2, s2⟩ := SR.weak' r r' (P ++ [b]) F1 h.2 s1
    rw [List.append_assoc] at s2
    exact ⟨F2, fun a h => h2 a (h1 a h), s2⟩
theorem SR.weak (h : wkM Γ Γ' = true) (s : SR T Γ H0 F0 F H env σ) : ∃ F', (∀ a, F a → F' a) ∧ SR T Γ' H0 F0 F' H env σ := SR.weak' Γ Γ' [] F h s
/-- a new cell is owned by no slot -/
theorem Owns.old (s : SR T Γ H0 F0 F H env σ) (x : Ext F H F' H') {i : Nat} {a : Addr} (h : Owns H' Γ env σ i a) : ∃ o, H a = some o := ((h.back s fun c _ _ => x.keep c).facts s).2.2
theorem at_obj {a : Addr} {S : Addr → Prop} (h : At T H S a d) : ∃ u, H a = some u ∧ isT u = false ∧ ∀ φ, u ≠ .ext φ := by
  cases h with
  | lst e r => exact ⟨_, e, rfl, fun _ z => nomatch z⟩
  | dK e r => exact ⟨_, e, rfl, fun _ z => nomatch z⟩
  | dT e r => exact ⟨_, e, rfl, fun _ z => nomatch z⟩
theorem inns_obj {vs : List V} {ds : List D} (h : Inns T H0 F H vs ds) : ∀ b, V.ref b ∈ vs → ∃ u, H b = some u ∧ isT u = false ∧ ∀ φ, u ≠ .ext φ := by
  induction h with
  | nil => intro b hb; cases hb
  | cons h0 hf r _ _ ih =>
    intro b hb
    rcases List.mem_cons.mp hb with e | hb
    · cases e; exact at_obj r
    · exact ih b hb
theorem owns_obj (s : SR T Γ H0 F0 F H env σ) {i : Nat} {b : Addr} (h : Owns H Γ env σ i b) : ∃ u, H b = some u ∧ isT u = false ∧ ∀ φ, u ≠ .ext φ := by
  rcases h with ⟨h1, h2, d, h3, h4⟩ | ⟨h1, a, h2, ⟨d, h3⟩, h4⟩
  · obtain ⟨v, hv, ok⟩ := s.slot i d h3
    rw [h2] at hv; cases hv
    rw [List.getD_eq_getElem?_getD, h1] at ok
    unfold SlotOk at ok
    simp only [Option.getD_some] at ok
    rw [if_pos h4] at ok
    obtain ⟨a, e, _, _, hat⟩ := ok
    cases e
    exact at_obj hat
  · obtain ⟨v, hv, ok⟩ := s.slot i d h3
    rw [h2] at hv; cases hv
    rw [List.getD_eq_getElem?_getD, h1] at ok
    obtain ⟨a', vs, ds, e, _, _, _, ha, _, hi⟩ := ok
    cases e
    rcases h4 with rfl | ⟨ws, e, hm⟩
    · exact ⟨_, ha, rfl, fun _ z => nomatch z⟩
    · rw [ha] at e; cases e
      exact inns_obj hi b hm
/-- a cell of one's own is changed: what that leaves alone -/
theorem SR.keeps (s : SR T Γ H0 F0 F H env σ) {i : Nat} {a : Addr} {d' : D} {o : HO} (ow : Owns H Γ env σ i a) (hi : ∃ w, σ[i]? = some (some w) ∧ SlotOk T H0 F (upd H a o) (Γ.getD i .brw) w d') (hb : ∀ c, Γ[i]? = some .lol → σ[i]? = some (some (.ref c)) → c ≠ a) (hc : Γ[i]? = some .own → d'.cell = true → ∃ d, env[i]? = some (some d) ∧ d.cell = true) :
    SR T Γ H0 F0 F (upd H a o) (env.set i (some d')) σ ∧ Fz F H F (upd H a o) := by
  obtain ⟨h0, hf, _⟩ := ow.facts s
  obtain ⟨u0, ob1, ob2, ob3⟩ := owns_obj s ow
  obtain ⟨d0, hd⟩ := ow.held
  have hil : i < env.length := (List.getElem?_eq_some_iff.mp hd).1
  have ne : ∀ b, F b → b ≠ a := fun b hb z => hf (by rw [← z]; exact hb)
  have kq : ∀ b u, F b → H b = some u → upd H a o b = some u := fun b u hb hu => by rw [upd_ne (ne b hb)]; exact hu
  have kp : ∀ b u, F b → H b = some u → isT u = false → upd H a o b = some u := fun b u hb hu _ => kq b u hb hu
  have kp0 : ∀ b u, H0 b = some u → b ≠ a := fun b u hu z => by rw [z, h0] at hu; cases hu
  refine ⟨⟨by rw [List.length_set]; exact s.len, fun j dj ej => ?_, fun j k b hj hk => ?_, ⟨fun b u hu n => (by rw [upd_ne (kp0 b u hu)]; exact s.ext.keep b u hu n), fun b ps hu => (by rw [upd_ne (kp0 b _ hu)]; exact s.ext.tb b ps hu), s.ext.sub, fun b hb => (s.ext.new b hb).imp (fun z => z) fun ⟨z, u, hu⟩ => ⟨z, u, kq b u hb hu⟩, fun t => (s.ext.tabs t).upd ob1 ob2 ob3⟩, fun b hb => ?_, s.tabs.upd ob1 ob2 ob3⟩, fun _ h => h, kp⟩
  · rcases getElem?_set_cases ej with ⟨rfl, e, _⟩ | ⟨hij, ej⟩
    · cases e
      exact hi
    · obtain ⟨w, hw, ok⟩ := s.slot j dj ej
      refine ⟨w, hw, ok.grow (fun _ h => h) kp (fun b u hu o' ho' _ => by rw [upd_ne (kp0 b u hu)]; exact ho') fun b ho => ⟨(ok.owned ho).2.1, fun o' ho' _ => ?_⟩⟩
      rw [upd_ne (fun z => by subst z; exact hij (s.sep i j b ow (ho.owns ej hw rfl)))]
      exact ho'
  · have un : ∀ j, Owns (upd H a o) Γ (env.set i (some d')) σ j b → Owns H Γ env σ j b := by
      intro j h
      have h1 : Owns (upd H a o) Γ env σ j b := by
        by_cases e : i = j
        · subst e
          rcases h with ⟨g1, g2, dj, g3, g4⟩ | ⟨g1, c, g2, _, g4⟩
          · rcases getElem?_set_cases g3 with ⟨_, e, _⟩ | ⟨ne, _⟩
            · cases e
              obtain ⟨d, e1, e2⟩ := hc g1 g4
              exact .inl ⟨g1, g2, d, e1, e2⟩
            · exact absurd rfl ne
          · exact .inr ⟨g1, c, g2, ⟨d0, hd⟩, g4⟩
        · exact h.same rfl rfl (List.getElem?_set_ne e)
      refine h1.back s fun c g1 g2 u hu _ => ?_
      rw [upd_ne]
      · exact hu
      · by_cases e : i = j
        · subst e; exact hb c g1 g2
        · intro z
          subst z
          obtain ⟨dj, hdj⟩ := h1.held
          exact e (s.sep i j c ow (.inr ⟨g1, c, g2, ⟨dj, hdj⟩, .inl rfl⟩))
    exact s.sep j k b (un j hj) (un k hk)
  · obtain ⟨u, hu⟩ := s.dom b hb
    exact ⟨u, kq b u hb hu⟩
/-- a cell of one's own is changed -/
theorem SR.mut (s : SR T Γ H0 F0 F H env σ) {i : Nat} {a : Addr} {d d' : D} {o : HO} (hm : Γ[i]? = some .own) (hd : env[i]? = some (some d)) (hc : d.cell = true) (hσ : σ[i]? = some (some (.ref a))) (h0 : H0 a = none) (hf : ¬ F a) (hat : At T (upd H a o) F a d') :
    SR T Γ H0 F0 F (upd H a o) (env.set i (some d')) σ ∧ Fz F H F (upd H a o) := by
  refine s.keeps (.inl ⟨hm, hσ, d, hd, hc⟩) ⟨_, hσ, ?_⟩ (fun c h => by rw [hm] at h; cases h) fun _ _ => ⟨d, hd, hc⟩
  rw [List.getD_eq_getElem?_getD, hm]
  show if d'.cell = true then _ else _
  rw [if_pos hat.cell]
  exact ⟨a, rfl, h0, hf, hat⟩
/-- one of some own cells is changed -/
theorem Inns.set {b : Addr} {z : D} {o : HO} {vs : List V} {ds : List D} (h : Inns T H0 F H vs ds) (hz : At T (upd H b o) F b z) : ∀ {k : Nat}, vs[k]? = some (.ref b) → Inns T H0 F (upd H b o) vs (ds.set k z) := by
  have hfb : V.ref b ∈ vs → ¬ F b := fun hb => (h.stand b hb).2.1
  have kp : ¬ F b → ∀ c u, F c → H c = some u → isT u = false → upd H b o c = some u := fun hf c u hc hu _ => by rw [upd_ne (fun e => hf (by rw [← e]; exact hc))]; exact hu
  induction h with
  | nil => intro k e; cases e
  | @cons c d vs ds h0 hf r hn hi ih =>
    intro k e
    cases k with
    | zero =>
      cases e
      refine .cons h0 hf hz hn (hi.mono (fun _ h => h) (kp hf) fun c hc => ⟨(hi.stand c hc).2.1, fun u hu _ => ?_⟩)
      rw [upd_ne (fun e => hn (by rw [← e]; exact hc))]
      exact hu
    | succ k =>
      have hb : V.ref b ∈ vs := List.mem_of_getElem? e
      refine .cons h0 hf (r.mono (fun _ h => h) (kp (hi.stand b hb).2.1) fun u hu _ => ?_) hn (ih (fun h => (hi.stand b h).2.1) e)
      rw [upd_ne (fun e => hn (by rw [e]; exact hb))]
      exact hu
theorem SR.mutL (s : SR T Γ H0 F0 F H env σ) {i k : Nat} {a b : Addr} {vs : List V} {ds : List D} {z : D} {o : HO} (hm : Γ[i]? = some .lol) (hd : env[i]? = some (some (.lst ds))) (hσ : σ[i]? = some (some (.ref a))) (ha : H a = some (.lst vs)) (hk : vs[k]? = some (.ref b)) (hat : At T (upd H b o) F b z) :
    SR T Γ H0 F0 F (upd H b o) (env.set i (some (.lst (ds.set k z)))) σ ∧ Fz F H F (upd H b o) := by
  obtain ⟨w, hw, ok⟩ := s.slot i _ hd
  rw [hσ] at hw; cases hw
  rw [List.getD_eq_getElem?_getD, hm] at ok
  obtain ⟨a', vs', ds', e1, e2, h0, hf, ha', hn, hi⟩ := ok
  cases e1; cases e2
  rw [ha] at ha'; cases ha'
  have hb : V.ref b ∈ vs := List.mem_of_getElem? hk
  have hab : a ≠ b := fun e => hn (by rw [e]; exact hb)
  refine s.keeps (.inr ⟨hm, a, hσ, ⟨_, hd⟩, .inr ⟨vs, ha, hb⟩⟩) ⟨_, hσ, ?_⟩ (fun c _ h => by rw [hσ] at h; cases h; exact hab) fun h => by rw [hm] at h; cases h
  rw [List.getD_eq_getElem?_getD, hm]
  exact ⟨a, vs, _, rfl, rfl, h0, hf, by rw [upd_ne hab]; exact ha, hn, hi.set hat hk⟩
/-- a slot is given a list of cells of its own -/
theorem SR.setL (s : SR T Γ H0 F0 F H env σ) {i : Nat} {a : Addr} {vs : List V} {ds : List D} (hm : Γ[i]? = some .lol) (h0 : H0 a = none) (hf : ¬ F a) (ha : H a = some (.lst vs)) (hn : V.ref a ∉ vs) (hi : Inns T H0 F H vs ds) (ho : ∀ j b, j ≠ i → b = a ∨ V.ref b ∈ vs → ¬ Owns H Γ env σ j b) :
    SR T Γ H0 F0 F H (env.set i (some (.lst ds))) (σ.set i (some (.ref a))) where
  len := by rw [List.length_set, List.length_set]; exact s.len
  slot := fun j d' e => by
    rcases getElem?_set_cases e with ⟨rfl, e, hl⟩ | ⟨ne, e⟩
    · cases e
      refine ⟨_, List.getElem?_set_self (by rw [← s.len]; exact hl), ?_⟩
      rw [List.getD_eq_getElem?_getD, hm]
      exact ⟨a, vs, ds, rfl, rfl, h0, hf, ha, hn, hi⟩
    · obtain ⟨v, hv, ok⟩ := s.slot j d' e
      exact ⟨v, by rw [List.getElem?_set_ne ne]; exact hv, ok⟩
  sep := fun j k c hj hk => by
    have un : ∀ j, i ≠ j → Owns H Γ (env.set i (some (.lst ds))) (σ.set i (some (.ref a))) j c → Owns H Γ env σ j c := fun j e h => h.same rfl (List.getElem?_set_ne e) (List.getElem?_set_ne e)
    have at_ : Owns H Γ (env.set i (some (.lst ds))) (σ.set i (some (.ref a))) i c → ∀ j, j ≠ i → ¬ Owns H Γ env σ j c := by
      rintro (⟨h1, _⟩ | ⟨h1, a', h2, _, h4⟩) j hji
      · rw [hm] at h1; cases h1
      · rcases getElem?_set_cases h2 with ⟨_, e, _⟩ | ⟨ne, _⟩
        · injection e with e
          injection e with e
          subst e
          refine ho j c hji ?_
          rcases h4 with rfl | ⟨ws, e, hw⟩
          · exact .inl rfl
          · rw [ha] at e; cases e
            exact .inr hw
        · exact absurd rfl ne
    by_cases ej : i = j
    · by_cases ek : i = k
      · rw [← ej, ← ek]
      · subst ej
        exact absurd (un k ek hk) (at_ hj k (Ne.symm ek))
    · by_cases ek : i = k
      · subst ek
        exact absurd (un j ej hj) (at_ hk j (Ne.symm ej))
      · exact s.sep j k c (un j ej hj) (un k ek hk)
  ext := s.ext
  dom := s.dom
  tabs := s.tabs
end
end Ev

set_option maxHeartbeats 2000000
namespace Ev
open PySem PySem.Spec PyProof.Rows L2
variable [Tbs]
theorem bindMany_nx (c : Nat) (fs : List D) : ∀ (is : List Nat) (ds : List D) (env : Ev), bindMany is ds env ≠ .exc c fs
  | [], [], _ => by intro z; cases z
  | [], _ :: _, _ => by intro z; cases z
  | _ :: _, [], _ => by intro z; cases z
  | i :: is, d :: ds, env => bindMany_nx c fs is ds _
theorem bindT_nx (t : Tg) (d : D) (env : Ev) : ∀ c fs, bindT t d env ≠ .exc c fs := by
  intro c fs
  cases t with
  | one i => intro z; cases z
  | many is =>
    cases d with
    | tup ds => exact bindMany_nx c fs is ds env
    | lst ds => exact bindMany_nx c fs is ds env
    | _ => intro z; cases z
/-- what is wanted behind a statement -/
def PostS (T : Tab) (Γ' Γb : List Mo) (q : Qu) (H0 : Hp) (F0 F : Addr → Prop) (H : Hp) (D : Ends) (z : Ev × Fl) : Prop := match z.2 with
  | .nx => ∀ F' H' σ', Fz F H F' H' → SR T Γ' H0 F0 F' H' z.1 σ' → D.nx σ' H'
  | .brk => ∀ F' H' σ', Fz F H F' H' → SR T Γb H0 F0 F' H' z.1 σ' → D.bk σ' H'
  | .cnt => ∀ F' H' σ', Fz F H F' H' → SR T Γb H0 F0 F' H' z.1 σ' → D.ct σ' H'
  | .ret d => ∀ F' H' v, Ext F0 H0 F' H' → ResOk T q H0 F' H' v d → D.rt v H'
def SimS (T : Tab) (Γ Γ' Γb : List Mo) (XE : XT) (q : Qu) (t : TS) (f : Ev → R (Ev × Fl)) : Prop :=
  ∀ (H0 : Hp) (F0 : Addr → Prop) (σ : St) (H : Hp) (F : Addr → Prop) (env : Ev) (D : Ends), SR T Γ H0 F0 F H env σ →
    wpR (f env) (PostS T Γ' Γb q H0 F0 F H D) (GoS XE F0 H0) → t D σ H
def DS (X : Cx) (T : Tab) (Γ Γ' Γb : List Mo) (XE : XT) (q : Qu) (st : Stmt) (f : Ev → R (Ev × Fl)) : Prop := ∃ t, PS X st t ∧ SimS T Γ Γ' Γb XE q t f
def DSs (X : Cx) (T : Tab) (Γ Γ' Γb : List Mo) (XE : XT) (q : Qu) (st : List Stmt) (f : Ev → R (Ev × Fl)) : Prop := ∃ t, PSs X st t ∧ SimS T Γ Γ' Γb XE q t f
section
variable {X : Cx} {T : Tab} {Γ Γ' Γ'' Γb : List Mo} {XE : XT} {q qa qb : Qu} {pos : Pos}
theorem GoS.to {σ : St} {F0 F : Addr → Prop} {H0 H : Hp} (x : Ext F0 H0 F H) : ∀ c fs, GoS XE F0 H0 c fs → GoX XE σ F H c fs := fun c fs h F' H' y => h σ F' H' (x.trans y)
/-- run an expression in a statement -/
theorem SimE.stm {t : TE} {f : Ev → R D} (s : SimE T Γ XE q t f) {H0 H : Hp} {F0 F : Addr → Prop} {σ : St} {env : Ev} {g : D → R (Ev × Fl)} {P : Ev × Fl → Prop} {Q : VK} (r : SR T Γ H0 F0 F H env σ)
    (h : wpR ((f env).bind g) P (GoS XE F0 H0)) (k : ∀ d F1 H1 v, f env = .ok d → Ext F H F1 H1 → ResOk T q H F1 H1 v d → SR T Γ H0 F0 F1 H1 env σ → wpR (g d) P (GoS XE F0 H0) → Q v H1) : t σ H Q := by
  refine s H0 F0 σ H F env Q r ?_
  cases e : f env with
  | ok d => rw [e] at h; exact fun F1 H1 v x rv => k d F1 H1 v e x rv (r.ext' x) h
  | exc c fs => rw [e] at h; exact GoS.to r.ext c fs h
  | bad => rw [e] at h; exact h.elim
theorem SimC.stm {t : TA} {f : Ev → R (List D)} (s : SimC T Γ XE t f) {H0 H : Hp} {F0 F : Addr → Prop} {σ : St} {env : Ev} {g : List D → R (Ev × Fl)} {P : Ev × Fl → Prop} {Q : List V → Hp → Prop} (r : SR T Γ H0 F0 F H env σ)
    (h : wpR ((f env).bind g) P (GoS XE F0 H0)) (k : ∀ ds F1 H1 vs, Ext F H F1 H1 → Reps T H1 F1 vs ds → SR T Γ H0 F0 F1 H1 env σ → wpR (g ds) P (GoS XE F0 H0) → Q vs H1) : t σ H Q := by
  refine s H0 F0 σ H F env Q r ?_
  cases e : f env with
  | ok d => rw [e] at h; exact fun F1 H1 v x rv => k d F1 H1 v x rv (r.ext' x) h
  | exc c fs => rw [e] at h; exact GoS.to r.ext c fs h
  | bad => rw [e] at h; exact h.elim
/-- a mode by the quality of what is stored -/
def moQ : Qu → Mo
  | .fresh => .own
  | _ => .frz
/-- name = value -/
theorem simAsg {te : TE} {f : Ev → R D} {i : Nat} (hi : i < Γ.length) (s : SimE T Γ XE q te f) (hq : q ≠ .dirty) : SimS T Γ (Γ.set i (moQ q)) Γb XE qb (tAsg te (gName i)) fun env => (f env).bind fun x => .ok (env.set i (some x), .nx) := by
  intro H0 F0 σ H F env D r h
  refine s.stm r h fun d F1 H1 v _ x1 rv r1 h1 => ?_
  have h1 : ∀ F' H' σ', Fz F H F' H' → SR T (Γ.set i (moQ q)) H0 F0 F' H' (env.set i (some d)) σ' → D.nx σ' H' := h1
  refine h1 F1 H1 _ x1.fz ?_
  have hset : (Γ.set i (moQ q))[i]? = some (moQ q) := List.getElem?_set_self hi
  have rd := r1.drop i (moQ q)
  have e1 : (env.set i none).set i (some d) = env.set i (some d) := List.set_set ..
  have e2 : (σ.set i none).set i (some v) = σ.set i (some v) := List.set_set ..
  rw [← e1, ← e2]
  cases q with
  | dirty => exact absurd rfl hq
  | clean => exact rd.setF i rv (.of hset)
  | fresh =>
    refine rd.setO i hset ?_
    unfold ResOk at rv
    simp only at rv
    split at rv
    · rename_i hc
      rw [if_pos hc]
      obtain ⟨a, e, hn, hf, hat⟩ := rv
      refine ⟨a, e, ?_, hf, hat, fun j hj ho => ?_⟩
      · cases z : H0 a with
        | none => rfl
        | some o => rw [r.ext.non _ hn] at z; cases z
      · obtain ⟨o, ho⟩ := Owns.old r x1 (ho.same (List.getElem?_set_ne (Ne.symm hj)) (List.getElem?_set_ne (Ne.symm hj)) (List.getElem?_set_ne (Ne.symm hj)))
        rw [hn] at ho; cases ho
    · rename_i hc
      rw [if_neg hc]
      exact rv
theorem ds_asg {i : Nat} {x : Str} {e : Expr} {p : Pos} {f : Ev → R D} (hN : X.N.Nodup) (hi : X.N[i]? = some x) (hx : Loc X.env.scope x) (hs : swapsWith e (some (.Name x p)) pos.line X.env = pure false) (hf : X.fn x = true ∨ X.env.scope.names.lookup x = some .local)
    (hl : i < Γ.length) (he : DE X T Γ XE q e f) (hq : q ≠ .dirty) : DS X T Γ (Γ.set i (moQ q)) Γb XE qb (.Assign [.Name x p] e pos) fun env => (f env).bind fun x => .ok (env.set i (some x), .nx) := by
  obtain ⟨t, p', s⟩ := he
  exact ⟨_, ps_set hN hi hx p' hs hf, simAsg hl s hq⟩
/-- (a, b, ..) = value -/
theorem ds_tasg {is : List Nat} {tg e : Expr} {f : Ev → R D} {g : TG} (hg : PG X tg g) (sg : SimG T Γ g (.many is)) (he : DE X T Γ XE q e f) (hq : q ≠ .dirty) (hs : swapsWithSole [tg] e pos.line X.env = pure false) (hw : swappedStores [tg] e X.env = pure none) (h1 : (assignEach [tg] X.env).map (·.2) = [assign tg X.env]) :
    DS X T Γ Γ Γb XE qb (.Assign [tg] e pos) fun env => (f env).bind fun x => (bindT (.many is) x env).bind fun env' => .ok (env', .nx) := by
  obtain ⟨t, p', s⟩ := he
  refine ⟨_, ps_asg p' hg hs hw h1, fun H0 F0 σ H F env D r h => ?_⟩
  refine s.stm r h fun d F1 H1 v _ x1 rv r1 h1 => ?_
  obtain ⟨F2, x2, _, rp⟩ := rv.rep x1 hq
  cases e : bindT (.many is) d env with
  | exc c fs => exact absurd e (bindT_nx _ _ _ _ _)
  | bad => rw [e] at h1; exact h1.elim
  | ok env' =>
    rw [e] at h1
    have h1 : ∀ F' H' σ', Fz F H F' H' → SR T Γ H0 F0 F' H' env' σ' → D.nx σ' H' := h1
    exact sg H0 F0 σ H1 F2 env v d env' _ (r.ext' x2) rp e fun σ' s' _ => h1 F2 H1 σ' x2.fz s'
/-- name op= value, ints -/
theorem ds_aug {op : Operator} {i : Nat} {x : Str} {e : Expr} {p : Pos} {f : Ev → R D} {C : Int → Int → Prop} {g : Int → Int → Int} {fop : D → D → R D} (hm : Γ[i]? = some .frz) (ho : OpR X (inplaceOp op) (rI C fun i j => .int (g i j))) (hfop : ∀ d1 d2 d, fop d1 d2 = .ok d → ∃ i j, d1 = .int i ∧ d2 = .int j ∧ C i j ∧ d = .int (g i j)) (hfx : ∀ d1 d2 c fs, fop d1 d2 ≠ .exc c fs)
    (hN : X.N.Nodup) (hi : X.N[i]? = some x) (hx : Loc X.env.scope x) (hf : X.fn x = true ∨ X.env.scope.names.lookup x = some .local) (he : DE X T Γ XE q e f) : DS X T Γ Γ Γb XE qb (.AugAssign (.Name x p) op e pos) fun env => (getV env i).bind fun x => (f env).bind fun y => (fop x y).bind fun z => .ok (env.set i (some z), .nx) := by
  obtain ⟨t, p', s⟩ := he
  refine ⟨_, ps_aug (ti := rI C fun i j => .int (g i j)) hN hi hx p' ho hf, fun H0 F0 σ H F env D r h => ?_⟩
  unfold getV at h
  dsimp only at h
  split at h
  · rename_i d1 e1
    rw [R.bind_ok] at h
    obtain ⟨v1, hv1, ok1⟩ := r.slot i d1 e1
    rw [List.getD_eq_getElem?_getD, hm] at ok1
    refine ⟨v1, hv1, ?_⟩
    refine s.stm r h fun d2 F1 H1 v2 _ x1 rv r1 h1 => ?_
    cases e : fop d1 d2 with
    | exc c fs => exact absurd e (hfx _ _ _ _)
    | bad => rw [e] at h1; exact h1.elim
    | ok d =>
      rw [e] at h1
      obtain ⟨i1, j1, rfl, rfl, hC, rfl⟩ := hfop _ _ _ e
      have h1 : ∀ F' H' σ', Fz F H F' H' → SR T Γ H0 F0 F' H' (env.set i (some (.int (g i1 j1)))) σ' → D.nx σ' H' := h1
      cases (show v1 = .int i1 from Top.int (.inl ok1))
      cases rv.top.int
      exact ⟨i1, j1, rfl, rfl, hC, h1 F1 H1 _ x1.fz (r1.setF i (.int _) (.of hm))⟩
  · exact h.elim
/-- return value -/
theorem ds_ret {e : Expr} {f : Ev → R D} (he : DE X T Γ XE q e f) (hq : q = qb ∨ (q = .fresh ∧ qb = .clean)) (hd : q ≠ .dirty) : DS X T Γ Γ' Γb XE qb (.Return (some e) pos) fun env => (f env).bind fun x => .ok (env, .ret x) := by
  obtain ⟨t, p', s⟩ := he
  refine ⟨_, ps_ret p', fun H0 F0 σ H F env D r h => ?_⟩
  refine s.stm r h fun d F1 H1 v _ x1 rv r1 h1 => ?_
  have h1 : ∀ F' H' v, Ext F0 H0 F' H' → ResOk T qb H0 F' H' v d → D.rt v H' := h1
  rcases hq with rfl | ⟨rfl, rfl⟩
  · exact h1 F1 H1 v (r.ext.trans x1) (rv.back r.ext)
  · obtain ⟨F2, x2, _, rp⟩ := rv.rep x1 hd
    exact h1 F2 H1 v (r.ext.trans x2) rp
/-- return of a name that owns its cell -/
theorem ds_retO {i : Nat} {x : Str} {p : Pos} (hm : Γ[i]? = some .own) (hN : X.N[i]? = some x) (hv : Vis X.env.scope x) (hd : (x == ("__debug__" : Str)) = false) (hcd : (x == ("__classdict__" : Str)) = false) (hq : qb ≠ .dirty) :
    DS X T Γ Γ' Γb XE qb (.Return (some (.Name x p)) pos) fun env => (getV env i).bind fun x => .ok (env, .ret x) := by
  refine ⟨_, ps_ret (pe_var hN hv hd hcd), fun H0 F0 σ H F env D r h => ?_⟩
  unfold getV at h
  dsimp only at h
  split at h
  · rename_i d e1
    have h : ∀ F' H' v, Ext F0 H0 F' H' → ResOk T qb H0 F' H' v d → D.rt v H' := h
    obtain ⟨v, hv, ok⟩ := r.slot i d e1
    rw [List.getD_eq_getElem?_getD, hm] at ok
    refine ⟨v, hv, ?_⟩
    have rf : ResOk T .fresh H0 F H v d := ok
    cases qb with
    | dirty => exact absurd rfl hq
    | fresh => exact h F H v r.ext rf
    | clean =>
      obtain ⟨F2, x2, _, rp⟩ := rf.rep r.ext (by decide)
      exact h F2 H v x2 rp
  · exact h.elim
theorem ds_retN (hq : qb ≠ .dirty) : DS X T Γ Γ' Γb XE qb (.Return none pos) fun env => .ok (env, .ret .non) := by
  refine ⟨_, ps_retN, fun H0 F0 σ H F env D r h => ?_⟩
  exact (show ∀ F' H' v, Ext F0 H0 F' H' → ResOk T qb H0 F' H' v .non → D.rt v H' from h) F H _ r.ext .non
theorem ds_expr {e : Expr} {f : Ev → R D} (he : DE X T Γ XE q e f) (hs : swapsWith e none pos.line X.env = pure false) : DS X T Γ Γ Γb XE qb (.Expr e pos) fun env => (f env).bind fun _ => .ok (env, .nx) := by
  obtain ⟨t, p', s⟩ := he
  refine ⟨_, ps_expr p' hs, fun H0 F0 σ H F env D r h => ?_⟩
  refine s.stm r h fun d F1 H1 v _ x1 rv r1 h1 => ?_
  exact (show ∀ F' H' σ', Fz F H F' H' → SR T Γ H0 F0 F' H' env σ' → D.nx σ' H' from h1) F1 H1 σ x1.fz r1
/-- a statement of which nothing is told -/
theorem ds_no {st : Stmt} : DS X T Γ Γ' Γb XE qb st fun _ => .bad := ⟨fun _ _ _ => False, ⟨fun _ _ _ _ _ _ h => h.elim⟩, fun _ _ _ _ _ _ _ _ h => h.elim⟩
theorem ds_pass : DS X T Γ Γ Γb XE qb (.Pass pos) fun env => .ok (env, .nx) := ⟨_, ps_pass, fun H0 F0 σ H F env D r h => (show ∀ F' H' σ', Fz F H F' H' → SR T Γ H0 F0 F' H' env σ' → D.nx σ' H' from h) F H σ (Fz.refl _ _) r⟩
theorem ds_brk (hw : wkM Γ Γb = true) : DS X T Γ Γ' Γb XE qb (.Break pos) fun env => .ok (env, .brk) := ⟨_, ps_break, fun H0 F0 σ H F env D r h => by
  obtain ⟨F', h1, r1⟩ := r.weak hw
  exact (show ∀ F' H' σ', Fz F H F' H' → SR T Γb H0 F0 F' H' env σ' → D.bk σ' H' from h) F' H σ ⟨h1, fun _ _ _ z _ => z⟩ r1⟩
theorem ds_cnt (hw : wkM Γ Γb = true) : DS X T Γ Γ' Γb XE qb (.Continue pos) fun env => .ok (env, .cnt) := ⟨_, ps_continue, fun H0 F0 σ H F env D r h => by
  obtain ⟨F', h1, r1⟩ := r.weak hw
  exact (show ∀ F' H' σ', Fz F H F' H' → SR T Γb H0 F0 F' H' env σ' → D.ct σ' H' from h) F' H σ ⟨h1, fun _ _ _ z _ => z⟩ r1⟩
/-- ends, weakened -/
theorem PostS.weak {H0 H : Hp} {F0 F : Addr → Prop} {D : Ends} {z : Ev × Fl} (hw : wkM Γ Γ' = true) (h : PostS T Γ' Γb q H0 F0 F H D z) : PostS T Γ Γb q H0 F0 F H D z := by
  obtain ⟨env, fl⟩ := z
  cases fl with
  | nx =>
    intro F' H' σ' fz r
    obtain ⟨F2, h1, r1⟩ := r.weak hw
    exact h F2 H' σ' (fz.trans ⟨h1, fun _ _ _ z _ => z⟩) r1
  | brk => exact h
  | cnt => exact h
  | ret d => exact h
theorem PostS.from {H0 H H1 : Hp} {F0 F F1 : Addr → Prop} {D : Ends} {z : Ev × Fl} (fz : Fz F H F1 H1) (h : PostS T Γ Γb q H0 F0 F H D z) : PostS T Γ Γb q H0 F0 F1 H1 D z := by
  obtain ⟨env, fl⟩ := z
  cases fl with
  | nx => exact fun F' H' σ' y r => h F' H' σ' (fz.trans y) r
  | brk => exact fun F' H' σ' y r => h F' H' σ' (fz.trans y) r
  | cnt => exact fun F' H' σ' y r => h F' H' σ' (fz.trans y) r
  | ret d => exact h
theorem DSs.weak {st : List Stmt} {f : Ev → R (Ev × Fl)} (hw : wkM Γ' Γ'' = true) (h : DSs X T Γ Γ' Γb XE q st f) : DSs X T Γ Γ'' Γb XE q st f := by
  obtain ⟨t, p, s⟩ := h
  exact ⟨t, p, fun H0 F0 σ H F env D r h => s H0 F0 σ H F env D r (wpR_mono h (fun z hz => hz.weak hw) fun _ _ z => z)⟩
theorem DSs.weakL {st : List Stmt} {f : Ev → R (Ev × Fl)} (hw : wkM Γ Γ' = true) (h : DSs X T Γ' Γ'' Γb XE q st f) : DSs X T Γ Γ'' Γb XE q st f := by
  obtain ⟨t, p, s⟩ := h
  refine ⟨t, p, fun H0 F0 σ H F env D r h => ?_⟩
  obtain ⟨F2, h1, r1⟩ := r.weak hw
  exact s H0 F0 σ H F2 env D r1 (wpR_mono h (fun z hz => hz.from ⟨h1, fun _ _ _ z _ => z⟩) fun _ _ z => z)
theorem dss_nil : DSs X T Γ Γ Γb XE q [] fun env => .ok (env, .nx) := ⟨_, pss_nil, fun H0 F0 σ H F env D r h => (show ∀ F' H' σ', Fz F H F' H' → SR T Γ H0 F0 F' H' env σ' → D.nx σ' H' from h) F H σ (Fz.refl _ _) r⟩
theorem dss_cons {st : Stmt} {rest : List Stmt} {f g : Ev → R (Ev × Fl)} (h1 : DS X T Γ Γ' Γb XE q st f) (h2 : DSs X T Γ' Γ'' Γb XE q rest g) : DSs X T Γ Γ'' Γb XE q (st :: rest) fun env => (f env).bind fun z => match z with
    | (env', .nx) => g env'
    | z => .ok z := by
  obtain ⟨t, p, s⟩ := h1
  obtain ⟨u, p2, s2⟩ := h2
  refine ⟨_, pss_cons p p2, fun H0 F0 σ H F env D r h => ?_⟩
  refine s H0 F0 σ H F env _ r (wpR_mono (wpR_bind h) (fun z hz => ?_) fun _ _ z => z)
  obtain ⟨env', fl⟩ := z
  cases fl with
  | nx =>
    intro F' H' σ' fz r'
    exact s2 H0 F0 σ' H' F' env' D r' (wpR_mono hz (fun z hz => hz.from fz) fun _ _ z => z)
  | brk => exact hz
  | cnt => exact hz
  | ret d => exact hz
theorem ds_if {c : Expr} {a b : List Stmt} {fc : Ev → R D} {fa fb : Ev → R (Ev × Fl)} (hc : DT X T Γ XE c fc) (ha : DSs X T Γ Γ' Γb XE q a fa) (hb : DSs X T Γ Γ' Γb XE q b fb) : DS X T Γ Γ' Γb XE q (.If c a b pos) fun env => (fc env).bind fun x => (truthD x).bind fun k => match k with
    | true => fa env
    | false => fb env := by
  obtain ⟨tc, pc, sc⟩ := hc
  obtain ⟨ta, pa, sa⟩ := ha
  obtain ⟨tb, pb, sb⟩ := hb
  refine ⟨_, ps_if pc pa pb, fun H0 F0 σ H F env D r h => ?_⟩
  dsimp only at h
  rw [← R.bind_assoc] at h
  refine sc H0 F0 σ H F env _ r ?_
  show wpR ((fc env).bind truthD) _ _
  cases e : (fc env).bind truthD with
  | exc c fs => rw [e] at h; exact GoS.to r.ext c fs h
  | bad => rw [e] at h; exact h.elim
  | ok k =>
    rw [e] at h
    intro F1 H1 x1
    cases k with
    | true => exact sa H0 F0 σ H1 F1 env D (r.ext' x1) (wpR_mono h (fun z hz => hz.from x1.fz) fun _ _ z => z)
    | false => exact sb H0 F0 σ H1 F1 env D (r.ext' x1) (wpR_mono h (fun z hz => hz.from x1.fz) fun _ _ z => z)
theorem ds_while {c : Expr} {a : List Stmt} {fc : Ev → R D} {fa : Ev → R (Ev × Fl)} {n : Nat} {Γe : List Mo} (hp : PassesOwn (model X.prog X.w) X.A X.env X.xe) (hc : DT X T Γ' XE c fc) (ha : DSs X T Γ' Γe Γ' XE q a fa) (hw : wkM Γ Γ' = true) (he : wkM Γe Γ' = true) : DS X T Γ Γ' Γb XE q (.While c a [] pos) fun env => whileL fc fa n env := by
  obtain ⟨tc, pc, sc⟩ := hc
  obtain ⟨ta, pa, sa⟩ := ha
  refine ⟨_, ps_while hp pc pa, fun H0 F0 σ H F env D r h => ?_⟩
  obtain ⟨F1, h1, r1⟩ := r.weak hw
  refine ⟨fun m σ' H' => ∃ F' env', Fz F H F' H' ∧ SR T Γ' H0 F0 F' H' env' σ' ∧ wpR (whileL fc fa m env') (PostS T Γ' Γb q H0 F0 F H D) (GoS XE F0 H0), ⟨n, F1, env, ⟨h1, fun _ _ _ z _ => z⟩, r1, h⟩, ?_⟩
  rintro m σ2 H2 ⟨F2, env2, fz2, r2, h2⟩
  cases m with
  | zero => exact h2.elim
  | succ m =>
    unfold whileL at h2
    rw [← R.bind_assoc] at h2
    refine sc H0 F0 σ2 H2 F2 env2 _ r2 ?_
    show wpR ((fc env2).bind truthD) _ _
    cases e : (fc env2).bind truthD with
    | exc c fs => rw [e] at h2; exact GoS.to r2.ext c fs h2
    | bad => rw [e] at h2; exact h2.elim
    | ok k =>
      rw [e] at h2
      intro F3 H3 x3
      cases k with
      | false =>
        simp only [Bool.false_eq_true, if_false]
        exact (show ∀ F' H' σ', Fz F H F' H' → SR T Γ' H0 F0 F' H' env2 σ' → D.nx σ' H' from h2) F3 H3 σ2 (fz2.trans x3.fz) (r2.ext' x3)
      | true =>
        simp only [if_true]
        refine ⟨fun σ' H' => ∃ F' env', Fz F H F' H' ∧ SR T Γ' H0 F0 F' H' env' σ' ∧ wpR (whileL fc fa m env') (PostS T Γ' Γb q H0 F0 F H D) (GoS XE F0 H0), fun σ' H' hh => ⟨m, Nat.lt_succ_self m, hh⟩, ?_⟩
        refine sa H0 F0 σ2 H3 F3 env2 _ (r2.ext' x3) (wpR_mono (wpR_bind (show wpR ((fa env2).bind _) _ _ from h2)) (fun z hz => ?_) fun _ _ z => z)
        obtain ⟨env4, fl⟩ := z
        cases fl with
        | nx =>
          intro F4 H4 σ4 fz4 r4
          obtain ⟨F5, h5, r5⟩ := r4.weak he
          exact ⟨F5, env4, ((fz2.trans x3.fz).trans fz4).trans ⟨h5, fun _ _ _ z _ => z⟩, r5, hz⟩
        | cnt =>
          intro F4 H4 σ4 fz4 r4
          exact ⟨F4, env4, (fz2.trans x3.fz).trans fz4, r4, hz⟩
        | brk =>
          intro F4 H4 σ4 fz4 r4
          exact (show ∀ F' H' σ', Fz F H F' H' → SR T Γ' H0 F0 F' H' env4 σ' → D.nx σ' H' from hz) F4 H4 σ4 ((fz2.trans x3.fz).trans fz4) r4
        | ret d => exact hz
theorem ds_for {tg iter : Expr} {t : Tg} {a : List Stmt} {fI : Ev → R (List D)} {fa : Ev → R (Ev × Fl)} {Γe : List Mo} (hp : PassesOwn (model X.prog X.w) X.A X.env X.xe) (hcm : X.calm = true) (hi : DI X T Γ XE true tg iter fI) (hg : DG X T Γ' tg t) (ha : DSs X T Γ' Γe Γ' XE q a fa) (hw : wkM Γ Γ' = true) (he : wkM Γe Γ' = true)
    (hs : ∀ x, foldedSetIterable iter X.env x = pure x) : DS X T Γ Γ' Γb XE q (.For tg iter a [] pos) fun env => (fI env).bind fun ds => forL t fa ds env := by
  obtain ⟨wi, pi, si⟩ := hi
  obtain ⟨g, pg, sg⟩ := hg
  obtain ⟨ta, pa, sa⟩ := ha
  refine ⟨_, ps_for hp hcm pi pg pa hs, fun H0 F0 σ H F env D r h => ?_⟩
  refine si H0 F0 σ H F env _ r ?_
  cases e : fI env with
  | exc c fs => dsimp only at h; rw [e] at h; exact GoS.to r.ext c fs h
  | bad => dsimp only at h; rw [e] at h; exact h.elim
  | ok ds =>
    dsimp only at h
    rw [e, R.bind_ok] at h
    intro F1 H1 J x1 it
    have r1 := r.ext' x1
    obtain ⟨F2, h2, r2⟩ := r1.weak hw
    obtain ⟨G, Y, w, hG, hY⟩ := it
    have kp : ∀ {F' H' env' σ'}, Fz F2 H1 F' H' → SR T Γ' H0 F0 F' H' env' σ' → Kp true H0 F1 H1 H' := fun fz s => ⟨fun a o ha ho => fz.2 a o (h2 a ha) ho, s.ext.keep, fun z => by cases z⟩
    refine for_it w (fun i σ' H' => ∃ F' env', Fz F2 H1 F' H' ∧ SR T Γ' H0 F0 F' H' env' σ' ∧ wpR (forL t fa (ds.drop i) env') (PostS T Γ' Γb q H0 F0 F H D) (GoS XE F0 H0)) ⟨F2, env, Fz.refl _ _, r2, by rw [List.drop_zero]; exact h⟩ (fun i σ' H' _ ⟨F', env', fz, s, _⟩ => hG H' (kp fz s)) ?_ ?_
    · rintro i x σ3 H3 H4 hi3 ⟨F3, env3, fz3, r3, h3⟩ y
      obtain ⟨F4, d, x4, ed, rd⟩ := hY i H3 x H4 F3 hi3 (kp fz3 r3) (fun a ha => fz3.1 a (h2 a ha)) y
      have edr : ds.drop i = d :: ds.drop (i + 1) := by
        rw [List.drop_eq_getElem_cons hi3]
        rw [List.getElem?_eq_getElem hi3] at ed
        rw [Option.some.inj ed]
      rw [edr] at h3
      unfold forL at h3
      have r4 := r3.ext' x4
      cases eb : bindT t d env3 with
      | exc c fs => exact absurd eb (bindT_nx _ _ _ _ _)
      | bad => rw [eb] at h3; exact h3.elim
      | ok env4 =>
        rw [eb, R.bind_ok] at h3
        refine sg H0 F0 σ3 H4 F4 env3 x d env4 _ r4 rd eb fun σ5 r5 _ => ?_
        refine sa H0 F0 σ5 H4 F4 env4 _ r5 (wpR_mono (wpR_bind h3) (fun z hz => ?_) fun _ _ z => z)
        obtain ⟨env6, fl⟩ := z
        have fz4 := fz3.trans x4.fz
        cases fl with
        | nx =>
          intro F6 H6 σ6 fz6 r6
          obtain ⟨F7, h7, r7⟩ := r6.weak he
          exact ⟨F7, env6, (fz4.trans fz6).trans ⟨h7, fun _ _ _ z _ => z⟩, r7, hz⟩
        | cnt =>
          intro F6 H6 σ6 fz6 r6
          exact ⟨F6, env6, fz4.trans fz6, r6, hz⟩
        | brk =>
          intro F6 H6 σ6 fz6 r6
          exact (show ∀ F' H' σ', Fz F H F' H' → SR T Γ' H0 F0 F' H' env6 σ' → D.nx σ' H' from hz) F6 H6 σ6 ((x1.fz.trans ⟨h2, fun _ _ _ z _ => z⟩).trans (fz4.trans fz6)) r6
        | ret d => exact hz
    · rintro σ3 H3 ⟨F3, env3, fz3, r3, h3⟩
      rw [List.drop_length] at h3
      unfold forL at h3
      exact (show ∀ F' H' σ', Fz F H F' H' → SR T Γ' H0 F0 F' H' env3 σ' → D.nx σ' H' from h3) F3 H3 σ3 ((x1.fz.trans ⟨h2, fun _ _ _ z _ => z⟩).trans fz3) r3
/-- a statement ahead of which a name's cell is frozen: nothing runs -/
theorem dss_frz {st : List Stmt} {i : Nat} {f : Ev → R (Ev × Fl)} (hm : Γ[i]? = some .own ∨ Γ[i]? = some .lol) (h : DSs X T (Γ.set i .frz) Γ' Γb XE q st f) : DSs X T Γ Γ' Γb XE q st f := by
  obtain ⟨t, p, s⟩ := h
  refine ⟨t, p, fun H0 F0 σ H F env D r h => ?_⟩
  obtain ⟨F2, h1, r1⟩ := r.frzO i hm
  exact s H0 F0 σ H F2 env D r1 (wpR_mono h (fun z hz => hz.from ⟨h1, fun _ _ _ z _ => z⟩) fun _ _ z => z)
end
end Ev

set_option maxHeartbeats 2000000
namespace Ev
open PySem PySem.Spec PyProof.Rows L2
variable [Tbs]
section
variable {X : Cx} {T : Tab} {Γ Γ' Γ'' Γb : List Mo} {XE : XT} {q qa qb : Qu} {pos : Pos}
theorem PSet.or {t u : TSet} (h : PSet X t) (h' : PSet X u) : PSet X (fun o i v H Q => t o i v H Q ∨ u o i v H Q) := by
  intro pins s σ H o i v ov iv w Q I ro ri rv h3
  rcases h3 with h3 | h3
  · exact h pins s σ H o i v ov iv w Q I ro ri rv h3
  · exact h' pins s σ H o i v ov iv w Q I ro ri rv h3
/-- elements stay where a cell outside is written -/
theorem updF {H : Hp} {F : Addr → Prop} {a : Addr} {o : HO} (hf : ¬ F a) : ∀ b u, F b → H b = some u → isT u = false → upd H a o b = some u := fun b u hb hu _ => by
  rw [upd_ne (fun z => hf (by rw [← z]; exact hb))]; exact hu
theorem KReps.put {H : Hp} {F : Addr → Prop} {k : Key} {v : V} {d : D} (h : Rep T H F v d) : ∀ {vs : List (Key × V)} {ds : List (Key × D)}, KReps T H F vs ds → KReps T H F (putK vs k v) (putD k d ds) := by
  have hm : ∀ {vs : List (Key × V)} {ds : List (Key × D)}, KReps T H F vs ds → KReps T H F (vs.map fun kv => if kv.1 = k then (kv.1, v) else kv) (ds.map fun kv => if kv.1 = k then (kv.1, d) else kv) := by
    intro vs
    induction vs with
    | nil => intro ds r; cases r; exact .nil
    | cons p vs ih =>
      intro ds r
      cases r with
      | cons h1 h2 =>
        rw [List.map_cons, List.map_cons]
        split
        · exact .cons h (ih h2)
        · exact .cons h1 (ih h2)
  have ha : ∀ {vs : List (Key × V)} {ds : List (Key × D)}, KReps T H F vs ds → KReps T H F (vs ++ [(k, v)]) (ds ++ [(k, d)]) := by
    intro vs
    induction vs with
    | nil => intro ds r; cases r; exact .cons h .nil
    | cons p vs ih => intro ds r; cases r with
      | cons h1 h2 => exact .cons h1 (ih h2)
  have hany : ∀ {vs : List (Key × V)} {ds : List (Key × D)}, KReps T H F vs ds → (vs.any fun kv => decide (kv.1 = k)) = (ds.any fun kv => decide (kv.1 = k)) := by
    intro vs
    induction vs with
    | nil => intro ds r; cases r; rfl
    | cons p vs ih => intro ds r; cases r with
      | cons h1 h2 => rw [List.any_cons, List.any_cons, ih h2]
  intro vs ds r
  unfold putK putD
  rw [hany r]
  split
  · exact hm r
  · exact ha r
def notSlice : Expr → Bool
  | .Slice _ _ _ _ => false
  | _ => true
theorem assign_sub {o i : Expr} {p : Pos} {env : Env} (h : notSlice i = true) : ∀ v, assign (.Subscript o i p) env v = (do
      let ov ← holding [v] (eval o env)
      let iv ← holding [v, ov] (eval i env)
      standAt p
      holding [v, ov, iv] (setItem ov iv v)
      release [v, ov, iv] []) := by
  intro v
  cases i <;> first | rfl | cases h
theorem plainIx {b : Expr} (h : notSlice b = true) : PlainIx b := by
  intro o i
  cases b <;> first | rfl | cases h
theorem at_put {H : Hp} {F : Addr → Prop} {a : Addr} {k : Key} {vs : List (Key × V)} {ds : List (Key × D)} {v : V} {d : D} (hr : KReps T H F vs ds) (rp : Rep T H F v d) (hf : ¬ F a) : At T (upd H a (.dK (putK vs k v))) F a (.dK (putD k d ds)) :=
  .dK upd_same ((KReps.put rp hr).mono (fun _ h => h) (updF hf))
theorem setD_nx (d1 d2 d3 : D) : ∀ c fs, setD d1 d2 d3 ≠ .exc c fs := by
  intro c fs
  unfold setD
  split
  · exact bind_nx (ofO_nx _) (fun _ => ok_nx _) c fs
  · split <;> (intro z; cases z)
  · split <;> (intro z; cases z)
  · intro z; cases z
/-- x[k] = e, x a name that owns its cell -/
theorem ds_setI {i : Nat} {x : Str} {ke e : Expr} {p p2 : Pos} {fk fe : Ev → R D} (hu : X.A.units + 65 < cLine) (hm : Γ[i]? = some .own) (hN : X.N[i]? = some x) (hv : Vis X.env.scope x) (hd : (x == ("__debug__" : Str)) = false) (hcd : (x == ("__classdict__" : Str)) = false)
    (he : DE X T Γ XE q e fe) (hq : q ≠ .dirty) (hk : DE X T Γ XE qa ke fk) (hns : notSlice ke = true) (hs : swapsWithSole [.Subscript (.Name x p) ke p2] e pos.line X.env = pure false) (hw : swappedStores [.Subscript (.Name x p) ke p2] e X.env = pure none) :
    DS X T Γ Γ Γb XE qb (.Assign [.Subscript (.Name x p) ke p2] e pos) fun env => (fe env).bind fun x => (getV env i).bind fun o => (fk env).bind fun y => (setD o y x).bind fun z => .ok (env.set i (some z), .nx) := by
  obtain ⟨te, pe, se⟩ := he
  obtain ⟨tk, pk, sk⟩ := hk
  refine ⟨_, ps_asg pe (pg_sub (pe_var hN hv hd hcd) pk (PSet.or set_list (set_dict (by omega))) (assign_sub hns)) hs hw, fun H0 F0 σ H F env EE r h => ?_⟩
  refine se.stm r h fun d F1 H1 v _ x1 rv r1 h1 => ?_
  obtain ⟨F2, x2, _, rp⟩ := rv.rep x1 hq
  have r2 := r.ext' x2
  unfold getV at h1
  split at h1
  · rename_i o e1
    rw [R.bind_ok] at h1
    obtain ⟨w, hw, ok⟩ := r2.slot i o e1
    rw [List.getD_eq_getElem?_getD, hm] at ok
    refine ⟨w, hw, ?_⟩
    refine sk.stm r2 h1 fun dk F3 H3 vk _ x3 rk r3 h3 => ?_
    cases e2 : setD o dk d with
    | exc c fs => exact absurd e2 (setD_nx _ _ _ _ _)
    | bad => rw [e2] at h3; exact h3.elim
    | ok z =>
      rw [e2] at h3
      have h3 : ∀ F' H' σ', Fz F H F' H' → SR T Γ H0 F0 F' H' (env.set i (some z)) σ' → EE.nx σ' H' := h3
      have fz := x2.fz.trans x3.fz
      have ok3 := ok.ext x3
      unfold SlotOk at ok3
      simp only [Option.getD_some] at ok3
      have rp3 := rp.ext x3
      unfold setD at e2
      split at e2
      · rw [if_pos (show (D.lst _).cell = true from rfl)] at ok3
        obtain ⟨a, rfl, h0, hf, hat⟩ := ok3
        obtain ⟨j, e4, e2⟩ := bind_ok_of e2
        injection e2 with e2; subst e2
        cases rk.top.int
        cases hat with
        | lst ha hr =>
          rename_i vs
          have at2 : At T (upd H3 a (.lst (vs.set j v))) F3 a (.lst (_ : List D)) := .lst upd_same ((hr.set j rp3).mono (fun _ h => h) (updF hf))
          obtain ⟨s4, f4⟩ := r3.mut hm e1 rfl hw h0 hf at2
          exact .inl ⟨a, vs, _, j, rfl, rfl, ha, by rw [hr.length]; exact ofO_ok e4, h3 F3 _ σ (fz.trans f4) s4⟩
      · rw [if_pos (show (D.dK _).cell = true from rfl)] at ok3
        obtain ⟨a, rfl, h0, hf, hat⟩ := ok3
        split at e2
        · rename_i hl
          injection e2 with e2; subst e2
          cases rk.top.int
          cases hat with
          | dK ha hr =>
            refine .inr ⟨a, _, rfl, .k (k := Sum.inl _) ha (by rw [sizeLine_eq, hr.length]; exact hl), h3 F3 _ σ (fz.trans ?_) ?_⟩
            · exact (r3.mut hm e1 rfl hw h0 hf (at_put (k := Sum.inl _) hr rp3 hf)).2
            · exact (r3.mut hm e1 rfl hw h0 hf (at_put hr rp3 hf)).1
        · cases e2
      · rw [if_pos (show (D.dK _).cell = true from rfl)] at ok3
        obtain ⟨a, rfl, h0, hf, hat⟩ := ok3
        split at e2
        · rename_i hl
          injection e2 with e2; subst e2
          cases rk.top.str
          cases hat with
          | dK ha hr =>
            refine .inr ⟨a, _, rfl, .k (k := Sum.inr _) ha (by rw [sizeLine_eq, hr.length]; exact hl), h3 F3 _ σ (fz.trans ?_) ?_⟩
            · exact (r3.mut hm e1 rfl hw h0 hf (at_put (k := Sum.inr _) hr rp3 hf)).2
            · exact (r3.mut hm e1 rfl hw h0 hf (at_put hr rp3 hf)).1
        · cases e2
      · cases e2
  · exact h1.elim
/-! ### methods of a list that change it -/
/-- what a method's rule asks, by trees -/
def MutOk (T : Tab) (r : V → List V → Hp → VK → Prop) (m : D → List D → R D) : Prop := (∀ d ds c fs, m d ds ≠ .exc c fs) ∧ (∀ d ds z, m d ds = .ok z → ∃ xs, d = .lst xs) ∧
  ∀ (H : Hp) (F : Addr → Prop) (a : Addr) (xs : List D) (vs ws : List V) (ds : List D) (z : D) (Q : VK), H a = some (.lst ws) → Reps T H F ws xs → Reps T H F vs ds → m (.lst xs) ds = .ok z →
    (∀ us ys, z = .lst ys → Reps T H F us ys → Q .non (upd H a (.lst us))) → r (.ref a) vs H Q
theorem mut_app : MutOk T rAppend appD := by
  refine ⟨fun d ds c fs => ?_, fun d ds z h => ?_, fun H F a xs vs ws ds z Q ha hr hs e k => ?_⟩
  · unfold appD; split <;> first | (split <;> (intro z; cases z)) | (intro z; cases z)
  · unfold appD at h; split at h <;> first | exact ⟨_, rfl⟩ | cases h
  · unfold appD at e
    split at e
    · rename_i xs' d e1
      cases e1
      split at e
      · rename_i hl
        injection e with e; subst e
        cases hs with
        | cons h t => cases t; exact ⟨a, ws, _, rfl, rfl, ha, by rw [sizeLine_eq, hr.length]; exact hl, k _ _ rfl (hr.append (.cons h .nil))⟩
      · cases e
    · cases e
theorem mut_ins : MutOk T (fun x vs H Q => ∃ (l : Addr) (xs : List V) (i : Int) (y : V), x = .ref l ∧ vs = [.int i, y] ∧ H l = some (.lst xs) ∧ xs.length < sizeLine ∧ 0 ≤ i ∧ i < 2 ^ 63 ∧
    Q .non (upd H l (.lst (xs.take i.toNat ++ [y] ++ xs.drop i.toNat)))) insD := by
  refine ⟨fun d ds c fs => ?_, fun d ds z h => ?_, fun H F a xs vs ws ds z Q ha hr hs e k => ?_⟩
  · unfold insD; split <;> first | (split <;> (intro z; cases z)) | (intro z; cases z)
  · unfold insD at h; split at h <;> first | exact ⟨_, rfl⟩ | cases h
  · unfold insD at e
    split at e
    · rename_i xs' i d e1
      cases e1
      split at e
      · rename_i hl
        simp only [Bool.and_eq_true, decide_eq_true_eq] at hl
        injection e with e; subst e
        cases hs with
        | cons h t => cases h; cases t with
          | cons h t => cases t; exact ⟨a, ws, i, _, rfl, rfl, ha, by rw [sizeLine_eq, hr.length]; exact hl.1.1, hl.1.2, hl.2, k _ _ rfl (((hr.take _).append (.cons h .nil)).append (hr.drop _))⟩
      · cases e
    · cases e
theorem mut_clear : MutOk T rClear clearD := by
  refine ⟨fun d ds c fs => ?_, fun d ds z h => ?_, fun H F a xs vs ws ds z Q ha hr hs e k => ?_⟩
  · unfold clearD; split <;> (intro z; cases z)
  · unfold clearD at h; split at h <;> first | exact ⟨_, rfl⟩ | cases h
  · unfold clearD at e
    split at e
    · injection e with e; subst e
      cases hs
      exact ⟨a, ws, rfl, rfl, ha, k _ _ rfl .nil⟩
    · cases e
theorem mut_rev : MutOk T rReverse revMD := by
  refine ⟨fun d ds c fs => ?_, fun d ds z h => ?_, fun H F a xs vs ws ds z Q ha hr hs e k => ?_⟩
  · unfold revMD; split <;> (intro z; cases z)
  · unfold revMD at h; split at h <;> first | exact ⟨_, rfl⟩ | cases h
  · unfold revMD at e
    split at e
    · rename_i xs' e1
      cases e1
      injection e with e; subst e
      cases hs
      exact ⟨a, ws, rfl, rfl, ha, k _ _ rfl hr.reverse⟩
    · cases e
theorem remI_ok (k : Int) : ∀ (ns r : List Int), remI k ns = some r → ∃ j : Nat, ns[j]? = some k ∧ (∀ m : Nat, m < j → ns[m]? ≠ some k) ∧ r = ns.eraseIdx j
  | [], _, h => by cases h
  | n :: ns, r, h => by
    unfold remI at h
    split at h
    · rename_i e
      injection h with h
      exact ⟨0, by rw [e]; rfl, fun m hm => absurd hm (Nat.not_lt_zero _), h.symm⟩
    · rename_i e
      obtain ⟨r', h', rfl⟩ := Option.map_eq_some_iff.mp h
      obtain ⟨j, h1, h2, h3⟩ := remI_ok k ns r' h'
      refine ⟨j + 1, h1, fun m hm => ?_, by rw [h3]; rfl⟩
      cases m with
      | zero => exact fun z => e (Option.some.inj z)
      | succ m => exact h2 m (by omega)
theorem mut_rem : MutOk T rRemI remD := by
  refine ⟨fun d ds c fs => ?_, fun d ds z h => ?_, fun H F a xs vs ws ds z Q ha hr hs e k => ?_⟩
  · unfold remD; split
    · exact bind_nx (allI_nx _) (fun _ => bind_nx (ofO_nx _) fun _ => ok_nx _) c fs
    · intro z; cases z
  · unfold remD at h; split at h <;> first | exact ⟨_, rfl⟩ | cases h
  · unfold remD at e
    split at e
    · rename_i xs' kk e1
      cases e1
      obtain ⟨ns, e2, e3⟩ := bind_ok_of e
      obtain ⟨r, e4, e5⟩ := bind_ok_of e3
      injection e5 with e5; subst e5
      cases allI_ok e2
      cases hr.ofInts
      obtain ⟨j, j1, j2, rfl⟩ := remI_ok _ _ _ (ofO_ok e4)
      cases hs with
      | cons h t => cases h; cases t; exact ⟨a, ns, _, j, rfl, rfl, ha, j1, j2, k _ _ rfl Reps.ints⟩
    · cases e
theorem simMut {i : Nat} {r : V → List V → Hp → VK → Prop} {m : D → List D → R D} {t : TA} {fs : Ev → R (List D)} (hK : X.K = T.K) (hm : Γ[i]? = some .own) (mo : MutOk T r m) (ss : SimC T Γ XE t fs) (hx : ∀ env c ds, fs env ≠ .exc c ds) :
    SimS T Γ Γ Γb XE qb (tDrop (tBM X.K "list" r (tVar i) t)) fun env => (getV env i).bind fun o => (fs env).bind fun ds => (m o ds).bind fun z => .ok (env.set i (some z), .nx) := by
  intro H0 F0 σ H F env EE rr h
  unfold getV at h
  dsimp only at h
  split at h
  · rename_i o e1
    rw [R.bind_ok] at h
    obtain ⟨w, hw, ok⟩ := rr.slot i o e1
    rw [List.getD_eq_getElem?_getD, hm] at ok
    refine ⟨w, hw, ?_⟩
    cases ef : fs env with
    | bad => rw [ef] at h; exact h.elim
    | exc c fs' => exact absurd ef (hx _ _ _)
    | ok ds =>
      rw [ef, R.bind_ok] at h
      cases em : m o ds with
      | bad => rw [em] at h; exact h.elim
      | exc c fs' => exact absurd em (mo.1 _ _ _ _)
      | ok z =>
        rw [em] at h
        have h : ∀ F' H' σ', Fz F H F' H' → SR T Γ H0 F0 F' H' (env.set i (some z)) σ' → EE.nx σ' H' := h
        obtain ⟨xs, rfl⟩ := mo.2.1 _ _ _ em
        unfold SlotOk at ok
        simp only [Option.getD_some] at ok
        rw [if_pos (show (D.lst xs).cell = true from rfl)] at ok
        obtain ⟨a, rfl, h0, hf, hat⟩ := ok
        cases hat with
        | lst ha hr =>
          refine ⟨.inl ⟨rfl, _, SqL.of ha⟩, ?_⟩
          refine ss H0 F0 σ H F env _ rr ?_
          rw [ef]
          intro F1 H1 vs x1 rs
          have r1 := rr.ext' x1
          have hf1 : ¬ F1 a := fun z => by
            rcases x1.new a z with z | ⟨z, _⟩
            · exact hf z
            · exact z.no ha (fun _ q => nomatch q)
          refine mo.2.2 H1 F1 a xs vs _ ds z _ (x1.keep _ _ ha rfl) (hr.ext x1) rs em fun us ys ez ru => ?_
          subst ez
          have at2 : At T (upd H1 a (.lst us)) F1 a (.lst ys) := .lst upd_same (ru.mono (fun _ h => h) (updF hf1))
          obtain ⟨s4, f4⟩ := r1.mut hm e1 rfl hw h0 hf1 at2
          exact h F1 _ σ (x1.fz.trans f4) s4
  · exact h.elim
theorem ds_mut {i : Nat} {x name : Str} {id : String} {a : Expr} {es : List Expr} {p apos cpos : Pos} {r : V → List V → Hp → VK → Prop} {m : D → List D → R D} {fs : Ev → R (List D)} (hK : X.K = T.K) (hm : Γ[i]? = some .own) (mo : MutOk T r m) (hr : MtR X id r) (slot : Slot "list" name id) (hty : typeOf (.builtin id) = pure (.type "method_descriptor"))
    (hN : X.N[i]? = some x) (hv : Vis X.env.scope x) (hd : (x == ("__debug__" : Str)) = false) (hcd : (x == ("__classdict__" : Str)) = false) (hp : plainArg a = true) (hps : es.all plainArg = true) (hn : es.length < 28) (hl : (apos.endLine == cpos.line) = true)
    (ha : DC X T Γ XE (a :: es) fs) (hx : ∀ env c ds, fs env ≠ .exc c ds) : DS X T Γ Γ Γb XE qb (.Expr (.Call (.Attribute (.Name x p) name apos) (a :: es) [] cpos) pos) fun env => (getV env i).bind fun o => (fs env).bind fun ds => (m o ds).bind fun z => .ok (env.set i (some z), .nx) := by
  obtain ⟨t, pt, ss⟩ := ha
  refine ⟨_, ps_expr (pe_bm PySem.F.plainAttrs_list slot hty hr (pe_var hN hv hd hcd) pt rfl ?_ hl (starEach_cons hp) (backTo_none hps)) rfl, simMut hK hm mo ss hx⟩
  have := methForm (pos := cpos) (env := X.env) (es := a :: es) (by rw [List.all_cons, hp, hps]; rfl) (by rw [List.length_cons]; omega)
  exact this
theorem ds_mut0 {i : Nat} {x name : Str} {id : String} {p apos cpos : Pos} {r : V → List V → Hp → VK → Prop} {m : D → List D → R D} (hK : X.K = T.K) (hm : Γ[i]? = some .own) (mo : MutOk T r m) (hr : MtR X id r) (slot : Slot "list" name id) (hty : typeOf (.builtin id) = pure (.type "method_descriptor"))
    (hN : X.N[i]? = some x) (hv : Vis X.env.scope x) (hd : (x == ("__debug__" : Str)) = false) (hcd : (x == ("__classdict__" : Str)) = false) (hl : (apos.endLine == cpos.line) = true) : DS X T Γ Γ Γb XE qb (.Expr (.Call (.Attribute (.Name x p) name apos) [] [] cpos) pos) fun env => (getV env i).bind fun o => (R.ok ([] : List D)).bind fun ds => (m o ds).bind fun z => .ok (env.set i (some z), .nx) := by
  refine ⟨_, ps_expr (pe_bm0 PySem.F.plainAttrs_list slot hty hr (pe_var hN hv hd hcd) rfl hl) rfl, ?_⟩
  have := simMut (X := X) (Γb := Γb) (qb := qb) (t := tNil) (fs := fun _ => .ok []) hK hm mo (fun _ _ _ H F _ _ _ h => h F H [] (Ext.refl _ _) .nil : SimC T Γ XE tNil fun _ => .ok []) (fun _ _ _ z => by cases z)
  exact this
/-! ### an item taken out -/
def PopOk (T : Tab) (r : V → List V → Hp → VK → Prop) (m : D → List D → R (D × D)) : Prop := (∀ d ds c fs, m d ds ≠ .exc c fs) ∧ (∀ d ds z, m d ds = .ok z → ∃ xs, d = .lst xs) ∧
  ∀ (H : Hp) (F : Addr → Prop) (a : Addr) (xs : List D) (vs ws : List V) (ds : List D) (z : D × D) (Q : VK), H a = some (.lst ws) → Reps T H F ws xs → Reps T H F vs ds → m (.lst xs) ds = .ok z →
    (∀ u us ys, z.2 = .lst ys → Rep T H F u z.1 → Reps T H F us ys → Q u (upd H a (.lst us))) → r (.ref a) vs H Q
theorem Reps.dropLast {H : Hp} {F : Addr → Prop} {vs : List V} {ds : List D} (h : Reps T H F vs ds) : Reps T H F vs.dropLast ds.dropLast := by
  rw [List.dropLast_eq_take, List.dropLast_eq_take, h.length]
  exact h.take _
theorem Reps.erase {H : Hp} {F : Addr → Prop} : ∀ {vs : List V} {ds : List D} (k : Nat), Reps T H F vs ds → Reps T H F (vs.eraseIdx k) (ds.eraseIdx k)
  | _, _, _, .nil => .nil
  | _, _, 0, .cons _ t => t
  | _, _, k + 1, .cons h t => .cons h (Reps.erase k t)
theorem pop_pop0 : PopOk T rPop pop0D := by
  refine ⟨fun d ds c fs => ?_, fun d ds z h => ?_, fun H F a xs vs ws ds z Q ha hr hs e k => ?_⟩
  · unfold pop0D; split
    · exact bind_nx (ofO_nx _) (fun _ => ok_nx _) c fs
    · intro z; cases z
  · unfold pop0D at h; split at h <;> first | exact ⟨_, rfl⟩ | cases h
  · unfold pop0D at e
    split at e
    · rename_i xs' e1
      cases e1
      obtain ⟨y, e2, e3⟩ := bind_ok_of e
      injection e3 with e3; subst e3
      cases hs
      obtain ⟨u, hu, ru⟩ := hr.get (ofO_ok e2)
      exact ⟨a, ws, u, rfl, rfl, ha, by rw [hr.length]; exact hu, k _ _ _ rfl ru hr.dropLast⟩
    · cases e
theorem pop_popAt : PopOk T rPopAt popAtD := by
  refine ⟨fun d ds c fs => ?_, fun d ds z h => ?_, fun H F a xs vs ws ds z Q ha hr hs e k => ?_⟩
  · unfold popAtD; split
    · split
      · exact bind_nx (ofO_nx _) (fun _ => bind_nx (ofO_nx _) fun _ => ok_nx _) c fs
      · intro z; cases z
    · intro z; cases z
  · unfold popAtD at h; split at h <;> first | exact ⟨_, rfl⟩ | cases h
  · unfold popAtD at e
    split at e
    · rename_i xs' i e1
      cases e1
      split at e
      · rename_i hl
        simp only [Bool.and_eq_true, decide_eq_true_eq] at hl
        obtain ⟨kk, e2, e3⟩ := bind_ok_of e
        obtain ⟨y, e4, e5⟩ := bind_ok_of e3
        injection e5 with e5; subst e5
        obtain ⟨u, hu, ru⟩ := hr.get (ofO_ok e4)
        cases hs with
        | cons h t => cases h; cases t; exact ⟨a, ws, i, kk, u, rfl, rfl, ha, hl.1, hl.2, by rw [hr.length]; exact ofO_ok e2, hu, k _ _ _ rfl ru (hr.erase _)⟩
      · cases e
    · cases e
/-- x.pop(..) as a statement, or its item given to a name -/
theorem simPop {i : Nat} {r : V → List V → Hp → VK → Prop} {m : D → List D → R (D × D)} {t : TA} {fs : Ev → R (List D)} (hK : X.K = T.K) (hm : Γ[i]? = some .own) (mo : PopOk T r m) (ss : SimC T Γ XE t fs) (hx : ∀ env c ds, fs env ≠ .exc c ds) :
    ∀ (H0 : Hp) (F0 : Addr → Prop) (σ : St) (H : Hp) (F : Addr → Prop) (env : Ev) (Q : VK) (P : D × D → Prop), SR T Γ H0 F0 F H env σ → wpR ((getV env i).bind fun o => (fs env).bind fun ds => m o ds) P (fun _ _ => False) →
      (∀ z F' H' u, P z → Fz F H F' H' → SR T Γ H0 F0 F' H' (env.set i (some z.2)) σ → Rep T H' F' u z.1 → Q u H') → tBM X.K "list" r (tVar i) t σ H Q := by
  intro H0 F0 σ H F env Q P rr h kk
  unfold getV at h
  split at h
  · rename_i o e1
    rw [R.bind_ok] at h
    obtain ⟨w, hw, ok⟩ := rr.slot i o e1
    rw [List.getD_eq_getElem?_getD, hm] at ok
    refine ⟨w, hw, ?_⟩
    cases ef : fs env with
    | bad => rw [ef] at h; exact h.elim
    | exc c fs' => exact absurd ef (hx _ _ _)
    | ok ds =>
      rw [ef, R.bind_ok] at h
      cases em : m o ds with
      | bad => rw [em] at h; exact h.elim
      | exc c fs' => exact absurd em (mo.1 _ _ _ _)
      | ok z =>
        rw [em] at h
        obtain ⟨xs, rfl⟩ := mo.2.1 _ _ _ em
        unfold SlotOk at ok
        simp only [Option.getD_some] at ok
        rw [if_pos (show (D.lst xs).cell = true from rfl)] at ok
        obtain ⟨a, rfl, h0, hf, hat⟩ := ok
        cases hat with
        | lst ha hr =>
          refine ⟨.inl ⟨rfl, _, SqL.of ha⟩, ?_⟩
          refine ss H0 F0 σ H F env _ rr ?_
          rw [ef]
          intro F1 H1 vs x1 rs
          have r1 := rr.ext' x1
          have hf1 : ¬ F1 a := fun z => by
            rcases x1.new a z with z | ⟨z, _⟩
            · exact hf z
            · exact z.no ha (fun _ q => nomatch q)
          refine mo.2.2 H1 F1 a xs vs _ ds z _ (x1.keep _ _ ha rfl) (hr.ext x1) rs em fun u us ys ez rz ru => ?_
          have at2 : At T (upd H1 a (.lst us)) F1 a z.2 := by rw [ez]; exact .lst upd_same (ru.mono (fun _ h => h) (updF hf1))
          obtain ⟨s4, f4⟩ := r1.mut hm e1 rfl hw h0 hf1 at2
          exact kk z F1 _ u h (x1.fz.trans f4) s4 (rz.mono (fun _ h => h) (updF hf1))
  · exact h.elim
end
end Ev

set_option maxHeartbeats 4000000
namespace Ev
open PySem PySem.Spec PyProof.Rows L2
variable [Tbs]
section
variable {X : Cx} {T : Tab} {Γ Γ' Γ'' Γb : List Mo} {XE : XT} {q qa qb : Qu} {pos : Pos} {tg a : Expr} {fa : Ev → R D} {st : Bool}
/-- an assignment of any form whose reading is known -/
theorem ds_asgL {i : Nat} {s : Stmt} {te : TE} {f : Ev → R D} (hp : PS X s (tAsg te (gName i))) (hl : i < Γ.length) (se : SimE T Γ XE q te f) (hq : q ≠ .dirty) : DS X T Γ (Γ.set i (moQ q)) Γb XE qb s fun env => (f env).bind fun x => .ok (env.set i (some x), .nx) :=
  ⟨_, hp, simAsg hl se hq⟩
/-- x.pop(..) alone -/
theorem ds_pop {i : Nat} {te : TE} {e : Expr} {fs : Ev → R (List D)} {m : D → List D → R (D × D)} (hp : PE X e te) (hs : swapsWith e none pos.line X.env = pure false) (hx : ∀ env c ds, fs env ≠ .exc c ds) (mo : ∀ d ds c fs, m d ds ≠ .exc c fs)
    (sp : ∀ (H0 : Hp) (F0 : Addr → Prop) (σ : St) (H : Hp) (F : Addr → Prop) (env : Ev) (Q : VK) (P : D × D → Prop), SR T Γ H0 F0 F H env σ → wpR ((getV env i).bind fun o => (fs env).bind fun ds => m o ds) P (fun _ _ => False) →
      (∀ z F' H' u, P z → Fz F H F' H' → SR T Γ H0 F0 F' H' (env.set i (some z.2)) σ → Rep T H' F' u z.1 → Q u H') → te σ H Q) :
    DS X T Γ Γ Γb XE qb (.Expr e pos) fun env => (getV env i).bind fun o => (fs env).bind fun ds => (m o ds).bind fun z => .ok (env.set i (some z.2), .nx) := by
  refine ⟨_, ps_expr hp hs, fun H0 F0 σ H F env D r h => ?_⟩
  refine sp H0 F0 σ H F env _ (fun z => ∀ F' H' σ', Fz F H F' H' → SR T Γ H0 F0 F' H' (env.set i (some z.2)) σ' → D.nx σ' H') r ?_ fun z F' H' u hz fz sr _ => hz F' H' σ fz sr
  dsimp only at h
  cases e1 : getV env i with
  | bad => rw [e1] at h; exact h.elim
  | exc c fs' => unfold getV at e1; split at e1 <;> cases e1
  | ok o =>
    rw [e1, R.bind_ok] at h
    cases e2 : fs env with
    | bad => rw [e2] at h; exact h.elim
    | exc c fs' => exact absurd e2 (hx _ _ _)
    | ok ds =>
      rw [e2, R.bind_ok] at h
      rw [R.bind_ok]
      show wpR ((R.ok ds).bind fun ds => m o ds) _ _
      rw [R.bind_ok]
      cases e3 : m o ds with
      | bad => rw [e3] at h; exact h.elim
      | exc c fs' => exact absurd e3 (mo _ _ _ _)
      | ok z => rw [e3] at h; exact h
/-- name = x.pop(..) -/
theorem ds_popA {i j : Nat} {y : Str} {py : Pos} {te : TE} {e : Expr} {fs : Ev → R (List D)} {m : D → List D → R (D × D)} (hp : PE X e te) (hs : swapsWith e (some (.Name y py)) pos.line X.env = pure false) (hx : ∀ env c ds, fs env ≠ .exc c ds) (mo : ∀ d ds c fs, m d ds ≠ .exc c fs)
    (hN : X.N.Nodup) (hj : X.N[j]? = some y) (hy : Loc X.env.scope y) (hf : X.fn y = true ∨ X.env.scope.names.lookup y = some .local) (hl : j < Γ.length) (hij : i ≠ j)
    (sp : ∀ (H0 : Hp) (F0 : Addr → Prop) (σ : St) (H : Hp) (F : Addr → Prop) (env : Ev) (Q : VK) (P : D × D → Prop), SR T Γ H0 F0 F H env σ → wpR ((getV env i).bind fun o => (fs env).bind fun ds => m o ds) P (fun _ _ => False) →
      (∀ z F' H' u, P z → Fz F H F' H' → SR T Γ H0 F0 F' H' (env.set i (some z.2)) σ → Rep T H' F' u z.1 → Q u H') → te σ H Q) :
    DS X T Γ (Γ.set j .frz) Γb XE qb (.Assign [.Name y py] e pos) fun env => (getV env i).bind fun o => (fs env).bind fun ds => (m o ds).bind fun z => .ok ((env.set i (some z.2)).set j (some z.1), .nx) := by
  refine ⟨_, ps_set hN hj hy hp hs hf, fun H0 F0 σ H F env D r h => ?_⟩
  refine sp H0 F0 σ H F env _ (fun z => ∀ F' H' σ', Fz F H F' H' → SR T (Γ.set j .frz) H0 F0 F' H' ((env.set i (some z.2)).set j (some z.1)) σ' → D.nx σ' H') r ?_ fun z F' H' u hz fz sr ru => ?_
  · dsimp only at h
    cases e1 : getV env i with
    | bad => rw [e1] at h; exact h.elim
    | exc c fs' => unfold getV at e1; split at e1 <;> cases e1
    | ok o =>
      rw [e1, R.bind_ok] at h
      cases e2 : fs env with
      | bad => rw [e2] at h; exact h.elim
      | exc c fs' => exact absurd e2 (hx _ _ _)
      | ok ds =>
        rw [e2, R.bind_ok] at h
        rw [R.bind_ok]
        show wpR ((R.ok ds).bind fun ds => m o ds) _ _
        rw [R.bind_ok]
        cases e3 : m o ds with
        | bad => rw [e3] at h; exact h.elim
        | exc c fs' => exact absurd e3 (mo _ _ _ _)
        | ok z => rw [e3] at h; exact h
  · have rd := sr.drop j .frz
    have hset : (Γ.set j .frz)[j]? = some .frz := List.getElem?_set_self hl
    have r2 := rd.setF j ru (.of hset)
    rw [List.set_set, List.set_set] at r2
    exact hz F' H' _ fz r2
/-! ### other walks -/
theorem di_rev1 {p p2 pos2 : Pos} (hg : Gl X "reversed") (hm : X.mg "reversed" = none) (hg2 : Gl X "range") (hm2 : X.mg "range" = none) (hp : plainArg a = true) (ha : DE X T Γ XE q a fa) :
    DI X T Γ XE st tg (.Call (.Name "reversed" p) [.Call (.Name "range" p2) [a] [] pos2] [] pos) fun env => (fa env).bind fun x => x.asI.bind fun n => (rangeD 0 n).bind fun ds => .ok ds.reverse := by
  obtain ⟨t, pa, sa⟩ := ha
  refine ⟨_, pi_revR hg hm (prg_1 hg2 hm2 pa (starEach_cons hp)) (starEach_cons rfl), fun H0 F0 σ H F env RR r h => ?_⟩
  refine sa.top (P := fun ds => ∀ F1 H1 J, Ext F H F1 H1 → ItOk T J ds F1 (Kp st H0 F1 H1) → RR J H1) r h fun d1 F1 H1 v1 x1 t1 r1 h1 => ?_
  cases e : d1.asI with
  | exc c fs => exact absurd e (asI_nx _ _ _)
  | bad => rw [e] at h1; exact h1.elim
  | ok n =>
    rw [e, Ev.R.bind_ok] at h1
    cases asI_ok e
    cases e2 : rangeD 0 n with
    | exc c fs => exact absurd e2 (rangeD_nx _ _ _ _)
    | bad => rw [e2] at h1; exact h1.elim
    | ok ds =>
      rw [e2, Ev.R.bind_ok] at h1
      obtain ⟨b1, b2, b3, b4, rfl⟩ := rangeD_ok e2
      cases t1.int
      exact ⟨n, rfl, b1, b2, b3, b4, (show ∀ F1 H1 J, _ from h1) F1 H1 _ x1 (itOk_rangeR n)⟩
theorem enumD_get : ∀ (ds : List D) (k i : Nat) (d : D), ds[i]? = some d → (enumD k ds)[i]? = some (.tup [.int ((k + i : Nat) : Int), d])
  | [], _, _, _, h => by simp at h
  | x :: ds, k, 0, d, h => by simp at h; subst h; simp [enumD]
  | x :: ds, k, i + 1, d, h => by
    have := enumD_get ds (k + 1) i d (by simpa using h)
    rw [show k + 1 + i = k + (i + 1) by omega] at this
    simpa [enumD] using this
theorem enumD_len : ∀ (ds : List D) (k : Nat), (enumD k ds).length = ds.length
  | [], _ => rfl
  | _ :: ds, k => congrArg (· + 1) (enumD_len ds (k + 1))
theorem Src.l' {F1 : Addr → Prop} {H1 : Hp} {P : Hp → Prop} {v : V} {d : D} {ds : List D} (h : Src T F1 H1 P v d ds) (e : d.lseq = some ds) : ∃ x vs, v = .ref x ∧ (∀ H', P H' → SqL T.K H' x vs) ∧ SqL T.K H1 x vs ∧ Reps T H1 F1 vs ds := by
  cases h with
  | l h0 h1 h2 h3 h4 => exact ⟨_, _, rfl, h1, h2, h3⟩
  | t h1 h2 h3 => cases e
theorem lseq_seq {d : D} {ds : List D} (h : d.lseq = some ds) : d.seq = some ds := by
  cases d <;> first | exact h | cases h
abbrev HsSrc (T : Tab) (Γ : List Mo) (st : Bool) (fa : Ev → R D) (t : TE) : Prop := ∀ (H0 : Hp) (F0 : Addr → Prop) (σ : St) (H : Hp) (F : Addr → Prop) (env : Ev) (d : D) (ds : List D) (Q : VK), SR T Γ H0 F0 F H env σ → fa env = .ok d → d.seq = some ds →
      (∀ F1 H1 v, Ext F H F1 H1 → SR T Γ H0 F0 F1 H1 env σ → Src T F1 H1 (Kp st H0 F1 H1) v d ds → Q v H1) → t σ H Q
/-- a list walked in some other way -/
theorem di_lseq (g : List D → List D) (J : Addr → List V → It) {e : Expr} {t : TE} {wi : TI} (hp : PI X tg e wi) (hs : HsSrc T Γ st fa t) (hx : ∀ env c fs, fa env ≠ .exc c fs)
    (hw : ∀ σ H RR, wi σ H RR = t σ H fun v H1 => ∃ a xs, [v] = [V.ref a] ∧ SqL T.K H1 a xs ∧ RR (J a xs) H1)
    (hJ : ∀ {F1 : Addr → Prop} {H1 : Hp} {P : Hp → Prop} {x : Addr} {vs : List V} {ds : List D}, (∀ H', P H' → ∀ a o, F1 a → H1 a = some o → isT o = false → H' a = some o) → (∀ H', P H' → SqL T.K H' x vs) → Reps T H1 F1 vs ds → ItOk T (J x vs) (g ds) F1 P) :
    DI X T Γ XE st tg e fun env => (fa env).bind fun x => (ofO x.lseq).bind fun ds => .ok (g ds) := by
  refine ⟨wi, hp, fun H0 F0 σ H F env RR r h => ?_⟩
  cases e1 : fa env with
  | exc c fs => exact absurd e1 (hx _ _ _)
  | bad => dsimp only at h; rw [e1] at h; exact h.elim
  | ok d =>
    dsimp only at h
    rw [e1, Ev.R.bind_ok] at h
    cases e2 : d.lseq with
    | none => rw [e2] at h; exact h.elim
    | some ds =>
      rw [e2] at h
      have h : ∀ F1 H1 J, Ext F H F1 H1 → ItOk T J (g ds) F1 (Kp st H0 F1 H1) → RR J H1 := h
      rw [hw]
      refine hs H0 F0 σ H F env d ds _ r e1 (lseq_seq e2) fun F1 H1 v x1 sr s => ?_
      obtain ⟨x, vs, rfl, h2, h3, h4⟩ := s.l' e2
      exact ⟨x, vs, rfl, h3, h F1 H1 _ x1 (hJ (fun H' p => p.1) h2 h4)⟩
theorem itOk_enum {F1 : Addr → Prop} {H1 : Hp} {P : Hp → Prop} {x : Addr} {vs : List V} {ds : List D} (hF : ∀ H', P H' → ∀ a o, F1 a → H1 a = some o → isT o = false → H' a = some o) (hs : ∀ H', P H' → SqL T.K H' x vs) (r : Reps T H1 F1 vs ds) : ItOk T (Ite T.K x) (enumD 0 ds) F1 P := by
  refine ⟨_, _, by rw [enumD_len, ← r.length]; exact walk_enum (xs := vs), hs, fun i H v H' F hi hp hF' y => ?_⟩
  obtain ⟨p, u, w, rfl, hn, rfl, e1, y⟩ := y
  cases e1
  obtain ⟨d, e, rv⟩ := r.getV y
  refine ⟨_, _, Ext.laidF hn, by rw [enumD_get ds 0 i d e, Nat.zero_add], .tup (.inr rfl) upd_same ?_⟩
  have rv2 : Rep T H F w d := rv.mono hF' (hF _ hp)
  exact .cons (.int _) (.cons (rv2.ext (Ext.laidF hn)) .nil)
theorem itOk_rev {F1 : Addr → Prop} {H1 : Hp} {P : Hp → Prop} {x : Addr} {vs : List V} {ds : List D} (hF : ∀ H', P H' → ∀ a o, F1 a → H1 a = some o → isT o = false → H' a = some o) (hs : ∀ H', P H' → SqL T.K H' x vs) (r : Reps T H1 F1 vs ds) : ItOk T (Itv T.K x vs.length) ds.reverse F1 P := by
  refine ⟨_, _, by rw [List.length_reverse, ← r.length]; exact walk_rev (xs := vs), hs, fun i H v H' F hi hp hF' y => ?_⟩
  obtain ⟨rfl, y⟩ := y
  obtain ⟨d, e, rv⟩ := r.getV y
  rw [List.length_reverse] at hi
  refine ⟨F, d, Ext.refl _ _, ?_, rv.mono hF' (hF _ hp)⟩
  rw [List.getElem?_reverse hi, ← r.length]
  exact e
theorem di_enum {t : TE} {elts : List Expr} {kk : Nat} {tpos p : Pos} (hK : X.K = T.K) (hg : Gl X "enumerate") (hm : X.mg "enumerate" = none) (hp : plainArg a = true) (pa : PE X a t) (hs : HsSrc T Γ st fa t) (hx : ∀ env c fs, fa env ≠ .exc c fs) :
    DI X T Γ XE st (.Tuple elts kk tpos) (.Call (.Name "enumerate" p) [a] [] pos) fun env => (fa env).bind fun x => (ofO x.lseq).bind fun ds => .ok (enumD 0 ds) :=
  di_lseq (enumD 0) (fun a _ => Ite T.K a) (t := t) (wi := iEnum T.K (tCons t tNil)) (by rw [← hK]; exact pi_enum hg hm (pa_cons pa pa_nil (starEach_cons hp)) (starEach_cons hp)) hs hx (fun _ _ _ => rfl) itOk_enum
theorem di_revL {t : TE} {p : Pos} (hK : X.K = T.K) (hg : Gl X "reversed") (hm : X.mg "reversed" = none) (hp : plainArg a = true) (pa : PE X a t) (hs : HsSrc T Γ st fa t) (hx : ∀ env c fs, fa env ≠ .exc c fs) :
    DI X T Γ XE st tg (.Call (.Name "reversed" p) [a] [] pos) fun env => (fa env).bind fun x => (ofO x.lseq).bind fun ds => .ok ds.reverse :=
  di_lseq List.reverse (fun a xs => Itv T.K a xs.length) (t := t) (wi := iRev T.K (tCons t tNil)) (by rw [← hK]; exact pi_reversed hg hm (pa_cons pa pa_nil (starEach_cons hp)) (starEach_cons hp)) hs hx (fun _ _ _ => rfl) itOk_rev
end
section
variable {P : Program} {w : World} {A : Around} {E : Value → Shared → Prop} {s : Shared}
/-- set(xs), xs a list of ints, its table told (the library tells it for tuples alone; the same road) -/
theorem set_ints {l : Addr} {items : Array Value} (ns : List Int) {Q : Value → Shared → Prop} (hh : A.handled = none) (hl : s.heap.IsList l items) (hit : IntsAre items.toList ns) (hb : ns.length + 1 < scanBound)
    (h : ∀ (h' : Heap) (tk c : Nat), SetR w h' s.heap.objs.size (fun j => decide (j ∈ ns)) c → c ≤ ns.length → (∀ b o, s.heap.get? b = some o → h'.get? b = some o) → Q (.ref s.heap.objs.size) { s with heap := h', toks := tk }) :
    wpAny (model P w) A (call (.type "set") [.ref l]) Q E s := by
  have size : items.size = ns.length := by
    have q := IntsAre.length hit
    rwa [Array.length_toList] at q
  obtain ⟨c, tl, mro⟩ := PySem.F.called_set.mro
  have k1 := PySem.F.called_set.made
  have k2 := PySem.F.called_set.sub
  refine wpAny_call (codeAny_of_tree ?_)
  show wpAny _ _ (callAny (.type "set") _) _ _ _
  refine wpAny_pure ⟨Code.quiet_builtin _ (by decide +kernel), codeAny_builtin PySem.F.entry_type_call ?_⟩
  rw [Around.under_plain (weight_type_call_type "set" [.ref l] []) rfl]
  have k3 := PySem.F.called_set.notType
  have k4 := PySem.F.called_set.canCreate
  have k5 := F.typeCall_set_1 (.ref l)
  repeat (any_goals (first | assumption | wp_step))
  generalize hN : ({ cls := .type "set", dict := none, data := .set #[] 0 (.fresh 0 0 (!w.params.followText "set-order")) } : Obj) = N
  refine codeAny_mono (code_set_led1 (.ref l) (E := E) (Q₁ := fun obj s₁ => obj = .ref s.heap.objs.size ∧ s₁ = { s with heap := s.heap.push N }) ⟨rfl, by rw [hN]⟩) fun r s₁ hr => ?_
  cases r with
  | error e => exact hr
  | ok fl =>
    cases fl with
    | ret obj =>
      obtain ⟨rfl, rfl⟩ := hr
      have at0 : (s.heap.push N).get? s.heap.objs.size = some N := Heap.get?_push_size _ (by subst hN; rfl)
      have ty : Shared.TypeIs { s with heap := s.heap.push N } (.ref s.heap.objs.size) "set" := ⟨_, at0, by subst hN; rfl⟩
      have k6 := PySem.F.called_set.init.lookup
      have k7 := PySem.F.called_set.init.bind (.ref s.heap.objs.size)
      repeat (any_goals (first | assumption | wp_step))
      refine codeAny_mono (codeAny_call_builtin (R := wants (fun r s₂ => r = .none ∧ ∃ h' tk c, s₂ = { s with heap := h', toks := tk } ∧ SetR w h' s.heap.objs.size (fun j => decide (j ∈ ns)) c ∧ c ≤ ns.length ∧
          (∀ b o, s.heap.get? b = some o → h'.get? b = some o)) E) PySem.F.called_set.init.plain PySem.F.entry_set_init (check_set_init_1 ty ?_)) fun r₂ s₂ hr₂ => ?_
      · obtain ⟨ol, hol, hcl, nl, hdl⟩ := hl
        obtain ⟨ocls, odict, odata, oslots⟩ := ol
        simp only at hcl hdl
        subst hcl; subst hdl
        have hol' : (s.heap.push N).get? l = some { cls := .type "list", dict := odict, data := .seq items nl, slots := oslots } := Heap.get?_push_of_some _ hol
        have j1 := PySem.F.sub_list_set
        have j2 := PySem.F.sub_list_frozenset
        have j3 : (Value.type "list" == Value.type "dict") = false := by decide
        have hl1 : (s.heap.push N).IsList l items := ⟨_, hol', rfl, nl, rfl⟩
        subst hN
        unfold Builtin.«set.__init__» noKeywords Builtin.Frozenset.updateFrom
        generalize hPI : pyIter = PI
        wp_walk
        subst hPI
        refine wpAny_pyIter_list hl1 ?_
        refine wpAny_bind (wpAny_runValue ?_)
        have hlS : l < s.heap.objs.size := Heap.lt_size hol
        have ne1 : l ≠ (s.heap.push { cls := .type "set", dict := none, data := .set #[] 0 (.fresh 0 0 (!w.params.followText "set-order")) }).objs.size := by rw [Heap.size_push]; exact Nat.ne_of_lt (Nat.lt_succ_of_lt hlS)
        have ne2 : s.heap.objs.size ∉ [(s.heap.push { cls := .type "set", dict := none, data := .set #[] 0 (.fresh 0 0 (!w.params.followText "set-order")) }).objs.size, l] := by
          rw [Heap.size_push]
          simp only [List.mem_cons, List.not_mem_nil, or_false, not_or]
          exact ⟨Nat.ne_of_lt (Nat.lt_succ_self _), Nat.ne_of_gt hlS⟩
        have items_at : ∀ (i : Nat) (v : Value), items[i]? = some v → ∃ k t, ns[i]? = some k ∧ v = .int k t := fun i v hv => by
          have hi : i < ns.length := by rw [← size]; exact (Array.getElem?_eq_some_iff.mp hv).1
          obtain ⟨t, e⟩ := IntsAre.int_at hit i v (by rw [Array.getElem?_toList]; exact hv)
          exact ⟨ns[i], t, List.getElem?_eq_getElem hi, by rw [e, List.getD_eq_getElem?_getD, List.getElem?_eq_getElem hi] <;> rfl⟩
        refine set_update_ints ((Walks.list (show A.in1.in1.in1.handled = none by simp [hh]) _ l ne1 items).toS) s.heap.objs.size ne2 ns size hb items_at (items.size - 0) 0 _ (by omega) (Nat.zero_le _)
          ⟨⟨_, Heap.get?_push_size _ rfl, rfl, rfl⟩, (hl1.push _)⟩ ?first ?rest
        case first =>
          exact ⟨0, Nat.le_refl 0, setR_new_at (Heap.get?_push_of_some _ at0)⟩
        case rest =>
          intro s' c' hm hc' hS'
          obtain ⟨h', g2, d', tk', os'⟩ := s'
          have eg : g2 = s.gens := hm.gens
          have ed : d' = s.drawn := hm.drawn
          have eo : os' = s.os := hm.os
          subst eg; subst ed; subst eo
          show wpAny _ _ _ _ _ _
          refine wpAny_pure ?_
          show wpAny _ _ (ret Value.none) _ _ _
          rw [size] at hc'
          refine wpAny_pure ⟨rfl, h', tk', c', rfl, hS', hc', fun b o e => ?_⟩
          have b0 : b < s.heap.objs.size := Heap.lt_size e
          refine hm.heap b o ?_ (Heap.get?_push_of_some _ (Heap.get?_push_of_some _ e))
          rw [Heap.size_push]
          simp only [List.mem_cons, List.not_mem_nil, or_false, not_or]
          exact ⟨Nat.ne_of_lt b0, Nat.ne_of_lt (Nat.lt_succ_of_lt b0)⟩
      · cases r₂ with
        | error e => exact hr₂
        | ok fl₂ =>
          cases fl₂ with
          | ret r =>
            obtain ⟨rfl, h', tk, c', rfl, hS', hc', hk'⟩ := hr₂
            repeat (any_goals (first | assumption | wp_step))
            exact h _ _ _ hS' hc' hk'
          | _ => exact hr₂.elim
    | _ => exact hr.elim
end
theorem insU_mem (n k : Int) : ∀ l : List Int, k ∈ insU n l ↔ k = n ∨ k ∈ l
  | [] => by unfold insU; simp
  | m :: r => by
    unfold insU
    split
    · simp
    · split
      · rename_i h; subst h; simp
      · rw [List.mem_cons, insU_mem n k r, List.mem_cons]
        exact ⟨fun h => by rcases h with h | h | h <;> simp [h], fun h => by rcases h with h | h | h <;> simp [h]⟩
theorem insU_up (n : Int) : ∀ l : List Int, l.Pairwise (· < ·) → (insU n l).Pairwise (· < ·)
  | [], _ => by unfold insU; simp
  | m :: r, h => by
    obtain ⟨h1, h2⟩ := List.pairwise_cons.mp h
    unfold insU
    split
    · rename_i c
      refine List.pairwise_cons.mpr ⟨fun k hk => ?_, h⟩
      rcases List.mem_cons.mp hk with rfl | hk
      · exact c
      · have := h1 k hk; omega
    · split
      · exact h
      · refine List.pairwise_cons.mpr ⟨fun k hk => ?_, insU_up n r h2⟩
        rcases (insU_mem n k r).mp hk with rfl | hk
        · omega
        · exact h1 k hk
theorem sset_mem (k : Int) : ∀ l : List Int, k ∈ sset l ↔ k ∈ l
  | [] => by unfold sset; exact Iff.rfl
  | n :: r => by unfold sset; rw [insU_mem, sset_mem k r, List.mem_cons]
theorem sset_up : ∀ l : List Int, (sset l).Pairwise (· < ·)
  | [] => by unfold sset; exact .nil
  | n :: r => by unfold sset; exact insU_up n _ (sset_up r)
theorem up_unique : ∀ {l m : List Int}, l.Pairwise (· < ·) → m.Pairwise (· < ·) → (∀ k, k ∈ l ↔ k ∈ m) → l = m
  | [], [], _, _, _ => rfl
  | [], b :: m, _, _, h => absurd ((h b).mpr List.mem_cons_self) (by simp)
  | a :: l, [], _, _, h => absurd ((h a).mp List.mem_cons_self) (by simp)
  | a :: l, b :: m, h1, h2, h => by
    obtain ⟨a1, a2⟩ := List.pairwise_cons.mp h1
    obtain ⟨b1, b2⟩ := List.pairwise_cons.mp h2
    have e : a = b := by
      rcases List.mem_cons.mp ((h a).mp List.mem_cons_self) with e | e
      · exact e
      · rcases List.mem_cons.mp ((h b).mpr List.mem_cons_self) with e' | e'
        · exact e'.symm
        · have := b1 a e; have := a1 b e'; omega
    subst e
    rw [up_unique a2 b2 fun k => ?_]
    constructor
    · intro hk
      rcases List.mem_cons.mp ((h k).mp (List.mem_cons_of_mem _ hk)) with rfl | z
      · have := a1 k hk; omega
      · exact z
    · intro hk
      rcases List.mem_cons.mp ((h k).mpr (List.mem_cons_of_mem _ hk)) with rfl | z
      · have := b1 k hk; omega
      · exact z
section
variable {P : Program} {w : World} {A : Around} {E : Value → Shared → Prop} {s : Shared} {a : Addr}
/-- sorted of a set of ints, any number of them (the library's tells fewer than 64) -/
theorem sset_any {S : Int → Bool} {n : Nat} {Q : Value → Shared → Prop} (R : SetR w s.heap a S n) (hh : A.handled = none) (h64 : n ≤ sizeLine)
    (hQ : ∀ s' p (out : List Value) (c : Nat) (ns : List Int), (∀ b o, s.heap.get? b = some o → s'.heap.get? b = some o) → s'.gens = s.gens → s'.os = s.os → s.heap.objs.size ≤ p →
      s'.heap.get? p = some (seqObj "list" out.toArray c) → IntsAre out ns → ns.Pairwise (· < ·) → (∀ k, k ∈ ns ↔ S k = true) → ns.length = n → Q (.ref p) s') :
    wpAny (model P w) A (call (.builtin "sorted") [.ref a]) Q E s := by
  obtain ⟨o, es, ep, t, ho, hex, hd, g, nd, hm, hb, hf, hn, hr, hl⟩ := R
  refine Calls.call_function_entry kind_sorted plain_sorted entry_sorted (args_sorted1 _) ?_
  unfold Builtin.«sorted»
  refine wpAny_bind (m := checkCount "sorted" 1 1 _) (wpAny_pure ?_)
  refine wpAny_bind (collect_set (A := A.in1) hh ⟨o, ho, hex.1, hd⟩ hf hb hr hl fun s1 vs k1 hz g1 o1 pm => ?_)
  have lv : vs.length = n := by rw [pm.length_eq, List.length_map, Array.length_toList]; exact hn
  have hI : IntsAre vs (vs.map Builtin.Re.reRawOf) := ints_of vs fun v hv => by
    obtain ⟨e, he, q⟩ := List.mem_map.mp (pm.mem_iff.mp hv)
    obtain ⟨k, tk, h1, _⟩ := g e he
    exact ⟨k, tk, by rw [← q]; exact h1⟩
  have pk : (vs.map Builtin.Re.reRawOf).Perm (es.toList.map keyOf) := by
    have q := pm.map Builtin.Re.reRawOf
    rw [List.map_map] at q
    exact q
  refine wpAny_bind (wpAny_newList ?_ (by rw [lv]; exact h64))
  have oL : (s1.heap.push (seqObj "list" vs.toArray 0)).get? s1.heap.objs.size = some (seqObj "list" vs.toArray 0) := Heap.get?_push_size _ rfl
  refine wpAny_bind (wpAny_holding (wpAny_call_entry PyProof.Rows.slot_list_sort ⟨_, oL, rfl⟩ PyProof.Rows.entry_list_sort
    (SrtO.list_sort_ord SrtO.swo_int oL (by rw [lv]; exact h64) (fun h2 => SrtO.ints_sortable hI h2) fun out h1 h2 => ⟨_, rfl, ?_⟩) (PyProof.Rows.args_list_sort _)))
  obtain ⟨a1, a2, a3⟩ := SrtO.ints_out hI h1 h2
  obtain ⟨c, hc⟩ := PyProof.Rows.sortedHeap_at (vs := vs) (out := out.toArray) oL
  have pn := a2.trans pk
  refine wpAny_pure ⟨_, rfl, hQ _ s1.heap.objs.size out c (out.map SrtO.iv) (fun b u e => ?_) g1 o1 hz hc a1 (lt_of_le_nodup _ a3 (pn.nodup_iff.mpr nd)) (fun k => by rw [pn.mem_iff, ← hm k]) ?_⟩
  · have q := k1 b u e
    have lt := Heap.lt_size q
    refine (PyProof.Rows.sortedHeap_old (Nat.ne_of_lt lt) ?_).trans (Heap.get?_push_of_some _ q)
    rw [Heap.size_push]
    exact Nat.lt_succ_of_lt lt
  · rw [pn.length_eq, List.length_map, Array.length_toList]; exact hn
end
/-- sorted(set(xs)) -/
def tSset (K : PySem.W.Frag) (ta : TE) : TE := fun σ H Q => ta σ H fun x H1 => ∃ (l : Addr) (ns : List Int), x = .ref l ∧ SqL K H1 l (ns.map V.int) ∧ ns.length < 1024 ∧ ∀ p, H1 p = none → Q (.ref p) (upd H1 p (.lst ((sset ns).map V.int)))
theorem pe_sset {X : Cx} {a : Expr} {ta : TE} {p p2 q pos : Pos} (hc : X.calm = true) (hg : Gl X "sorted") (hm : X.mg "sorted" = none) (hg2 : Gl X "set") (hm2 : X.mg "set" = none) (ha : PE X a ta)
    (na : starEach [a] X.env = (false, eval a X.env) :: starEach [] X.env := by rfl) : PE X (.Call (.Name "sorted" p) [.Call (.Name "set" p2) [a] [] q] [] pos) (tSset X.K ta) := by
  refine ⟨fun pins s σ H Q I h => ?_⟩
  refine Call_ (ld_blt I hg hm boot_sorted ?_)
  refine PyProof.Rows.callWith_builtin1 (PyProof.Rows.args_cons ?_ rfl) rfl rfl
  refine Call_ (ld_blt I hg2 hm2 boot_set ?_)
  refine PyProof.Rows.callWith_type1 (PyProof.Rows.args_cons (thn (ha.run pins s σ H _ I h) fun v s1 ⟨x, H1, I1, r1, q1⟩ => PyProof.Rows.args_nil ?_) na) na rfl
  obtain ⟨l, ns, rfl, hq, h64, q1⟩ := q1
  cases r1
  obtain ⟨its, r, pl, hz⟩ := I1.list hq
  refine set_ints ns (I1.ok.hd hc) pl.isList (by simpa using ints_of_vals r) (by unfold scanBound; omega) fun h' tk c R hcn hk => ?_
  refine PyProof.Rows.args_nil ?_
  have I2 : Inv X pins σ H1 { s1 with heap := h', toks := tk } := I1.kept fun b o e => hk b o e
  refine sset_any (s := { s1 with heap := h', toks := tk }) R (I1.ok.hd hc) (by rw [sizeLine_eq]; omega) fun s' p out c2 ns' k g o hp hg hi hs hm hl => ?_
  have e0 : ns' = sset ns := up_unique hs (sset_up ns) fun k => by rw [hm k, sset_mem, decide_eq_true_eq]
  subst e0
  have hlen : ((sset ns).map V.int).length ≤ sizeLine := by rw [List.length_map, hl, sizeLine_eq]; omega
  have hn : H1 p = none := I2.hok.fresh hp
  have J : Inv X pins σ (upd H1 p (.lst ((sset ns).map V.int))) { ({ s1 with heap := h', toks := tk } : Shared) with heap := s'.heap, gens := s'.gens, drawn := s'.drawn, toks := s'.toks } :=
    I2.call (ch := []) (Un.laid k hp hn) (I2.hok.laid k hp ⟨hlen, out, c2, vals_of_ints hi, hg⟩) (by rw [g]; exact I2.bare) (fun _ z => nomatch z)
  have e : s' = { ({ s1 with heap := h', toks := tk } : Shared) with heap := s'.heap, gens := s'.gens, drawn := s'.drawn, toks := s'.toks } := by
    obtain ⟨a1, a2, a3, a4, a5⟩ := s'
    have o : a5 = s1.os := o
    rw [o]
  rw [e]
  exact ⟨.ref p, _, J, rfl, q1 p hn⟩
theorem ssetD_nx (d : D) : ∀ c fs, ssetD d ≠ .exc c fs := by
  unfold ssetD
  split
  · exact bind_nx (allI_nx _) (fun _ => by split <;> (intro c fs z; cases z))
  · intro c fs z; cases z
section
variable {X : Cx} {T : Tab} {Γ Γ' Γb : List Mo} {XE : XT} {q qa qb : Qu} {a : Expr} {fa : Ev → R D} {pos p p2 pos2 : Pos}
theorem de_sset (hc : X.calm = true) (hK : X.K = T.K) (hg : Gl X "sorted") (hm : X.mg "sorted" = none) (hg2 : Gl X "set") (hm2 : X.mg "set" = none) (hp : plainArg a = true) (ha : DE X T Γ XE qa a fa) :
    DE X T Γ XE .fresh (.Call (.Name "sorted" p) [.Call (.Name "set" p2) [a] [] pos2] [] pos) fun env => (fa env).bind ssetD := by
  obtain ⟨ta, pa, sa⟩ := ha
  refine ⟨_, pe_sset hc hg hm hg2 hm2 pa (starEach_cons hp), fun H0 F0 σ H F env Q r h => ?_⟩
  refine sa.top r h fun d F1 H1 v x1 t r1 h1 => ?_
  cases e : ssetD d with
  | exc c fs => exact absurd e (ssetD_nx _ _ _)
  | bad => rw [e] at h1; exact h1.elim
  | ok d2 =>
    rw [e] at h1
    unfold ssetD at e
    split at e
    · obtain ⟨ns, e1, e2⟩ := bind_ok_of e
      split at e2
      · rename_i h64
        injection e2 with e2; subst e2
        obtain ⟨l, ws, rfl, k1, k2⟩ := t.lst
        cases allI_ok e1
        cases k2.ofInts
        refine ⟨l, ns, rfl, by rw [hK]; exact SqL.of k1, h64, fun q hn => ?_⟩
        have go : Go T .fresh F H Q (.lst ((sset ns).map .int)) := h1
        have go := Go.back x1 go
        exact go F1 _ _ (Ext.laid hn) (.newL (x1.dom r.dom) hn Reps.ints)
      · cases e2
    · cases e
theorem de_lrng (hc : X.calm = true) (hg : Gl X "list") (hm : X.mg "list" = none) (hg2 : Gl X "range") (hm2 : X.mg "range" = none) (hp : plainArg a = true) (ha : DE X T Γ XE qa a fa) :
    DE X T Γ XE .fresh (.Call (.Name "list" p) [.Call (.Name "range" p2) [a] [] pos2] [] pos) fun env => (fa env).bind fun x => x.asI.bind fun n => (rangeD 0 n).bind fun ds => if ds.length ≤ 16777216 then .ok (.lst ds) else .bad := by
  obtain ⟨ta, pa, sa⟩ := ha
  refine ⟨_, pe_listRg hc hg hm (prg_1 hg2 hm2 pa (starEach_cons hp)) rfl, fun H0 F0 σ H F env Q r h => ?_⟩
  refine sa.top r h fun d F1 H1 v x1 t r1 h1 => ?_
  cases e : d.asI with
  | exc c fs => exact absurd e (asI_nx _ _ _)
  | bad => rw [e] at h1; exact h1.elim
  | ok n =>
    rw [e, Ev.R.bind_ok] at h1
    cases asI_ok e
    cases e2 : rangeD 0 n with
    | exc c fs => exact absurd e2 (rangeD_nx _ _ _ _)
    | bad => rw [e2] at h1; exact h1.elim
    | ok ds =>
      rw [e2, Ev.R.bind_ok] at h1
      obtain ⟨b1, b2, b3, b4, rfl⟩ := rangeD_ok e2
      split at h1
      · rename_i hl
        rw [List.length_map, List.length_range] at hl
        cases t.int
        refine ⟨n, rfl, ⟨b1, b2, b3, b4, by omega⟩, fun q hn => ?_⟩
        have go : Go T .fresh F H Q _ := h1
        have go := Go.back x1 go
        refine go F1 _ _ (Ext.laid hn) (.newL (x1.dom r.dom) hn ?_)
        have := @Reps.ints T H1 F1 ((List.range (n - 0).toNat).map fun k => (0 : Int) + (k : Nat))
        rw [List.map_map, List.map_map] at this
        exact this
      · exact h1.elim
/-- name = value: what then holds -/
theorem SR.asg {H0 H H1 : Hp} {F0 F F1 : Addr → Prop} {env : Ev} {σ : St} {v : V} {d : D} {i : Nat} (hi : i < Γ.length) (hq : q ≠ .dirty) (r : SR T Γ H0 F0 F H env σ) (r1 : SR T Γ H0 F0 F1 H1 env σ) (x1 : Ext F H F1 H1) (rv : ResOk T q H F1 H1 v d) :
    SR T (Γ.set i (moQ q)) H0 F0 F1 H1 (env.set i (some d)) (σ.set i (some v)) := by
  have hset : (Γ.set i (moQ q))[i]? = some (moQ q) := List.getElem?_set_self hi
  have rd := r1.drop i (moQ q)
  have e1 : (env.set i none).set i (some d) = env.set i (some d) := List.set_set ..
  have e2 : (σ.set i none).set i (some v) = σ.set i (some v) := List.set_set ..
  rw [← e1, ← e2]
  cases q with
  | dirty => exact absurd rfl hq
  | clean => exact rd.setF i rv (.of hset)
  | fresh =>
    refine rd.setO i hset ?_
    unfold ResOk at rv
    simp only at rv
    split at rv
    · rename_i hc
      rw [if_pos hc]
      obtain ⟨a, e, hn, hf, hat⟩ := rv
      refine ⟨a, e, ?_, hf, hat, fun j hj ho => ?_⟩
      · cases z : H0 a with
        | none => rfl
        | some o => rw [r.ext.non _ hn] at z; cases z
      · obtain ⟨o, ho⟩ := Owns.old r x1 (ho.same (List.getElem?_set_ne (Ne.symm hj)) (List.getElem?_set_ne (Ne.symm hj)) (List.getElem?_set_ne (Ne.symm hj)))
        rw [hn] at ho; cases ho
    · rename_i hc
      rw [if_neg hc]
      exact rv
/-- a loop over anything, a list of one's own too, that may be changed behind the loop: its body sets a name alone -/
theorem ds_forA {tg iter e : Expr} {x : Str} {j : Nat} {t : Tg} {fI : Ev → R (List D)} {f : Ev → R D} (hp : PassesOwn (model X.prog X.w) X.A X.env X.xe) (hcm : X.calm = true) (hi : DI X T Γ XE false tg iter fI) (hg : DG X T Γ' tg t) (he : DE X T Γ' XE q e f) (hq : q ≠ .dirty)
    (hN : X.N.Nodup) (hj : X.N[j]? = some x) (hx : Loc X.env.scope x) (hsw : swapsWith e (some (.Name x p)) pos2.line X.env = pure false) (hf : X.fn x = true ∨ X.env.scope.names.lookup x = some .local) (hl : j < Γ'.length)
    (hw : wkM Γ Γ' = true) (hwj : wkM (Γ'.set j (moQ q)) Γ' = true) (hs : ∀ x, foldedSetIterable iter X.env x = pure x) :
    DS X T Γ Γ' Γb XE qb (.For tg iter [.Assign [.Name x p] e pos2] [] pos) fun env => (fI env).bind fun ds => forL t (fun env => (f env).bind fun x => .ok (env.set j (some x), .nx)) ds env := by
  obtain ⟨wi, pi, si⟩ := hi
  obtain ⟨g, pg, sg⟩ := hg
  obtain ⟨te, pe, se⟩ := he
  refine ⟨_, ps_for hp hcm pi pg (pss_cons (ps_set hN hj hx pe hsw hf) pss_nil) hs, fun H0 F0 σ H F env D r h => ?_⟩
  refine si H0 F0 σ H F env _ r ?_
  cases e : fI env with
  | exc c fs => dsimp only at h; rw [e] at h; exact GoS.to r.ext c fs h
  | bad => dsimp only at h; rw [e] at h; exact h.elim
  | ok ds =>
    dsimp only at h
    rw [e, R.bind_ok] at h
    intro F1 H1 J x1 it
    have r1 := r.ext' x1
    obtain ⟨F2, h2, r2⟩ := r1.weak hw
    obtain ⟨G, Y, w, hG, hY⟩ := it
    have kp : ∀ {F' H' env' σ'}, (∀ a o, H1 a = some o → isT o = false → H' a = some o) → SR T Γ' H0 F0 F' H' env' σ' → Kp false H0 F1 H1 H' := fun k s => ⟨fun a o _ ho n => k a o ho n, s.ext.keep, fun _ => k⟩
    refine for_it w (fun i σ' H' => ∃ F' env', (∀ a o, H1 a = some o → isT o = false → H' a = some o) ∧ (∀ a, F2 a → F' a) ∧ SR T Γ' H0 F0 F' H' env' σ' ∧ wpR (forL t (fun env => (f env).bind fun x => .ok (env.set j (some x), .nx)) (ds.drop i) env') (PostS T Γ' Γb qb H0 F0 F H D) (GoS XE F0 H0)) ⟨F2, env, fun _ _ z _ => z, fun _ z => z, r2, by rw [List.drop_zero]; exact h⟩ (fun i σ' H' _ ⟨F', env', k, _, s, _⟩ => hG H' (kp k s)) ?_ ?_
    · rintro i x3 σ3 H3 H4 hi3 ⟨F3, env3, k3, s3, r3, h3⟩ y
      obtain ⟨F4, d, x4, ed, rd⟩ := hY i H3 x3 H4 F3 hi3 (kp k3 r3) (fun a ha => s3 a (h2 a ha)) y
      have edr : ds.drop i = d :: ds.drop (i + 1) := by
        rw [List.drop_eq_getElem_cons hi3]
        rw [List.getElem?_eq_getElem hi3] at ed
        rw [Option.some.inj ed]
      rw [edr] at h3
      unfold forL at h3
      have r4 := r3.ext' x4
      cases eb : bindT t d env3 with
      | exc c fs => exact absurd eb (bindT_nx _ _ _ _ _)
      | bad => rw [eb] at h3; exact h3.elim
      | ok env4 =>
        rw [eb, R.bind_ok, R.bind_assoc] at h3
        refine sg H0 F0 σ3 H4 F4 env3 x3 d env4 _ r4 rd eb fun σ5 r5 _ => ?_
        refine se.stm r5 h3 fun d6 F6 H6 v6 _ x6 rv6 r6 h6 => ?_
        rw [R.bind_ok] at h6
        have r7 := SR.asg hl hq r5 r6 x6 rv6
        obtain ⟨F8, s8, r8⟩ := r7.weak hwj
        exact ⟨F8, _, fun a o z n => x6.keep a o (x4.keep a o (k3 a o z n) n) n, fun a z => s8 a (x6.sub a (x4.sub a (s3 a z))), r8, h6⟩
    · rintro σ3 H3 ⟨F3, env3, k3, s3, r3, h3⟩
      rw [List.drop_length] at h3
      unfold forL at h3
      exact (show ∀ F' H' σ', Fz F H F' H' → SR T Γ' H0 F0 F' H' env3 σ' → D.nx σ' H' from h3) F3 H3 σ3 ⟨fun a z => s3 a (h2 a (x1.sub a z)), fun a o _ z n => k3 a o (x1.keep a o z n) n⟩ r3
end
/-! ### a list of own lists -/
section
variable {X : Cx} {T : Tab} {Γ Γ' Γb : List Mo} {XE : XT} {q qa qb : Qu} {a : Expr} {es : List Expr} {fa : Ev → R D} {fs : Ev → R (List D)} {pos p p2 pos2 : Pos}
/-- new values, each of its own -/
def SimF (T : Tab) (Γ : List Mo) (XE : XT) (t : TA) (f : Ev → R (List D)) : Prop :=
  ∀ (H0 : Hp) (F0 : Addr → Prop) (σ : St) (H : Hp) (F : Addr → Prop) (env : Ev) (Q : List V → Hp → Prop), SR T Γ H0 F0 F H env σ →
    wpR (f env) (fun ds => ∀ F' H' vs, Ext F H F' H' → vs.length = ds.length → (ds.all D.cell = true → Inns T H F' H' vs ds) → Q vs H') (fun c fs => ∀ F' H', Ext F H F' H' → XE c fs σ F' H') → t σ H Q
def DF (X : Cx) (T : Tab) (Γ : List Mo) (XE : XT) (es : List Expr) (f : Ev → R (List D)) : Prop := ∃ t, PA X es t ∧ SimF T Γ XE t f
theorem Inns.weak0 {H0 H1 H : Hp} {F : Addr → Prop} (hh : ∀ b, H1 b = none → H0 b = none) {vs : List V} {ds : List D} (h : Inns T H1 F H vs ds) : Inns T H0 F H vs ds := by
  induction h with
  | nil => exact .nil
  | cons h0 hf r hn _ ih => exact .cons (hh _ h0) hf r hn ih
theorem df_nil : DF X T Γ XE [] fun _ => .ok [] := ⟨_, pa_nil, fun _ _ _ H F _ _ _ h => h F H [] (Ext.refl _ _) rfl fun _ => .nil⟩
theorem Ext.none {F F' : Addr → Prop} {H H' : Hp} (x : Ext F H F' H') {b : Addr} (h : H' b = none) : H b = none := by
  cases e : H b with
  | none => rfl
  | some o => rw [x.non _ h] at e; cases e
theorem df_cons (hp : plainArg a = true) (ha : DE X T Γ XE .fresh a fa) (hs : DF X T Γ XE es fs) : DF X T Γ XE (a :: es) fun env => (fa env).bind fun x => (fs env).bind fun r => .ok (x :: r) := by
  obtain ⟨ta, pa, sa⟩ := ha
  obtain ⟨ts, ps, ss⟩ := hs
  refine ⟨_, pa_cons pa ps (starEach_cons hp), fun H0 F0 σ H F env Q s h => ?_⟩
  refine sa H0 F0 σ H F env _ s (wpR_mono (wpR_bind h) (fun d1 h1 F1 H1 v1 x1 rv => ?_) fun _ _ z => z)
  have h1' := wpR_bind h1
  refine ss H0 F0 σ H1 F1 env _ (s.ext' x1) (wpR_mono h1' (fun ds hd F2 H2 vs x2 hl hi => ?_) fun c fs z F' H' x => z F' H' (x1.trans x))
  have hd : ∀ F' H' vs, Ext F H F' H' → vs.length = (d1 :: ds).length → ((d1 :: ds).all D.cell = true → Inns T H F' H' vs (d1 :: ds)) → Q vs H' := hd
  refine hd F2 H2 _ (x1.trans x2) (by rw [List.length_cons, List.length_cons, hl]) fun hc => ?_
  rw [List.all_cons, Bool.and_eq_true] at hc
  have hi := hi hc.2
  unfold ResOk at rv
  simp only at rv
  rw [if_pos hc.1] at rv
  obtain ⟨b, rfl, hn, hf, hat⟩ := rv
  obtain ⟨o, ho⟩ := hat.some
  refine .cons hn (fun hf' => ?_) (hat.mono x2.sub (fun a o _ => x2.keep a o) (x2.keep b)) (fun hb => ?_) (hi.weak0 fun c hc => x1.none hc)
  · rcases x2.new b hf' with z | ⟨z, _⟩
    · exact hf z
    · exact z.no ho (hat.notTup ho)
  · have := (hi.stand b hb).1
    rw [ho] at this; cases this
/-- name = [own, own, ..] -/
theorem ds_asgLL {i : Nat} {x : Str} (hN : X.N.Nodup) (hi : X.N[i]? = some x) (hx : Loc X.env.scope x) (hf : X.fn x = true ∨ X.env.scope.names.lookup x = some .local)
    (hl : i < Γ.length) (he : DF X T Γ XE es fs) : DS X T Γ (Γ.set i .lol) Γb XE qb (.Assign [.Name x p] (.List es p2) pos) fun env => (fs env).bind fun ds => if decide (ds.length ≤ 16777216) && ds.all D.cell then .ok (env.set i (some (.lst ds)), .nx) else .bad := by
  obtain ⟨t, pt, st⟩ := he
  refine ⟨_, ps_set hN hi hx (pe_lst pt) rfl hf, fun H0 F0 σ H F env D r h => ?_⟩
  refine st H0 F0 σ H F env _ r ?_
  cases e : fs env with
  | exc c fs' => dsimp only at h; rw [e] at h; exact GoS.to r.ext c fs' h
  | bad => dsimp only at h; rw [e] at h; exact h.elim
  | ok ds =>
    dsimp only at h
    rw [e, R.bind_ok] at h
    intro F1 H1 vs x1 hlen hin
    split at h
    · rename_i hc
      rw [Bool.and_eq_true, decide_eq_true_eq] at hc
      have hin := hin hc.2
      have h : ∀ F' H' σ', Fz F H F' H' → SR T (Γ.set i .lol) H0 F0 F' H' (env.set i (some (.lst ds))) σ' → D.nx σ' H' := h
      refine ⟨by rw [sizeLine_eq, hlen]; exact hc.1, fun b hb => ?_⟩
      have x2 : Ext F1 H1 F1 (upd H1 b (.lst vs)) := Ext.laid hb
      refine h F1 _ _ (x1.trans x2).fz ?_
      have rd := (r.ext' (x1.trans x2)).drop i .lol
      have e1 : (env.set i none).set i (some (.lst ds)) = env.set i (some (.lst ds)) := List.set_set ..
      have e2 : (σ.set i none).set i (some (.ref b)) = σ.set i (some (.ref b)) := List.set_set ..
      show SR T (Γ.set i .lol) H0 F0 F1 (upd H1 b (.lst vs)) (env.set i (some (.lst ds))) (σ.set i (some (.ref b)))
      rw [← e1, ← e2]
      have bn : ∀ c, V.ref c ∈ vs → c ≠ b := fun c hc z => by
        obtain ⟨_, _, o, ho⟩ := hin.stand c hc
        rw [z, hb] at ho; cases ho
      refine rd.setL (List.getElem?_set_self hl) (r.ext.none (x1.none hb)) (fun hf' => ?_) upd_same (fun z => bn b z rfl) ?_ fun j c hj hc ho => ?_
      · obtain ⟨o, ho⟩ := x1.dom r.dom b hf'
        rw [hb] at ho; cases ho
      · exact (hin.mono (fun _ z => z) (fun c o hc ho => x2.keep c o ho) fun c hc => ⟨(hin.stand c hc).2.1, x2.keep c⟩).weak0 fun c hc => r.ext.none hc
      · obtain ⟨o, ho2⟩ := Owns.old r (x1.trans x2) (ho.same (List.getElem?_set_ne (Ne.symm hj)) (List.getElem?_set_ne (Ne.symm hj)) (List.getElem?_set_ne (Ne.symm hj)))
        rcases hc with rfl | hc
        · rw [x1.none hb] at ho2; cases ho2
        · rw [(hin.stand c hc).1] at ho2; cases ho2
    · exact h.elim
theorem setD_lst {ds : List D} {j : Int} {z o : D} (h : setD (.lst ds) (.int j) z = .ok o) : ∃ k, ixN ds.length j = some k ∧ o = .lst (ds.set k z) := by
  have h : (ofO (ixN ds.length j)).bind (fun k => (.ok (.lst (ds.set k z)) : R D)) = .ok o := h
  obtain ⟨k, e1, e2⟩ := bind_ok_of h
  injection e2 with e2
  exact ⟨k, ofO_ok e1, e2.symm⟩
theorem simMutL {i : Nat} {r : V → List V → Hp → VK → Prop} {m : D → List D → R D} {tk : TE} {t : TA} {fk : Ev → R D} {rr2 : R2} (hK : X.K = T.K) (hm : Γ[i]? = some .lol) (mo : MutOk T r m) (sk : SimE T Γ XE qa tk fk) (ss : SimC T Γ XE t fs) (hx : ∀ env c ds, fs env ≠ .exc c ds)
    (hrr2 : ∀ (c : Addr) (vs : List V) (j : Int) (v : V) (H : Hp) (Q : VK), SqL X.K H c vs → L2.atI vs j = some v → Q v H → rr2 (.ref c) (.int j) H Q) :
    SimS T Γ Γ Γb XE qb (tDrop (tBM X.K "list" r (tOp rr2 (tVar i) tk) t)) fun env => (getV env i).bind fun o => (fk env).bind fun y => (subD o y).bind fun x => (fs env).bind fun ds => (m x ds).bind fun z => (setD o y z).bind fun o' => .ok (env.set i (some o'), .nx) := by
  intro H0 F0 σ H F env EE rr h
  unfold getV at h
  dsimp only at h
  split at h
  · rename_i o e1
    rw [R.bind_ok] at h
    obtain ⟨w, hw, ok⟩ := rr.slot i o e1
    rw [List.getD_eq_getElem?_getD, hm] at ok
    obtain ⟨c, vs, ds, rfl, rfl, _, _, _, _, _⟩ := ok
    refine ⟨.ref c, hw, ?_⟩
    refine sk.stm rr h fun dk F1 H1 vk _ x1 rk r1 h1 => ?_
    obtain ⟨w, hw', ok⟩ := r1.slot i _ e1
    rw [hw] at hw'; cases hw'
    rw [List.getD_eq_getElem?_getD, hm] at ok
    obtain ⟨c', vs', ds', ea, ed, h0, hf, hc1, hnc, hi⟩ := ok
    cases ea; cases ed
    cases e : subD (.lst ds) dk with
    | exc c fs => exact absurd e (subD_nx _ _ _ _)
    | bad => rw [e] at h1; exact h1.elim
    | ok x =>
      rw [e, R.bind_ok] at h1
      cases dk with
      | int j =>
        cases rk.top.int
        have e : ofO (L2.atI ds j) = .ok x := e
        have e' := ofO_ok e
        have e'' := e'
        unfold L2.atI at e''
        obtain ⟨k, hk1, hk2⟩ := Option.bind_eq_some_iff.mp e''
        obtain ⟨b, hb, _, hfb, hat⟩ := hi.get hk2
        refine hrr2 c vs' j (.ref b) H1 _ (by rw [hK]; exact SqL.of hc1) ?_ ?_
        · unfold L2.atI
          rw [hi.length, hk1]
          exact hb
        · cases ef : fs env with
          | bad => rw [ef] at h1; exact h1.elim
          | exc c fs' => exact absurd ef (hx _ _ _)
          | ok args =>
            rw [ef, R.bind_ok] at h1
            cases em : m x args with
            | bad => rw [em] at h1; exact h1.elim
            | exc c fs' => exact absurd em (mo.1 _ _ _ _)
            | ok z =>
              rw [em, R.bind_ok] at h1
              cases es' : setD (.lst ds) (.int j) z with
              | bad => rw [es'] at h1; exact h1.elim
              | exc c fs' => exact absurd es' (setD_nx _ _ _ _ _)
              | ok o' =>
                rw [es'] at h1
                have h1 : ∀ F' H' σ', Fz F H F' H' → SR T Γ H0 F0 F' H' (env.set i (some o')) σ' → EE.nx σ' H' := h1
                obtain ⟨k', hk', rfl⟩ := setD_lst es'
                rw [hk1] at hk'; cases hk'
                obtain ⟨xs, rfl⟩ := mo.2.1 _ _ _ em
                cases hat with
                | lst hab hrr =>
                  rename_i ws
                  refine ⟨.inl ⟨rfl, _, by rw [hK]; exact SqL.of hab⟩, ?_⟩
                  refine ss H0 F0 σ H1 F1 env _ r1 ?_
                  rw [ef]
                  intro F3 H3 us x3 rs
                  have r3 := r1.ext' x3
                  have hf3 : ¬ F3 b := fun z => by
                    rcases x3.new b z with z | ⟨z, _⟩
                    · exact hfb z
                    · exact z.no hab (fun _ q => nomatch q)
                  refine mo.2.2 H3 F3 b xs us ws args z _ (x3.keep _ _ hab rfl) (hrr.ext x3) rs em fun us' ys ez ru => ?_
                  subst ez
                  have at2 : At T (upd H3 b (.lst us')) F3 b (.lst ys) := .lst upd_same (ru.mono (fun _ h => h) (updF hf3))
                  obtain ⟨s4, f4⟩ := r3.mutL hm e1 hw (x3.keep _ _ hc1 rfl) hb at2
                  exact h1 F3 _ σ ((x1.trans x3).fz.trans f4) s4
      | _ => cases e
  · exact h.elim
/-- x[k].m(..), x a list of own lists -/
theorem ds_mutL {i : Nat} {x name : Str} {id : String} {ke : Expr} {apos cpos : Pos} {r : V → List V → Hp → VK → Prop} {m : D → List D → R D} {fk : Ev → R D} (hK : X.K = T.K) (hu : X.A.units + 65 < cLine) (hm : Γ[i]? = some .lol) (mo : MutOk T r m) (hr : MtR X id r) (slot : Slot "list" name id) (hty : typeOf (.builtin id) = pure (.type "method_descriptor"))
    (hN : X.N[i]? = some x) (hv : Vis X.env.scope x) (hd : (x == ("__debug__" : Str)) = false) (hcd : (x == ("__classdict__" : Str)) = false) (hk : DE X T Γ XE qa ke fk) (hns : notSlice ke = true) (hp : plainArg a = true) (hps : es.all plainArg = true) (hn : es.length < 28) (hl : (apos.endLine == cpos.line) = true)
    (ha : DC X T Γ XE (a :: es) fs) (hx : ∀ env c ds, fs env ≠ .exc c ds) : DS X T Γ Γ Γb XE qb (.Expr (.Call (.Attribute (.Subscript (.Name x p) ke p2) name apos) (a :: es) [] cpos) pos) fun env => (getV env i).bind fun o => (fk env).bind fun y => (subD o y).bind fun x => (fs env).bind fun ds => (m x ds).bind fun z => (setD o y z).bind fun o' => .ok (env.set i (some o'), .nx) := by
  obtain ⟨tk, pk, sk⟩ := hk
  obtain ⟨t, pt, ss⟩ := ha
  have hmf := methForm (pos := cpos) (env := X.env) (es := a :: es) (by rw [List.all_cons, hp, hps]; rfl) (by rw [List.length_cons]; omega)
  exact ⟨_, ps_expr (pe_bm PySem.F.plainAttrs_list slot hty hr (pe_ix (ix_seq.or (ix_dict (by omega))) (pe_var hN hv hd hcd) pk (plainIx hns)) pt rfl hmf hl (starEach_cons hp) (backTo_none hps)) rfl,
    simMutL hK hm mo sk ss hx fun c vs j v H Q h1 h2 h3 => .inl (.inl ⟨c, vs, j, v, rfl, rfl, h1, h2, h3⟩)⟩
theorem ds_mutL0 {i : Nat} {x name : Str} {id : String} {ke : Expr} {apos cpos : Pos} {r : V → List V → Hp → VK → Prop} {m : D → List D → R D} {fk : Ev → R D} (hK : X.K = T.K) (hu : X.A.units + 65 < cLine) (hm : Γ[i]? = some .lol) (mo : MutOk T r m) (hr : MtR X id r) (slot : Slot "list" name id) (hty : typeOf (.builtin id) = pure (.type "method_descriptor"))
    (hN : X.N[i]? = some x) (hv : Vis X.env.scope x) (hd : (x == ("__debug__" : Str)) = false) (hcd : (x == ("__classdict__" : Str)) = false) (hk : DE X T Γ XE qa ke fk) (hns : notSlice ke = true) (hl : (apos.endLine == cpos.line) = true) :
    DS X T Γ Γ Γb XE qb (.Expr (.Call (.Attribute (.Subscript (.Name x p) ke p2) name apos) [] [] cpos) pos) fun env => (getV env i).bind fun o => (fk env).bind fun y => (subD o y).bind fun x => (R.ok ([] : List D)).bind fun ds => (m x ds).bind fun z => (setD o y z).bind fun o' => .ok (env.set i (some o'), .nx) := by
  obtain ⟨tk, pk, sk⟩ := hk
  refine ⟨_, ps_expr (pe_bm0 PySem.F.plainAttrs_list slot hty hr (pe_ix (ix_seq.or (ix_dict (by omega))) (pe_var hN hv hd hcd) pk (plainIx hns)) rfl hl) rfl, ?_⟩
  have := simMutL (X := X) (Γb := Γb) (qb := qb) (t := tNil) (fs := fun _ => .ok []) hK hm mo sk (fun _ _ _ H F _ _ _ h => h F H [] (Ext.refl _ _) .nil : SimC T Γ XE tNil fun _ => .ok []) (fun _ _ _ z => by cases z) (rr2 := fun x y H Q => rIx X.K x y H Q ∨ rIxDK x y H Q) fun c vs j v H Q h1 h2 h3 => .inl (.inl ⟨c, vs, j, v, rfl, rfl, h1, h2, h3⟩)
  exact this
end
end Ev

set_option maxHeartbeats 2000000
/-! Ev: a loop over a list of one's own that is changed later: its body leaves that list alone -/
namespace Ev
open PySem PySem.Spec PyProof.Rows L2
variable [Tbs]
/-- the slot i and its cell stand -/
def Kpt (σ : St) (H : Hp) (i : Nat) (σ' : St) (H' : Hp) : Prop := σ'[i]? = σ[i]? ∧ ∀ a, σ[i]? = some (some (.ref a)) → H' a = H a
def SimO (T : Tab) (Γ Γ' : List Mo) (XE : XT) (i : Nat) (t : TS) (f : Ev → R Ev) : Prop :=
  ∀ (H0 : Hp) (F0 : Addr → Prop) (σ : St) (H : Hp) (F : Addr → Prop) (env : Ev) (D : Ends), SR T Γ H0 F0 F H env σ → (∃ ds, env[i]? = some (some (.lst ds))) →
    wpR (f env) (fun env' => ∀ F' H' σ', Fz F H F' H' → SR T Γ' H0 F0 F' H' env' σ' → Kpt σ H i σ' H' → D.nx σ' H') (GoS XE F0 H0) → t D σ H
def KeepI (i : Nat) (f : Ev → R Ev) : Prop := ∀ env env', f env = .ok env' → env'[i]? = env[i]?
def DOw (X : Cx) (T : Tab) (Γ Γ' : List Mo) (XE : XT) (i : Nat) (st : Stmt) (f : Ev → R Ev) : Prop := (∃ t, PS X st t ∧ SimO T Γ Γ' XE i t f) ∧ KeepI i f
section
variable {X : Cx} {T : Tab} {Γ Γ' Γe Γb : List Mo} {XE : XT} {q qa qb : Qu} {pos p p2 : Pos} {i j : Nat}
theorem SR.ownAt {H0 H : Hp} {F0 F : Addr → Prop} {env : Ev} {σ : St} {ds : List D} (r : SR T Γ H0 F0 F H env σ) (hm : Γ[i]? = some .own) (he : env[i]? = some (some (.lst ds))) : ∃ a vs, σ[i]? = some (some (.ref a)) ∧ H a = some (.lst vs) ∧ Reps T H F vs ds ∧ Owns H Γ env σ i a := by
  obtain ⟨v, hv, ok⟩ := r.slot i _ he
  rw [List.getD_eq_getElem?_getD, hm] at ok
  unfold SlotOk at ok
  simp only [Option.getD_some] at ok
  rw [if_pos (show (D.lst ds).cell = true from rfl)] at ok
  obtain ⟨a, rfl, _, _, hat⟩ := ok
  cases hat with
  | lst ha hr => exact ⟨a, _, hv, ha, hr, .own hm hv he rfl⟩
theorem dso_asg {x : Str} {e : Expr} {f : Ev → R D} (hij : j ≠ i) (hm : Γ[i]? = some .own) (hN : X.N.Nodup) (hj : X.N[j]? = some x) (hx : Loc X.env.scope x) (hs : swapsWith e (some (.Name x p)) pos.line X.env = pure false) (hf : X.fn x = true ∨ X.env.scope.names.lookup x = some .local)
    (hl : j < Γ.length) (he : DE X T Γ XE q e f) (hq : q ≠ .dirty) : DOw X T Γ (Γ.set j (moQ q)) XE i (.Assign [.Name x p] e pos) fun env => (f env).bind fun x => .ok (env.set j (some x)) := by
  obtain ⟨t, p', s⟩ := he
  refine ⟨⟨_, ps_set hN hj hx p' hs hf, fun H0 F0 σ H F env D r ⟨ds, hd⟩ h => ?_⟩, fun env env' z => ?_⟩
  · obtain ⟨a, vs, ha, hv, _, _⟩ := r.ownAt hm hd
    refine s H0 F0 σ H F env _ r ?_
    cases e1 : f env with
    | exc c fs => dsimp only at h; rw [e1] at h; exact GoS.to r.ext c fs h
    | bad => dsimp only at h; rw [e1] at h; exact h.elim
    | ok d =>
      dsimp only at h
      rw [e1] at h
      intro F1 H1 v x1 rv
      have h : ∀ F' H' σ', Fz F H F' H' → SR T (Γ.set j (moQ q)) H0 F0 F' H' (env.set j (some d)) σ' → Kpt σ H i σ' H' → D.nx σ' H' := h
      refine h F1 H1 _ x1.fz (SR.asg hl hq r (r.ext' x1) x1 rv) ⟨List.getElem?_set_ne hij, fun b hb => ?_⟩
      rw [ha] at hb; cases hb
      rw [x1.keep _ _ hv rfl, hv]
  · obtain ⟨d, _, z⟩ := bind_ok_of z
    injection z with z; subst z
    exact List.getElem?_set_ne hij
theorem dso_setI {x : Str} {ke e : Expr} {fk fe : Ev → R D} (hij : j ≠ i) (hmi : Γ[i]? = some .own) (hu : X.A.units + 65 < cLine) (hm : Γ[j]? = some .own) (hN : X.N[j]? = some x) (hv : Vis X.env.scope x) (hd : (x == ("__debug__" : Str)) = false) (hcd : (x == ("__classdict__" : Str)) = false)
    (he : DE X T Γ XE q e fe) (hq : q ≠ .dirty) (hk : DE X T Γ XE qa ke fk) (hns : notSlice ke = true) (hs : swapsWithSole [.Subscript (.Name x p) ke p2] e pos.line X.env = pure false) (hw : swappedStores [.Subscript (.Name x p) ke p2] e X.env = pure none) :
    DOw X T Γ Γ XE i (.Assign [.Subscript (.Name x p) ke p2] e pos) fun env => (fe env).bind fun x => (getV env j).bind fun o => (fk env).bind fun y => (setD o y x).bind fun z => .ok (env.set j (some z)) := by
  obtain ⟨⟨t, pt, st⟩, _⟩ : (∃ t, PS X (.Assign [.Subscript (.Name x p) ke p2] e pos) t ∧ True) ∧ True := ⟨(ds_setI (qb := .fresh) (Γb := Γ) hu hm hN hv hd hcd he hq hk hns hs hw).imp fun t h => ⟨h.1, trivial⟩, trivial⟩
  clear st t pt
  obtain ⟨te, pe, se⟩ := he
  obtain ⟨tk, pk, sk⟩ := hk
  refine ⟨⟨_, ps_asg pe (pg_sub (pe_var hN hv hd hcd) pk (PSet.or set_list (set_dict (by omega))) (assign_sub hns)) hs hw, fun H0 F0 σ H F env EE r ⟨es, hes⟩ h => ?_⟩, fun env env' z => ?_⟩
  · obtain ⟨a0, vs0, ha0, hv0, _, _⟩ := r.ownAt hmi hes
    refine se H0 F0 σ H F env _ r ?_
    cases e0 : fe env with
    | exc c fs => dsimp only at h; rw [e0] at h; exact GoS.to r.ext c fs h
    | bad => dsimp only at h; rw [e0] at h; exact h.elim
    | ok d =>
    dsimp only at h
    rw [e0, R.bind_ok] at h
    intro F1 H1 v x1 rv
    obtain ⟨F2, x2, _, rp⟩ := rv.rep x1 hq
    have r2 := r.ext' x2
    unfold getV at h
    split at h
    · rename_i o e1
      rw [R.bind_ok] at h
      obtain ⟨w, hw, ok⟩ := r2.slot j o e1
      rw [List.getD_eq_getElem?_getD, hm] at ok
      refine ⟨w, hw, ?_⟩
      refine sk H0 F0 σ H1 F2 env _ r2 ?_
      cases e9 : fk env with
      | exc c fs => rw [e9] at h; exact GoS.to r2.ext c fs h
      | bad => rw [e9] at h; exact h.elim
      | ok dk =>
      rw [e9, R.bind_ok] at h
      intro F3 H3 vk x3 rk
      have r3 := r2.ext' x3
      cases e2 : setD o dk d with
      | exc c fs => exact absurd e2 (setD_nx _ _ _ _ _)
      | bad => rw [e2] at h; exact h.elim
      | ok z =>
        rw [e2] at h
        have h3 : ∀ F' H' σ', Fz F H F' H' → SR T Γ H0 F0 F' H' (env.set j (some z)) σ' → Kpt σ H i σ' H' → EE.nx σ' H' := h
        have fz := x2.fz.trans x3.fz
        have ok3 := ok.ext x3
        have hv3 : H3 a0 = some (.lst vs0) := x3.keep _ _ (x2.keep _ _ hv0 rfl) rfl
        have ow0 : Owns H3 Γ env σ i a0 := .own hmi ha0 hes rfl
        have kp : ∀ b u, σ[j]? = some (some (.ref b)) → o.cell = true → Kpt σ H i σ (upd H3 b u) := fun b u hb hc => ⟨rfl, fun c hc' => by
          rw [ha0] at hc'; cases hc'
          have ne : a0 ≠ b := fun z => hij (r3.sep j i a0 (.own hm (by rw [z]; exact hb) e1 hc) ow0)
          rw [upd_ne ne, hv3, hv0]⟩
        unfold SlotOk at ok3
        simp only [Option.getD_some] at ok3
        have rp3 := rp.ext x3
        unfold setD at e2
        split at e2
        · rw [if_pos (show (D.lst _).cell = true from rfl)] at ok3
          obtain ⟨a, rfl, h0, hf, hat⟩ := ok3
          obtain ⟨j', e4, e2⟩ := bind_ok_of e2
          injection e2 with e2; subst e2
          cases rk.top.int
          cases hat with
          | lst ha hr =>
            rename_i vs
            have at2 : At T (upd H3 a (.lst (vs.set j' v))) F3 a (.lst (_ : List D)) := .lst upd_same ((hr.set j' rp3).mono (fun _ h => h) (updF hf))
            obtain ⟨s4, f4⟩ := r3.mut hm e1 rfl hw h0 hf at2
            exact .inl ⟨a, vs, _, j', rfl, rfl, ha, by rw [hr.length]; exact ofO_ok e4, h3 F3 _ σ (fz.trans f4) s4 (kp a _ hw rfl)⟩
        · rw [if_pos (show (D.dK _).cell = true from rfl)] at ok3
          obtain ⟨a, rfl, h0, hf, hat⟩ := ok3
          split at e2
          · rename_i hl
            injection e2 with e2; subst e2
            cases rk.top.int
            cases hat with
            | dK ha hr =>
              refine .inr ⟨a, _, rfl, .k (k := Sum.inl _) ha (by rw [sizeLine_eq, hr.length]; exact hl), h3 F3 _ σ (fz.trans ?_) ?_ (kp a _ hw rfl)⟩
              · exact (r3.mut hm e1 rfl hw h0 hf (at_put (k := Sum.inl _) hr rp3 hf)).2
              · exact (r3.mut hm e1 rfl hw h0 hf (at_put hr rp3 hf)).1
          · cases e2
        · rw [if_pos (show (D.dK _).cell = true from rfl)] at ok3
          obtain ⟨a, rfl, h0, hf, hat⟩ := ok3
          split at e2
          · rename_i hl
            injection e2 with e2; subst e2
            cases rk.top.str
            cases hat with
            | dK ha hr =>
              refine .inr ⟨a, _, rfl, .k (k := Sum.inr _) ha (by rw [sizeLine_eq, hr.length]; exact hl), h3 F3 _ σ (fz.trans ?_) ?_ (kp a _ hw rfl)⟩
              · exact (r3.mut hm e1 rfl hw h0 hf (at_put (k := Sum.inr _) hr rp3 hf)).2
              · exact (r3.mut hm e1 rfl hw h0 hf (at_put hr rp3 hf)).1
          · cases e2
        · cases e2
    · exact h.elim
  · obtain ⟨d, _, z⟩ := bind_ok_of z
    obtain ⟨o, _, z⟩ := bind_ok_of z
    obtain ⟨k, _, z⟩ := bind_ok_of z
    obtain ⟨w, _, z⟩ := bind_ok_of z
    injection z with z; subst z
    exact List.getElem?_set_ne hij
theorem dso_if {c : Expr} {st : Stmt} {fc : Ev → R D} {f : Ev → R Ev} (hm : Γ[i]? = some .own) (hc : DT X T Γ XE c fc) (ha : DOw X T Γ Γ' XE i st f) (hw : wkM Γ' Γ = true) : DOw X T Γ Γ XE i (.If c [st] [] pos) fun env => (fc env).bind fun x => (truthD x).bind fun k => match k with
    | true => f env
    | false => .ok env := by
  obtain ⟨tc, pc, sc⟩ := hc
  obtain ⟨⟨ta, pa, sa⟩, ka⟩ := ha
  refine ⟨⟨_, ps_if pc (pss_one pa) pss_nil, fun H0 F0 σ H F env D r ⟨ds, hd⟩ h => ?_⟩, fun env env' z => ?_⟩
  · obtain ⟨a, vs, ha, hv, _, _⟩ := r.ownAt hm hd
    dsimp only at h
    rw [← R.bind_assoc] at h
    refine sc H0 F0 σ H F env _ r ?_
    show wpR ((fc env).bind truthD) _ _
    cases e : (fc env).bind truthD with
    | exc c fs => rw [e] at h; exact GoS.to r.ext c fs h
    | bad => rw [e] at h; exact h.elim
    | ok k =>
      rw [e] at h
      intro F1 H1 x1
      have kp1 : ∀ b, σ[i]? = some (some (.ref b)) → H1 b = H b := fun b hb => by
        rw [ha] at hb; cases hb
        rw [x1.keep _ _ hv rfl, hv]
      cases k with
      | true =>
        refine sa H0 F0 σ H1 F1 env _ (r.ext' x1) ⟨ds, hd⟩ (wpR_mono (show wpR (f env) _ _ from h) (fun env' hz F' H' σ' fz s k => ?_) fun _ _ z => z)
        obtain ⟨F2, h2, s2⟩ := s.weak hw
        exact hz F2 H' σ' ((x1.fz.trans fz).trans ⟨h2, fun _ _ _ z _ => z⟩) s2 ⟨k.1, fun b hb => by rw [k.2 b hb, kp1 b hb]⟩
      | false =>
        have h : ∀ F' H' σ', Fz F H F' H' → SR T Γ H0 F0 F' H' env σ' → Kpt σ H i σ' H' → D.nx σ' H' := h
        exact h F1 H1 σ x1.fz (r.ext' x1) ⟨rfl, kp1⟩
  · obtain ⟨d, _, z⟩ := bind_ok_of z
    obtain ⟨k, _, z⟩ := bind_ok_of z
    cases k with
    | true => exact ka _ _ z
    | false => injection z with z; subst z; rfl
theorem bindMany_keep : ∀ (is : List Nat) (ds : List D) (env env' : Ev), i ∉ is → bindMany is ds env = .ok env' → env'[i]? = env[i]?
  | [], [], _, _, _, h => by injection h with h; subst h; rfl
  | [], _ :: _, _, _, _, h => by cases h
  | _ :: _, [], _, _, _, h => by cases h
  | k :: is, d :: ds, env, env', hn, h => by
    rw [bindMany_keep is ds _ env' (fun z => hn (List.mem_cons_of_mem _ z)) h]
    exact List.getElem?_set_ne fun z => hn (by rw [z]; exact List.mem_cons_self)
theorem bindT_keep {t : Tg} {d : D} {env env' : Ev} (hn : i ∉ tgSlots t) (h : bindT t d env = .ok env') : env'[i]? = env[i]? := by
  unfold bindT at h
  split at h
  · injection h with h; subst h
    exact List.getElem?_set_ne fun z => hn (by rw [z]; exact List.mem_singleton.mpr rfl)
  · exact bindMany_keep _ _ _ _ hn h
  · exact bindMany_keep _ _ _ _ hn h
  · cases h
theorem wipe_at {σ σ' : St} : ∀ {vs : List Nat}, i ∉ vs → (L2.wipe σ vs)[i]? = σ[i]?
  | [], _ => rfl
  | v :: vs, h => by
    unfold L2.wipe
    rw [List.getElem?_set_ne fun z => h (by rw [z]; exact List.mem_cons_self)]
    exact wipe_at (σ' := σ') fun z => h (List.mem_cons_of_mem _ z)
/-- for t in x: body, x a list of one's own that the body leaves alone -/
theorem ds_forO {tg : Expr} {x : Str} {st : Stmt} {t : Tg} {f : Ev → R Ev} (hp : PassesOwn (model X.prog X.w) X.A X.env X.xe) (hcm : X.calm = true) (hK : X.K = T.K) (hmi : Γ'[i]? = some .own) (hni : i ∉ tgSlots t) (hN : X.N[i]? = some x) (hv : Vis X.env.scope x) (hd : (x == ("__debug__" : Str)) = false) (hcd : (x == ("__classdict__" : Str)) = false)
    (hg : DG X T Γ' tg t) (hb : DOw X T Γ' Γe XE i st f) (hw : wkM Γ Γ' = true) (he : wkM Γe Γ' = true) :
    DS X T Γ Γ' Γb XE qb (.For tg (.Name x p) [st] [] pos) fun env => (getV env i).bind fun o => (ofO o.ownL).bind fun ds => forL t (fun env => (f env).bind fun e => .ok (e, .nx)) ds env := by
  obtain ⟨g, pg, sg⟩ := hg
  obtain ⟨⟨ta, pa, sa⟩, ka⟩ := hb
  refine ⟨_, ps_for hp hcm (pi_list (pe_var hN hv hd hcd)) pg (pss_one pa) (fun _ => rfl), fun H0 F0 σ H F env D r h => ?_⟩
  unfold getV at h
  dsimp only at h
  split at h
  · rename_i o e1
    rw [R.bind_ok] at h
    cases o with
    | lst ds =>
      have h : wpR (forL t (fun env => (f env).bind fun e => .ok (e, .nx)) ds env) (PostS T Γ' Γb qb H0 F0 F H D) (GoS XE F0 H0) := h
      obtain ⟨F2, h2, r2⟩ := r.weak hw
      obtain ⟨a, vs, ha, hva, hra, _⟩ := r2.ownAt hmi e1
      refine ⟨.ref a, ha, a, rfl, ⟨vs, SqL.of hva⟩, ?_⟩
      have w : Walk (Itl X.K a) vs.length (fun H => SqL X.K H a vs) (YAt vs) := walk_list
      have len := hra.length
      refine for_it w (fun n σ' H' => ∃ F' env', Fz F2 H F' H' ∧ SR T Γ' H0 F0 F' H' env' σ' ∧ σ'[i]? = some (some (.ref a)) ∧ H' a = some (.lst vs) ∧ env'[i]? = some (some (.lst ds)) ∧ wpR (forL t (fun env => (f env).bind fun e => .ok (e, .nx)) (ds.drop n) env') (PostS T Γ' Γb qb H0 F0 F H D) (GoS XE F0 H0)) ⟨F2, env, Fz.refl _ _, r2, ha, hva, e1, by rw [List.drop_zero]; exact h⟩ (fun n σ' H' _ ⟨F', env', _, _, _, z, _⟩ => SqL.of z) ?_ ?_
      · rintro n x σ3 H4 H3 hn ⟨F3, env3, fz3, r3, ha3, hv3, e3, h3⟩ ⟨rfl, y⟩
        obtain ⟨a', vs', ha', hv', hr', _⟩ := r3.ownAt hmi e3
        rw [ha3] at ha'; cases ha'
        rw [hv3] at hv'; cases hv'
        obtain ⟨d, ed, rd⟩ := hr'.getV y
        have hn2 : n < ds.length := by omega
        have edr : ds.drop n = d :: ds.drop (n + 1) := by
          rw [List.drop_eq_getElem_cons hn2]
          rw [List.getElem?_eq_getElem hn2] at ed
          rw [Option.some.inj ed]
        rw [edr] at h3
        unfold forL at h3
        cases eb : bindT t d env3 with
        | exc c fs => exact absurd eb (bindT_nx _ _ _ _ _)
        | bad => rw [eb] at h3; exact h3.elim
        | ok env4 =>
          rw [eb, R.bind_ok, R.bind_assoc] at h3
          have e4 : env4[i]? = some (some (.lst ds)) := by rw [bindT_keep hni eb]; exact e3
          refine sg H0 F0 σ3 H3 F3 env3 x d env4 _ r3 rd eb fun σ5 r5 wp => ?_
          have ha5 : σ5[i]? = some (some (.ref a)) := by
            have := wp (tgSlots t) fun j hj => hj
            rw [← ha3, ← wipe_at (σ := σ5) (σ' := σ5) hni, ← wipe_at (σ := σ3) (σ' := σ3) hni, this]
          refine sa H0 F0 σ5 H3 F3 env4 _ r5 ⟨ds, e4⟩ ?_
          cases ef : f env4 with
          | exc c fs => rw [ef] at h3; exact h3
          | bad => rw [ef] at h3; exact h3.elim
          | ok env6 =>
            rw [ef, R.bind_ok, R.bind_ok] at h3
            intro F6 H6 σ6 fz6 s6 k6
            obtain ⟨F7, h7, s7⟩ := s6.weak he
            exact ⟨F7, env6, (fz3.trans fz6).trans ⟨h7, fun _ _ _ z _ => z⟩, s7, by rw [k6.1]; exact ha5, by rw [k6.2 a ha5]; exact hv3, by rw [ka _ _ ef]; exact e4, h3⟩
      · rintro σ3 H3 ⟨F3, env3, fz3, r3, _, _, _, h3⟩
        rw [len, List.drop_length] at h3
        unfold forL at h3
        exact (show ∀ F' H' σ', Fz F H F' H' → SR T Γ' H0 F0 F' H' env3 σ' → D.nx σ' H' from h3) F3 H3 σ3 (Fz.trans ⟨h2, fun _ _ _ z _ => z⟩ fz3) r3
    | _ => exact h.elim
  · exact h.elim
end
end Ev

set_option maxHeartbeats 2000000
/-! Ev: dicts with tuples as keys -/
namespace L2
open PySem PySem.Spec PyProof.Rows
/-! ### rules of the hand layer that it lacks -/
/-- the pairs of a locked dict with tuple keys, each a new tuple -/
def ItiT (d : Addr) (o : Obj) (kvs : List (List Key × V)) : It :=
  ⟨fun i H => H d = some (.frz o (.dT kvs)) ∧ i < kvs.length, fun i H x H' => ∃ t k v q, kvs[i]? = some (k, v) ∧ x = .ref t ∧ H t = none ∧ H q = some (.tup (k.map kV)) ∧ H' = upd H t (.tup [.ref q, v]), fun i H => H d = some (.frz o (.dT kvs)) ∧ kvs.length ≤ i⟩
section
variable {X : Cx} {pins : List (Addr × Obj)} {σ : St} {H : Hp} {s : Shared} {d : Addr} {o : Obj}
theorem Inv.frzT2 {kvs : List (List Key × V)} (I : Inv X pins σ H s) (h : H d = some (.frz o (.dT kvs))) :
    (d == sysModules) = false ∧ s.heap.get? d = some o ∧ o.ExactDict ∧ ∃ (es : Array DictEntry) (ep : Nat), o.data = .dict es ep ∧ es.size = kvs.length ∧
      ∀ (i : Nat) (k : List Key) (v : V), kvs[i]? = some (k, v) → ∃ (en : DictEntry) (q : Addr), es[i]? = some en ∧ en.key = .ref q ∧ H q = some (.tup (k.map kV)) ∧ RelV v en.val := by
  obtain ⟨hd, z, hs, xs, pr, o', es, ep, ho, hx, hdt, he, _⟩ := I.hok d _ h
  rw [hd] at ho
  cases ho
  refine ⟨hs, hd, hx, es, ep, hdt, ?_, fun i k v e => ?_⟩
  · have l1 : es.size = xs.length := size_of_entries he
    have l2 : kvs.length = xs.length := Paired.length pr
    omega
  · obtain ⟨b, hb, e1, e2, e3⟩ := paired_get pr e
    have q := entry_at he i
    rw [hb] at q
    exact ⟨_, b.2.1, q, rfl, e2, e3⟩
end
section
variable {P : Program} {w : World} {K : PySem.W.Frag} {tg : Expr} {d : Addr} {o : Obj} {es : Array DictEntry} {ep : Nat}
theorem turn_itemsT {kvs : List (List Key × V)} {elts : List Expr} {kk : Nat} {tpos : Pos} (it : Addr) (hod : o.data = .dict es ep) :
    Turn P w K (.Tuple elts kk tpos) (ItiT d o kvs) [it] it (fun i h => ∃ ok ov, IsItemIter h it d i kvs.length ep ok ov) where
  mem := by simp
  obj := fun i h st b hb => by
    have e : b = it := by simpa using hb
    subst e
    obtain ⟨ok, ov, e⟩ := st
    exact ⟨_, e, fun v z => nomatch z⟩
  keep := fun i h h' st k => let ⟨ok, ov, e⟩ := st; ⟨ok, ov, k it (by simp) _ e⟩
  item := by
    intro X hP hw hK hc i pins s σ H E I hf st hg
    subst hP hw hK
    obtain ⟨hd, hi⟩ := hg
    obtain ⟨hs, hgd, hx, es', ep', hdt, hsz, ent⟩ := I.frzT2 hd
    obtain ⟨rfl, rfl⟩ := dict_ep hod hdt
    obtain ⟨⟨k, v⟩, hkv⟩ : ∃ p, kvs[i]? = some p := ⟨kvs[i], List.getElem?_eq_getElem hi⟩
    obtain ⟨en, q, hen, hkey, hq, rv⟩ := ent i k v hkv
    obtain ⟨ok, ov, he⟩ := st
    rw [← hsz] at he
    have hlt : it < s.heap.objs.size := Heap.lt_size he
    have hi' : i < es'.size := by omega
    have een : es'[i] = en := by
      rw [Array.getElem?_eq_getElem hi'] at hen
      exact Option.some.inj hen
    refine DT.nextI he ⟨_, hgd, hx, hdt⟩ hi' fun h' ho hT hz hk => ?_
    rw [een] at ho hT
    refine ⟨_, rfl, wpAny_letOwnedTupleGo_items (s := { s with heap := h' }) ho fun h'' he' sb => ?_⟩
    have hT2 : h''.get? s.heap.objs.size = some { cls := .type "tuple", data := .seq #[en.key, en.val] } := (sb.2 _ (Nat.ne_of_gt hlt)).trans hT
    have new : ObjOk X.prog X.w (upd H s.heap.objs.size (.tup [.ref q, v])) h'' s.heap.objs.size (.tup [.ref q, v]) :=
      ⟨by show 2 ≤ sizeLine; decide, [en.key, en.val], .cons hkey (.cons rv .nil), ⟨_, hT2, rfl, _, rfl⟩⟩
    have I1 : Inv X pins σ (upd H s.heap.objs.size (.tup [.ref q, v])) { s with heap := h'' } :=
      I.turnedNew (t' := s.toks) (ch := [it]) (fun b ob hb e => (sb.2 b (by simpa using hb)).trans (hk b ob (by simpa using hb) e)) hf (Nat.le_refl _) new
    refine ⟨.ref s.heap.objs.size, _, I1, rfl, ⟨_, k, v, q, hkv, rfl, I.hok.fresh (Nat.le_refl _), hq, rfl⟩, ⟨en.key, en.val, ?_⟩, fun b hb => ?_⟩
    · rw [← hsz]; exact he'
    · have e : b = it := by simpa using hb
      rw [e, upd_ne (Nat.ne_of_lt hlt)]
      exact (hf it (by simp)).1
  done := by
    intro X hP hw hK hc i pins s σ H E I hf st hg
    subst hP hw hK
    obtain ⟨hd, hi⟩ := hg
    obtain ⟨f0, f1, f2, f3, f4, f5⟩ := hf it (by simp)
    obtain ⟨hs, hgd, hx, es', ep', hdt, hsz, ent⟩ := I.frzT2 hd
    obtain ⟨rfl, rfl⟩ := dict_ep hod hdt
    obtain ⟨ok, ov, he⟩ := st
    rw [← hsz] at he
    exact DT.endI (I.ok.hd hc) he ⟨_, hgd, hx, hdt⟩ (by omega) fun h' eb => ⟨rfl, I.turned (t' := s.toks) (fun b ob hb e => eb b ob hb e) f0 f1 f3 f4 f5⟩
  self := fun A i s Q E st h => let ⟨_, _, e⟩ := st; PySem.W.kcp_self e h
end
def iItemsT (td : TE) : TI := fun σ H R => td σ H fun x H1 => ∃ d o kvs, x = .ref d ∧ H1 d = some (.frz o (.dT kvs)) ∧ R (ItiT d o kvs) H1
section
variable {X : Cx} {tg e : Expr} {td : TE} {apos cpos : Pos}
theorem pi_itemsT {elts : List Expr} {kk : Nat} {tpos : Pos} (he : PE X e td) (hbase : attributeBase e "items" X.env (eval e X.env) = eval e X.env := by rfl) (hline : (apos.endLine == cpos.line) = true := by rfl) :
    PI X (.Tuple elts kk tpos) (.Call (.Attribute e "items" apos) [] [] cpos) (iItemsT td) := by
  refine ⟨fun pins s σ H R I h => ?_⟩
  refine wpAny_Call_method (T := "dict") (id := "dict.items") hbase rfl hline F.plainAttrs_dict F.slot_dict_items F.type_dict_items (thn (he.run pins s σ H _ I h) fun u s1 ⟨x, H1, I1, rx, d, o, kvs, ex, hd, q⟩ => ?_)
  subst ex
  obtain rfl : u = Value.ref d := rx
  obtain ⟨hs, hgd, hx, es, ep, hdt, hsz, ent⟩ := I1.frzT2 hd
  have hm : DT.Raw s1.heap d es ep := ⟨_, hgd, hx, hdt⟩
  refine ⟨hm.typeIs, fun b q => ?_, ?_⟩
  · cases q
    exact ⟨_, hgd, hx.2.1⟩
  have I2 : Inv X pins σ H1 { s1 with heap := s1.heap.push { cls := .type "dict_items", data := .fields #[.ref d] } } := I1.kept (t' := s1.toks) fun b ob q => Heap.get?_push_of_some _ q
  have fin : wpAny (model X.prog X.w) X.A (pyIter (.ref s1.heap.objs.size)) (PIE X pins σ (.Tuple elts kk tpos) R) X.xe { s1 with heap := s1.heap.push { cls := .type "dict_items", data := .fields #[.ref d] } } := by
    refine DT.iterI (d := d) ⟨_, Heap.get?_push_size _ rfl, rfl, rfl⟩ (hm.push _) (pi_one (tk := s1.toks) I2 _ (turn_itemsT _ hdt) ⟨.none, .none, ?_⟩ q)
    rw [← hsz]
    exact Heap.get?_push_size _ rfl
  show wpAny _ _ (callWith cpos (.builtin "dict.items") [.ref d] [] []) _ X.xe s1
  exact method_meetsIn F.slot_dict_items F.entry_dict_items rfl (PySem.evalArgs_none ⟨rfl, hm.typeIs, F.args_dict_items_1 _, _, DT.meetsItems (es := es) (ep := ep) hs, hm, fin⟩)
theorem kt_keys {H : Hp} {kvs : List (List Key × V)} {xs : List (List Key × Addr × Value)} (r : KT H kvs xs) : xs.map (·.1) = kvs.map (·.1) := by
  unfold KT at r
  induction r with
  | nil => rfl
  | cons h t ih => rw [List.map_cons, List.map_cons, ih, h.1]
end
/-- {k: v}, k a tuple -/
def tOneT (tk tv : TE) : TE := fun σ H Q => ∀ p, H p = none → tk σ (upd H p (.dT [])) fun x H1 => tv σ H1 fun y H2 => ∃ b k, x = .ref b ∧ H2 b = some (.tup (k.map kV)) ∧ H2 p = some (.dT []) ∧ Q (.ref p) (upd H2 p (.dT [(k, y)]))
theorem pe_oneT {X : Cx} {pos : Pos} {ke ve : Expr} {tk tv : TE} (hu : X.A.units + 1 < cLine) (hk : PE X ke tk) (hv : PE X ve tv) : PE X (.Dict [some ke] [ve] pos) (tOneT tk tv) := by
  refine ⟨fun pins s σ H Q I q => ?_⟩
  have hn := I.hok.fresh (Nat.le_refl s.heap.objs.size)
  have I1 := I.laid (a := s.heap.objs.size) (o := .dT []) (h' := s.heap.push { cls := .type "dict", data := .dict #[] }) (t' := s.toks) (fun _ _ q => Heap.get?_push_of_some _ q) (Nat.le_refl _) (dt_empty s.heap I.big)
  have hshape : (evalEachOpt [some ke] X.env).zip ((evalEach [ve] X.env).map fun v => do let x ← v; standAt pos; pure x) = (pairTrees [some ke] [ve] X.env pos).map fun p => (some p.1, p.2) := rfl
  rw [arm_eval_Dict, hshape, dictDisplay_pairs (pairTrees [some ke] [ve] X.env pos) (by intro z; cases z) (by show 1 < 17; decide)]
  refine wpAny_bind (wpAny_standAt (wpAny_bind (wpAny_subDictH (knd := tupleKind (mixKind X.prog X.w)) (show X.A.units < cLine by omega) (by show 1 ≤ 15; decide) ?_)))
  refine pairTrees_cons_walk (thn (hk.run pins _ σ _ _ I1 (q _ hn)) fun u s1 ⟨x, H1, I1, rx, q1⟩ => thn (hv.run pins s1 σ H1 _ I1 q1) fun w2 s2 ⟨y, H2, I2, ry, b, k, ex, hb, hp, q2⟩ => pairTrees_nil_walk ?_)
  subst ex
  obtain rfl : u = Value.ref b := rx
  obtain ⟨z, hs, xs, rel, dd⟩ := dt_of I2.hok hp
  cases rel
  refine ⟨[(k, b, w2)], ⟨rfl, rfl, key_of I2.hok hb, trivial⟩, dd, fun h' tk' dd' hs' => wpAny_pure ⟨.ref s.heap.objs.size, upd H2 s.heap.objs.size (.dT [(k, y)]), ?_, rfl, q2⟩⟩
  obtain ⟨o, es, ep, g1, g2, g3, g4, g5, g6⟩ := dd'
  have hne : b ≠ s.heap.objs.size := fun z => by rw [z, hp] at hb; cases hb
  exact d_write I2 (by rw [hp]; exact True.intro) hs' ⟨o, g1⟩ ⟨by rw [sizeLine_eq]; show 1 ≤ 16777216; decide, hs, [(k, b, w2)], .cons ⟨rfl, by rw [upd_ne hne]; exact hb, ry⟩ .nil, o, es, ep, g1, g2, g3, g4, g6⟩
/-- sorted(xs), triples of ints -/
theorem cr_sortB {X : Cx} : CallR X (.builtin "sorted") (fun vs H Q => ∃ B, rSortU X.K 3 B vs H Q) := by
  intro pins s σ H vs us Q I r h
  obtain ⟨B, h⟩ := h
  exact cr_sortT (by decide) pins s σ H vs us Q I r h
end L2
namespace Ev
open PySem PySem.Spec PyProof.Rows L2
variable [Tbs]
/-! ### plain -/
theorem keysOf_ok {T : Tab} {H : Hp} {F : Addr → Prop} : ∀ {ds : List D} {vs : List V} {k : List Key}, Reps T H F vs ds → keysOf ds = some k → vs = k.map kV
  | [], _, _, .nil, e => by cases e; rfl
  | .int i :: ds, _, _, .cons h t, e => by
    obtain ⟨k', e1, rfl⟩ := Option.map_eq_some_iff.mp (show (keysOf ds).map (Sum.inl i :: ·) = _ from e)
    cases h
    rw [keysOf_ok t e1]; rfl
  | .str i :: ds, _, _, .cons h t, e => by
    obtain ⟨k', e1, rfl⟩ := Option.map_eq_some_iff.mp (show (keysOf ds).map (Sum.inr i :: ·) = _ from e)
    cases h
    rw [keysOf_ok t e1]; rfl
  | .non :: _, _, _, _, e => by cases e
  | .bl _ :: _, _, _, _, e => by cases e
  | .lst _ :: _, _, _, _, e => by cases e
  | .tup _ :: _, _, _, _, e => by cases e
  | .scr _ :: _, _, _, _, e => by cases e
  | .dK _ :: _, _, _, _, e => by cases e
  | .dT _ :: _, _, _, _, e => by cases e
  | .obj _ _ :: _, _, _, _, e => by cases e
  | .fn _ :: _, _, _, _, e => by cases e
theorem Reps.keysT {T : Tab} {H : Hp} {F : Addr → Prop} : ∀ k : List Key, Reps T H F (k.map kV) (k.map keyD)
  | [] => .nil
  | .inl i :: k => .cons (.int i) (Reps.keysT k)
  | .inr x :: k => .cons (.str x) (Reps.keysT k)
theorem TReps.any {T : Tab} {H : Hp} {F : Addr → Prop} (k : List Key) : ∀ {vs : List (List Key × V)} {ds : List (List Key × D)}, TReps T H F vs ds → (vs.any fun kv => decide (kv.1 = k)) = ds.any fun kv => decide (kv.1 = k)
  | _, _, .nil => rfl
  | (k', v) :: vs, (_, d) :: ds, .cons h t => by rw [List.any_cons, List.any_cons, TReps.any k t]
theorem TReps.find {T : Tab} {H : Hp} {F : Addr → Prop} {k : List Key} : ∀ {vs : List (List Key × V)} {ds : List (List Key × D)}, TReps T H F vs ds → (getK k ds = none → valV vs k = none) ∧ ∀ x, getK k ds = some x → ∃ v, valV vs k = some v ∧ Rep T H F v x
  | _, _, .nil => ⟨fun _ => rfl, fun _ e => (by cases e)⟩
  | (k', v) :: vs, (_, d) :: ds, .cons h t => by
    unfold getK
    by_cases e' : k' = k
    · rw [List.find?_cons, decide_eq_true e']
      exact ⟨fun e => (by cases e), fun x e => (by cases e; exact ⟨v, valV_pos e', h⟩)⟩
    · rw [List.find?_cons, decide_eq_false e', valV_neg e']
      exact TReps.find t
theorem TReps.put {T : Tab} {H : Hp} {F : Addr → Prop} {k : List Key} {v : V} {d : D} (h : Rep T H F v d) : ∀ {vs : List (List Key × V)} {ds : List (List Key × D)}, TReps T H F vs ds → TReps T H F (putK vs k v) (putD k d ds) := by
  have hm : ∀ {vs : List (List Key × V)} {ds : List (List Key × D)}, TReps T H F vs ds → TReps T H F (vs.map fun kv => if kv.1 = k then (kv.1, v) else kv) (ds.map fun kv => if kv.1 = k then (kv.1, d) else kv) := by
    intro vs
    induction vs with
    | nil => intro ds r; cases r; exact .nil
    | cons p vs ih =>
      intro ds r
      cases r with
      | cons h1 h2 =>
        rw [List.map_cons, List.map_cons]
        split
        · exact .cons h (ih h2)
        · exact .cons h1 (ih h2)
  have ha : ∀ {vs : List (List Key × V)} {ds : List (List Key × D)}, TReps T H F vs ds → TReps T H F (vs ++ [(k, v)]) (ds ++ [(k, d)]) := by
    intro vs
    induction vs with
    | nil => intro ds r; cases r; exact .cons h .nil
    | cons p vs ih => intro ds r; cases r with
      | cons h1 h2 => exact .cons h1 (ih h2)
  intro vs ds r
  unfold putK putD
  rw [TReps.any k r]
  split
  · exact hm r
  · exact ha r
theorem Top.dT {T : Tab} {H : Hp} {F : Addr → Prop} {v : V} {ds : List (List Key × D)} (h : Top T H F v (.dT ds)) : ∃ a vs, v = .ref a ∧ Rd H a (.dT vs) ∧ TReps T H F vs ds := by
  rcases h with h | ⟨a, e, h⟩
  · cases h with
    | dT s e r => exact ⟨_, _, rfl, e, r⟩
  · cases h with
    | dT e' r => exact ⟨a, _, e, .inl e', r⟩
theorem DGet.rt {H : Hp} {a b : Addr} {kvs : List (List Key × V)} {k : List Key} (e : Rd H a (.dT kvs)) (eb : H b = some (.tup (k.map kV))) : DGet H a (.ref b) (valV kvs k) := .inr ⟨kvs, k, b, e, rfl, eb, rfl⟩
theorem asInt_ok {o : Option D} {d : D} (h : asInt o = .ok d) : ∃ n, o = some (.int n) ∧ d = .int n := by
  unfold asInt at h
  split at h
  · injection h with h; exact ⟨_, rfl, h.symm⟩
  · cases h
theorem asInt_nx (o : Option D) : ∀ c fs, asInt o ≠ .exc c fs := by
  intro c fs; unfold asInt; split <;> (intro z; cases z)
theorem txD_nx (op : TX) (ds : List D) : ∀ c fs, txD op ds ≠ .exc c fs := by
  intro c fs
  cases op <;> unfold txD <;> dsimp only
  · unfold newTD; split <;> (intro z; cases z)
  · unfold oneTD; split
    · exact bind_nx (ofO_nx _) (fun _ => ok_nx _) c fs
    · intro z; cases z
  · unfold getTD; split
    · exact bind_nx (ofO_nx _) (fun _ => asInt_nx _) c fs
    · intro z; cases z
  · unfold copyTD; split <;> first | (split <;> (intro z; cases z)) | (intro z; cases z)
  · unfold listTD; split <;> (intro z; cases z)
  · unfold subTD; split
    · exact bind_nx (ofO_nx _) (fun _ => asInt_nx _) c fs
    · intro z; cases z
  · unfold sortTD; split
    · exact bind_nx (ofO_nx _) (fun _ c fs => by split <;> (intro z; cases z)) c fs
    · intro z; cases z
  · unfold leTD; split
    · exact bind_nx (fun c fs => by unfold leB; split <;> (intro z; cases z)) (fun _ => ok_nx _) c fs
    · intro z; cases z
  · unfold minTD; split
    · exact bind_nx (ofO_nx _) (fun _ c fs => by unfold minTs; split <;> (intro z; cases z)) c fs
    · intro z; cases z
  · unfold findSD; split <;> (intro z; cases z)
  · unfold joinSD; split
    · exact bind_nx (ofO_nx _) (fun _ c fs => by split <;> (intro z; cases z)) c fs
    · intro z; cases z
  · unfold splitSD; split
    · split <;> (intro z; cases z)
    · intro z; cases z
/-! ### expressions -/
section
variable {X : Cx} {T : Tab} {Γ : List Mo} {XE : XT} {q qa qb qc : Qu} {a b c : Expr} {fa fb fc : Ev → R D} {pos : Pos} {es : List Expr} {fs : Ev → R (List D)}
theorem ResOk.newDT {H : Hp} {F : Addr → Prop} {p : Addr} {vs : List (List Key × V)} {ds : List (List Key × D)} (hd : ∀ a, F a → ∃ o, H a = some o) (hp : H p = none) (r : TReps T H F vs ds) : ResOk T .fresh H F (upd H p (.dT vs)) (.ref p) (.dT ds) := by
  unfold ResOk
  simp only
  rw [if_pos (show (D.dT ds).cell = true from rfl)]
  refine ⟨p, rfl, hp, fun hf => ?_, .dT upd_same (r.mono (fun _ h => h) fun a o _ => (Ext.laid (F := F) hp).keep a o)⟩
  obtain ⟨o, e⟩ := hd p hf
  rw [hp] at e; cases e
theorem de_newT : DE X T Γ XE .fresh (.Dict [] [] pos) fun _ => txD .new [] :=
  ⟨_, pe_dnewT, fun _ _ _ H F _ Q s h p hp => h F _ _ (Ext.laid hp) (.newDT s.dom hp .nil)⟩
theorem de_oneT (hu : X.A.units + 65 < cLine) (ha : DE X T Γ XE qa a fa) (hb : DE X T Γ XE qb b fb) (hbx : ∀ env c fs, fb env ≠ .exc c fs) (hax : ∀ env c fs, fa env ≠ .exc c fs) : DE X T Γ XE .fresh (.Dict [some a] [b] pos) fun env => (fa env).bind fun x => (fb env).bind fun y => txD .one [x, y] := by
  obtain ⟨ta, pa, sa⟩ := ha
  obtain ⟨tb, pb, sb⟩ := hb
  refine ⟨_, pe_oneT (by omega) pa pb, fun H0 F0 σ H F env Q s h p hp => ?_⟩
  have x0 : Ext F H F (upd H p (.dT [])) := Ext.laid hp
  have s0 := s.ext' x0
  cases e1 : fa env with
  | exc c fs => exact absurd e1 (hax _ _ _)
  | bad => dsimp only at h; rw [e1] at h; exact h.elim
  | ok d1 =>
    dsimp only at h; rw [e1, R.bind_ok] at h
    refine sa H0 F0 σ _ F env _ s0 ?_
    rw [e1]
    intro F1 H1 v1 x1 rv1
    have t1 := rv1.top
    have s1 := s0.ext' x1
    cases e2 : fb env with
    | exc c fs => exact absurd e2 (hbx _ _ _)
    | bad => rw [e2] at h; exact h.elim
    | ok d2 =>
      rw [e2, R.bind_ok] at h
      refine sb H0 F0 σ H1 F1 env _ s1 ?_
      rw [e2]
      intro F2 H2 v2 x2 rv2
      have t2 := rv2.top
      cases e : txD .one [d1, d2] with
      | exc c fs => exact absurd e (txD_nx _ _ _ _)
      | bad => rw [e] at h; exact h.elim
      | ok d =>
        rw [e] at h
        have h : Go T .fresh F H Q d := h
        have e : oneTD [d1, d2] = .ok d := e
        unfold oneTD at e
        split at e
        · rename_i ks n z2
          cases z2
          obtain ⟨k, e3, e4⟩ := bind_ok_of e
          injection e4 with e4; subst e4
          cases t2.int
          obtain ⟨q, vs, rfl, hq, hvq, hr⟩ := t1.tup
          cases keysOf_ok hr (ofO_ok e3)
          have hp2 : H2 p = some (.dT []) := x2.keep _ _ (x1.keep _ _ upd_same rfl) rfl
          refine ⟨q, k, rfl, x2.keep _ _ hvq rfl, hp2, ?_⟩
          have nf : ¬ F2 p := fun z => by
            rcases ((x0.trans x1).trans x2).new p z with z | ⟨z, _⟩
            · obtain ⟨o, eo⟩ := s.dom p z; rw [hp] at eo; cases eo
            · rcases x2.new p ‹_› with w | ⟨w, _⟩
              · rcases x1.new p w with w | ⟨w, _⟩
                · obtain ⟨o, eo⟩ := s.dom p w; rw [hp] at eo; cases eo
                · exact w.no upd_same (fun _ q => nomatch q)
              · exact w.no (x1.keep _ _ upd_same rfl) (fun _ q => nomatch q)
          have xx : Ext F H F2 (upd H2 p (.dT [(k, .int n)])) := by
            have x3 := (x0.trans x1).trans x2
            exact x3.over hp nf hp2 rfl (fun _ z => nomatch z)
          refine h F2 _ _ xx ?_
          unfold ResOk
          simp only
          rw [if_pos (show (D.dT [(k, D.int n)]).cell = true from rfl)]
          exact ⟨p, rfl, hp, nf, .dT upd_same (.cons (.int n) .nil)⟩
        · cases e
theorem de_getT {apos : Pos} (hu : X.A.units + 65 < cLine) (ha : DE X T Γ XE qa a fa) (hb : DE X T Γ XE qb b fb) (hc : DE X T Γ XE qc c fc) (hbx : ∀ env c fs, fb env ≠ .exc c fs) (hcx : ∀ env c fs, fc env ≠ .exc c fs) (m : M2 X a "get" apos b c pos) : DE X T Γ XE .fresh (.Call (.Attribute a "get" apos) [b, c] [] pos) fun env => (fa env).bind fun x => (fb env).bind fun y => (fc env).bind fun z => txD .get [x, y, z] := by
  obtain ⟨ta, pa, sa⟩ := ha
  obtain ⟨tb, pb, sb⟩ := hb
  obtain ⟨tc, pc, sc⟩ := hc
  refine ⟨_, pe_dget2 (by omega) pa pb pc m, fun H0 F0 σ H F env Q s h => ?_⟩
  refine sa.top s h fun d1 F1 H1 v1 x1 t1 r1 h1 => ?_
  by_cases hd1 : ∃ kvs, d1 = .dT kvs
  · obtain ⟨kvs, rfl⟩ := hd1
    obtain ⟨p, vs, rfl, k1, k2⟩ := t1.dT
    refine ⟨p, rfl, .inr ⟨vs, k1⟩, ?_⟩
    refine sb.top r1 h1 fun d2 F2 H2 v2 x2 t2 r2 h2 => ?_
    refine sc.top r2 h2 fun d3 F3 H3 v3 x3 t3 r3 h3 => ?_
    cases e : txD .get [.dT kvs, d2, d3] with
    | exc c fs => exact absurd e (txD_nx _ _ _ _)
    | bad => rw [e] at h3; exact h3.elim
    | ok d =>
      rw [e] at h3
      have h3 := Go.back (d := d) ((x1.trans x2).trans x3) h3
      have e : getTD [.dT kvs, d2, d3] = .ok d := e
      unfold getTD at e
      split at e
      · rename_i kvs' ks m z1
        cases z1
        obtain ⟨k, e3, e4⟩ := bind_ok_of e
        cases t3.int
        obtain ⟨q, ws, rfl, hq, hvq, hr⟩ := t2.tup
        cases keysOf_ok hr (ofO_ok e3)
        have k1' : Rd H3 p (.dT vs) := k1.imp (fun z => x3.keep _ _ (x2.keep _ _ z rfl) rfl) fun ⟨o, z⟩ => ⟨o, x3.keep _ _ (x2.keep _ _ z rfl) rfl⟩
        have k2' := (k2.mono x2.sub fun a o _ => x2.keep a o).mono x3.sub fun a o _ => x3.keep a o
        refine ⟨valV vs k, DGet.rt k1' (x3.keep _ _ hvq rfl), ?_⟩
        obtain ⟨n, e5, rfl⟩ := asInt_ok e4
        cases e6 : getK k kvs with
        | none =>
          rw [e6] at e5
          cases e5
          rw [k2'.find.1 e6]
          exact Go.now h3 .int
        | some x =>
          rw [e6] at e5
          cases e5
          obtain ⟨v, ev, rv⟩ := k2'.find.2 _ e6
          rw [ev]
          cases rv
          exact Go.now h3 .int
      · cases e
  · have ne : ∀ x y, txD .get [d1, x, y] = .bad := fun x y => by
      show getTD [d1, x, y] = .bad
      unfold getTD
      split
      · rename_i z; cases z; exact absurd ⟨_, rfl⟩ hd1
      · rfl
    exfalso
    cases e1 : fb env with
    | exc c fs => exact hbx _ _ _ e1
    | bad => rw [e1] at h1; exact h1.elim
    | ok y =>
      rw [e1, R.bind_ok] at h1
      cases e2 : fc env with
      | exc c fs => exact hcx _ _ _ e2
      | bad => rw [e2] at h1; exact h1.elim
      | ok z => rw [e2, R.bind_ok, ne] at h1; exact h1.elim
/-- few pairs of small numbers hash apart -/
def hash2 (i j : Nat) : Int := PySem.reduceHash (Builtin.Tuple.tupleHashOf [hashInt (i : Int), hashInt (j : Int)])
theorem hash2_inj : ∀ i : Fin 16, ∀ j : Fin 16, ∀ k : Fin 16, ∀ l : Fin 16, hash2 i j = hash2 k l → i = k ∧ j = l := by decide +kernel
theorem pairK_ok {k : List Key} (h : pairK k = true) : ∃ i j : Fin 16, k = [Sum.inl ((i : Nat) : Int), Sum.inl ((j : Nat) : Int)] := by
  unfold pairK at h
  split at h
  · rename_i i j
    simp only [Bool.and_eq_true, decide_eq_true_eq] at h
    refine ⟨⟨i.toNat, by omega⟩, ⟨j.toNat, by omega⟩, ?_⟩
    show [Sum.inl i, Sum.inl j] = [Sum.inl ((i.toNat : Nat) : Int), Sum.inl ((j.toNat : Nat) : Int)]
    rw [Int.toNat_of_nonneg (by omega), Int.toNat_of_nonneg (by omega)]
  · cases h
theorem nodup_hash {P : Program} {w : World} : ∀ {ks : List (List Key)}, ks.Nodup → (∀ k ∈ ks, pairK k = true) → (ks.map fun k => PySem.tupleKeyHash (mixKind P w) k).Nodup
  | [], _, _ => List.nodup_nil
  | k :: ks, hn, hp => by
    rw [List.map_cons, List.nodup_cons]
    rw [List.nodup_cons] at hn
    refine ⟨fun hm => ?_, nodup_hash hn.2 fun k hk => hp k (List.mem_cons_of_mem _ hk)⟩
    obtain ⟨k', hk', e⟩ := List.mem_map.mp hm
    obtain ⟨i, j, rfl⟩ := pairK_ok (hp k (List.mem_cons_self ..))
    obtain ⟨i', j', rfl⟩ := pairK_ok (hp k' (List.mem_cons_of_mem _ hk'))
    have e : hash2 i' j' = hash2 i j := e
    obtain ⟨rfl, rfl⟩ := hash2_inj _ _ _ _ e
    exact hn.1 hk'
theorem TReps.keys {T : Tab} {H : Hp} {F : Addr → Prop} : ∀ {vs : List (List Key × V)} {ds : List (List Key × D)}, TReps T H F vs ds → vs.map (·.1) = ds.map (·.1)
  | _, _, .nil => rfl
  | (k', v) :: vs, (_, d) :: ds, .cons h t => by rw [List.map_cons, List.map_cons, TReps.keys t]
/-- d.copy() -/
def tCopyT (td : TE) : TE := fun σ H Q => td σ H fun x H1 => ∃ a kvs, x = .ref a ∧ Rd H1 a (.dT kvs) ∧ (∀ p ∈ kvs, pairK p.1 = true) ∧ ∀ p, H1 p = none → Q (.ref p) (upd H1 p (.dT kvs))
theorem pe_copyT {e : Expr} {td : TE} {apos cpos : Pos} (he : PE X e td) (hbase : attributeBase e "copy" X.env (eval e X.env) = eval e X.env := by rfl) (hline : (apos.endLine == cpos.line) = true := by rfl) :
    PE X (.Call (.Attribute e "copy" apos) [] [] cpos) (tCopyT td) := by
  refine ⟨fun pins s σ H Q I h => ?_⟩
  refine wpAny_Call_method (T := "dict") (id := "dict.copy") hbase rfl hline F.plainAttrs_dict F.slot_dict_copy F.type_dict_copy (thn (he.run pins s σ H _ I h) fun u s1 ⟨x, H1, I1, rx, d, kvs, ex, hd, hn, q⟩ => ?_)
  subst ex
  obtain rfl : u = Value.ref d := rx
  obtain ⟨t1, t2, _⟩ := isD_at I1 (.inr ⟨kvs, hd⟩)
  refine ⟨t1, t2, ?_⟩
  show wpAny _ _ (callWith cpos (.builtin "dict.copy") [.ref d] [] []) _ X.xe s1
  refine Calls.callWith_builtin rfl (PySem.evalArgs_none ?_)
  obtain ⟨z, hs, xs, rel, dd⟩ := dt_rd I1.hok hd
  obtain ⟨_, _, _, _, _, _, _, his, hnd⟩ := id dd
  have hh : (xs.map fun x => (tupleKind (mixKind X.prog X.w)).hash x.1).Nodup := by
    have := nodup_hash (P := X.prog) (w := X.w) hnd (fun k hk => by
      rw [kt_keys rel] at hk
      obtain ⟨p, hp, rfl⟩ := List.mem_map.mp hk
      exact hn p hp)
    rw [List.map_map] at this
    exact this
  refine call_copyH (knd := tupleKind (mixKind X.prog X.w)) hs dd (by rw [← Paired.length rel]; exact z) (keyed_apart tupleKind_stays dd) hh (fun h' hk x hx => tupleKind_stays.stays (fun b o _ _ e _ => hk b o e) (his x hx)) fun h' dd' hk => ?_
  have hf : H1 s1.heap.objs.size = none := I1.hok.fresh (Nat.le_refl _)
  obtain ⟨o, es, ep, g1, g2, g3, g4, g5, g6⟩ := dd'
  refine ⟨.ref s1.heap.objs.size, upd H1 s1.heap.objs.size (.dT kvs), I1.laid (t' := s1.toks) hk (Nat.le_refl _) ⟨z, beq_eq_false_iff_ne.mpr (Ne.symm (Nat.ne_of_lt I1.big)), xs, ?_, o, es, ep, g1, g2, g3, g4, g6⟩, rfl, q _ hf⟩
  exact rel.keeps fun b ys eb => by rw [upd_ne (fun z => by rw [z, hf] at eb; cases eb)]; exact eb
theorem de_copyT {apos : Pos} (ha : DE X T Γ XE qa a fa) (hbs : attributeBase a "copy" X.env (eval a X.env) = eval a X.env) (hl : (apos.endLine == pos.line) = true) : DE X T Γ XE .fresh (.Call (.Attribute a "copy" apos) [] [] pos) fun env => (fa env).bind fun x => txD .copy [x] := by
  obtain ⟨ta, pa, sa⟩ := ha
  refine ⟨_, pe_copyT pa hbs hl, fun H0 F0 σ H F env Q s h => ?_⟩
  refine sa.top s h fun d1 F1 H1 v1 x1 t1 r1 h1 => ?_
  cases e : txD .copy [d1] with
  | exc c fs => exact absurd e (txD_nx _ _ _ _)
  | bad => rw [e] at h1; exact h1.elim
  | ok d =>
    rw [e] at h1
    have h1 := Go.back (d := d) x1 h1
    have e0 : copyTD [d1] = .ok d := e
    clear e
    unfold copyTD at e0
    split at e0
    · rename_i kvs z1
      cases z1
      split at e0
      · rename_i hp
        injection e0 with e; subst e
        obtain ⟨p, vs, rfl, k1, k2⟩ := t1.dT
        refine ⟨p, vs, rfl, k1, fun w hw => ?_, fun p' hp' => h1 F1 _ _ (Ext.laid hp') (.newDT r1.dom hp' k2)⟩
        have hk := TReps.keys k2
        have : w.1 ∈ kvs.map (·.1) := by rw [← hk]; exact List.mem_map.mpr ⟨w, hw, rfl⟩
        obtain ⟨kv, hkv, e⟩ := List.mem_map.mp this
        rw [← e]
        exact List.all_eq_true.mp hp kv hkv
      · cases e0
    · cases e0
theorem isKeys_get {H : Hp} : ∀ {kvs : List (List Key × V)} {bs : List Addr}, IsKeys H kvs bs → ∀ {F : Addr → Prop} {T : Tab}, (∀ b ∈ bs, F b) → Reps T H F (bs.map V.ref) (kvs.map fun kv => .tup (kv.1.map keyD)) := by
  intro kvs bs h
  unfold IsKeys at h
  induction h with
  | nil => intro F T _; exact .nil
  | cons h t ih => intro F T hF; exact .cons (.tup (hF _ (List.mem_cons_self ..)) h (Reps.keysT _)) (ih fun b hb => hF b (List.mem_cons_of_mem _ hb))
theorem isKeys_tup {H : Hp} {kvs : List (List Key × V)} {bs : List Addr} (h : IsKeys H kvs bs) : ∀ b ∈ bs, ∃ vs, H b = some (.tup vs) := by
  unfold IsKeys at h
  induction h with
  | nil => intro b hb; cases hb
  | cons h t ih =>
    intro b hb
    rcases List.mem_cons.mp hb with rfl | hb
    · exact ⟨_, h⟩
    · exact ih b hb
theorem cal_listT : CalOk T .fresh (fun xs H Q => ∃ d kvs, xs = [V.ref d] ∧ Rd H d (.dT kvs) ∧ ∀ p bs, H p = none → IsKeys H kvs bs → Q (.ref p) (upd H p (.lst (bs.map V.ref)))) listTD := by
  constructor
  · intro ds c fs; unfold listTD; split <;> (intro z; cases z)
  · intro H F vs ds d Q tt hd e h
    unfold listTD at e
    split at e
    · rename_i kvs
      obtain ⟨v, rfl, t⟩ := tt.one
      obtain ⟨a, ws, rfl, h1, h2⟩ := t.dT
      injection e with e; subst e
      refine ⟨a, ws, rfl, h1, fun p bs hp hk => ?_⟩
      have nb : ∀ b ∈ bs, b ≠ p := fun b hb z => by
        obtain ⟨vs, e⟩ := isKeys_tup hk b hb
        rw [z, hp] at e; cases e
      have x : Ext F H (fun b => F b ∨ b ∈ bs) (upd H p (.lst (bs.map V.ref))) := .all (fun c o hc => by rw [upd_ne (fun z => by rw [z, hp] at hc; cases hc)]; exact hc) (fun _ h => .inl h) fun b hb => hb.imp (fun z => z) fun z => by
        obtain ⟨vs, e⟩ := isKeys_tup hk b z
        exact ⟨.inr ⟨vs, e⟩, _, by rw [upd_ne (nb b z)]; exact e⟩
      refine h _ _ _ x ?_
      unfold ResOk
      simp only
      rw [if_pos (show (D.lst _).cell = true from rfl)]
      refine ⟨p, rfl, hp, ?_, .lst upd_same ?_⟩
      · rintro (z | z)
        · obtain ⟨o, e⟩ := hd p z; rw [hp] at e; cases e
        · exact nb p z rfl
      · have ke : ws.map (fun kv => D.tup (kv.1.map keyD)) = kvs.map (fun kv => D.tup (kv.1.map keyD)) := by
          have := congrArg (List.map fun k : List Key => D.tup (k.map keyD)) (TReps.keys h2)
          rw [List.map_map, List.map_map] at this
          exact this
        rw [← ke]
        exact (isKeys_get hk (F := fun b => F b ∨ b ∈ bs) fun b hb => .inr hb).mono (fun _ h => h) fun a o _ h => x.keep a o h
    · cases e
theorem de_subT (hu : X.A.units + 65 < cLine) (ha : DE X T Γ XE qa a fa) (hb : DE X T Γ XE qb b fb) (hs : PlainIx b) : DE X T Γ XE .fresh (.Subscript a b pos) fun env => (fa env).bind fun x => (fb env).bind fun y => txD .sub [x, y] := by
  obtain ⟨ta, pa, sa⟩ := ha
  obtain ⟨tb, pb, sb⟩ := hb
  refine ⟨_, pe_ix (ix_dict (by omega)) pa pb hs, fun H0 F0 σ H F env Q s h => ?_⟩
  refine sa.top s h fun d1 F1 H1 v1 x1 t1 r1 h1 => ?_
  refine sb.top r1 h1 fun d2 F2 H2 v2 x2 t2 r2 h2 => ?_
  cases e : txD .sub [d1, d2] with
  | exc c fs => exact absurd e (txD_nx _ _ _ _)
  | bad => rw [e] at h2; exact h2.elim
  | ok d =>
    rw [e] at h2
    have h2 := Go.back (d := d) (x1.trans x2) h2
    have e : subTD [d1, d2] = .ok d := e
    unfold subTD at e
    split at e
    · rename_i kvs ks z1
      cases z1
      obtain ⟨k, e3, e4⟩ := bind_ok_of e
      obtain ⟨p, vs, rfl, k1, k2⟩ := (t1.ext x2).dT
      obtain ⟨q, ws, rfl, hq, hvq, hr⟩ := t2.tup
      cases keysOf_ok hr (ofO_ok e3)
      obtain ⟨n, e5, rfl⟩ := asInt_ok e4
      obtain ⟨v, ev, rv⟩ := k2.find.2 _ e5
      cases rv
      exact ⟨p, _, rfl, by rw [← ev]; exact DGet.rt k1 hvq, Go.now h2 .int⟩
    · cases e
theorem leB_nx (a b : D) : ∀ c fs, leB a b ≠ .exc c fs := by
  intro c fs; unfold leB; split <;> (intro z; cases z)
theorem cmp_leT (hK : X.K = T.K) (hu : X.A.units + 65 < cLine) : CmpOk X T .LtE leB := by
  refine ⟨_, op_leT (by omega), fun d1 d2 c fs => leB_nx d1 d2 c fs, fun H F v1 v2 d1 d2 kk Q t1 t2 e h => ?_⟩
  unfold leB at e
  split at e
  · rename_i i j k l
    injection e with e; subst e
    obtain ⟨p, vs, rfl, _, k1, k2⟩ := t1.tup
    obtain ⟨q, ws, rfl, hq, hvq, hr⟩ := t2.tup
    cases k2 with
    | cons a1 a2 => cases a2 with
      | cons a2 a3 =>
        cases a3; cases a1; cases a2
        cases hr with
        | cons b1 b2 => cases b2 with
          | cons b2 b3 =>
            cases b3; cases b1; cases b2
            refine ⟨p, q, [i, j], [k, l], rfl, rfl, by rw [hK]; exact SqT.of k1, by rw [hK]; exact SqT.of hvq, ?_⟩
            have : Ob.lexAt (fun n => decide ([i, j].getD n 0 = [k, l].getD n 0)) (fun n => decide ([i, j].getD n 0 ≤ [k, l].getD n 0)) (decide ([i, j].length ≤ [k, l].length)) 0 (min [i, j].length [k, l].length) = (decide (i < k) || (decide (i = k) && decide (j ≤ l))) := by
              show (if decide (i = k) = true then (if decide (j = l) = true then true else decide (j ≤ l)) else decide (i ≤ k)) = _
              by_cases h1 : i = k
              · by_cases h2 : j = l
                · simp [h1, h2]
                · simp [h1, h2]
              · have : (i ≤ k) ↔ (i < k) := by omega
                simp [h1, this]
            rw [this]
            exact h
  · cases e
/-! ### sorted triples -/
theorem lexT_iff {t u : Int × Int × Int} : lexT t u = true ↔ t.1 < u.1 ∨ (t.1 = u.1 ∧ (t.2.1 < u.2.1 ∨ (t.2.1 = u.2.1 ∧ t.2.2 ≤ u.2.2))) := by
  unfold lexT
  simp only [Bool.or_eq_true, Bool.and_eq_true, decide_eq_true_eq]
theorem lexT_total (t u : Int × Int × Int) : lexT t u = true ∨ lexT u t = true := by
  rw [lexT_iff, lexT_iff]; omega
theorem lexT_anti {t u : Int × Int × Int} (h1 : lexT t u = true) (h2 : lexT u t = true) : t = u := by
  rw [lexT_iff] at h1 h2
  obtain ⟨a, b, c⟩ := t
  obtain ⟨d, e, f⟩ := u
  have h3 : a = d ∧ b = e ∧ c = f := by dsimp only at h1 h2; omega
  obtain ⟨rfl, rfl, rfl⟩ := h3
  rfl
theorem lexT_trans {t u v : Int × Int × Int} (h1 : lexT t u = true) (h2 : lexT u v = true) : lexT t v = true := by
  rw [lexT_iff] at h1 h2 ⊢; omega
theorem insT_perm (t : Int × Int × Int) : ∀ l, (insT t l).Perm (t :: l)
  | [] => List.Perm.refl _
  | u :: r => by
    unfold insT
    split
    · exact List.Perm.refl _
    · exact ((insT_perm t r).cons u).trans (List.Perm.swap _ _ _)
theorem insT_sorted (t : Int × Int × Int) : ∀ l, l.Pairwise (fun a b => lexT a b = true) → (insT t l).Pairwise (fun a b => lexT a b = true)
  | [], _ => List.pairwise_singleton _ _
  | u :: r, h => by
    unfold insT
    rw [List.pairwise_cons] at h
    split
    · rename_i e
      refine List.pairwise_cons.mpr ⟨fun v hv => ?_, List.pairwise_cons.mpr h⟩
      rcases List.mem_cons.mp hv with rfl | hv
      · exact e
      · exact lexT_trans e (h.1 v hv)
    · rename_i e
      refine List.pairwise_cons.mpr ⟨fun v hv => ?_, insT_sorted t r h.2⟩
      rcases List.mem_cons.mp ((insT_perm t r).mem_iff.mp hv) with rfl | hv
      · exact (lexT_total u v).resolve_right e
      · exact h.1 v hv
theorem sortT_perm : ∀ l, (sortT l).Perm l
  | [] => List.Perm.refl _
  | t :: r => (insT_perm t _).trans ((sortT_perm r).cons t)
theorem sortT_sorted : ∀ l, (sortT l).Pairwise (fun a b => lexT a b = true)
  | [] => List.Pairwise.nil
  | t :: r => insT_sorted t _ (sortT_sorted r)
theorem sortT_unique : ∀ {l m : List (Int × Int × Int)}, l.Perm m → l.Pairwise (fun a b => lexT a b = true) → m.Pairwise (fun a b => lexT a b = true) → l = m
  | [], m, h, _, _ => (List.Perm.nil_eq h)
  | a :: l, [], h, _, _ => by have := h.length_eq; simp at this
  | a :: l, b :: m, h, hl, hm => by
    rw [List.pairwise_cons] at hl hm
    have e : a = b := by
      have h1 : a ∈ b :: m := h.mem_iff.mp (List.mem_cons_self ..)
      have h2 : b ∈ a :: l := h.mem_iff.mpr (List.mem_cons_self ..)
      rcases List.mem_cons.mp h1 with e | h1
      · exact e
      · rcases List.mem_cons.mp h2 with e | h2
        · exact e.symm
        · exact lexT_anti (hl.1 b h2) (hm.1 a h1)
    subst e
    rw [sortT_unique (List.Perm.cons_inv h) hl.2 hm.2]
theorem trips_map : ∀ {xs : List D} {ts : List (Int × Int × Int)}, tripsD xs = some ts → xs = ts.map trD
  | [], _, e => by cases e; rfl
  | x :: xs, ts, e => by
    unfold tripsD at e
    split at e
    · rename_i t r e1 e2
      cases e
      rw [List.map_cons, ← trips_map e2]
      congr 1
      unfold tripD at e1
      split at e1
      · cases e1; rfl
      · cases e1
    · cases e
theorem reps_perm {T : Tab} {H : Hp} {F : Addr → Prop} {α : Type} (f : α → D) {ws ys : List V} (h : ws.Perm ys) : ∀ {ts : List α}, Reps T H F ws (ts.map f) → ∃ ts' : List α, ts.Perm ts' ∧ Reps T H F ys (ts'.map f) := by
  induction h with
  | nil => intro ts r; exact ⟨ts, List.Perm.refl _, r⟩
  | cons x h ih =>
    intro ts r
    cases ts with
    | nil => cases r
    | cons t ts =>
      cases r with
      | cons r1 r2 =>
        obtain ⟨ts', p, r'⟩ := ih r2
        exact ⟨t :: ts', p.cons t, .cons r1 r'⟩
  | swap x y l =>
    intro ts r
    match ts, r with
    | [], r => cases r
    | [_], r => cases r with | cons _ r => cases r
    | t :: u :: ts, .cons r1 (.cons r2 r3) => exact ⟨u :: t :: ts, List.Perm.swap _ _ _, .cons r2 (.cons r1 r3)⟩
  | trans _ _ ih1 ih2 =>
    intro ts r
    obtain ⟨t1, p1, r1⟩ := ih1 r
    obtain ⟨t2, p2, r2⟩ := ih2 r1
    exact ⟨t2, p1.trans p2, r2⟩
def sumT : List (Int × Int × Int) → Int
  | [] => 1
  | t :: r => t.1 + t.2.1 + t.2.2 + sumT r
theorem sumT_pos : ∀ {l : List (Int × Int × Int)}, l.all posT = true → 1 ≤ sumT l
  | [], _ => Int.le_refl _
  | t :: r, h => by
    rw [List.all_cons, Bool.and_eq_true] at h
    have := sumT_pos h.2
    have h1 := h.1
    unfold posT at h1
    simp only [Bool.and_eq_true, decide_eq_true_eq] at h1
    unfold sumT
    omega
theorem sumT_bd : ∀ {l : List (Int × Int × Int)}, l.all posT = true → ∀ t ∈ l, 0 ≤ t.1 ∧ 0 ≤ t.2.1 ∧ 0 ≤ t.2.2 ∧ t.1 < sumT l ∧ t.2.1 < sumT l ∧ t.2.2 < sumT l
  | [], _, t, ht => by cases ht
  | u :: r, h, t, ht => by
    rw [List.all_cons, Bool.and_eq_true] at h
    have h0 := sumT_pos h.2
    have h1 := h.1
    unfold posT at h1
    simp only [Bool.and_eq_true, decide_eq_true_eq] at h1
    unfold sumT
    rcases List.mem_cons.mp ht with rfl | ht
    · omega
    · have := sumT_bd h.2 t ht
      omega
theorem bd3 {B a b c : Int} (h : 0 ≤ a ∧ 0 ≤ b ∧ 0 ≤ c ∧ a < B ∧ b < B ∧ c < B) : TS.Bd B [a, b, c] := by
  intro d hd
  simp only [List.mem_cons, List.not_mem_nil, or_false] at hd
  rcases hd with rfl | rfl | rfl <;> omega
theorem code_lex3 {B : Int} {t u : Int × Int × Int} (h1 : TS.Bd B [t.1, t.2.1, t.2.2]) (h2 : TS.Bd B [u.1, u.2.1, u.2.2]) (h : TS.code B [t.1, t.2.1, t.2.2] ≤ TS.code B [u.1, u.2.1, u.2.2]) : lexT t u = true := by
  rw [lexT_iff]
  rcases Int.lt_trichotomy t.1 u.1 with z | z | z
  · exact .inl z
  · refine .inr ⟨z, ?_⟩
    rw [z] at h h1
    rcases Int.lt_trichotomy t.2.1 u.2.1 with y | y | y
    · exact .inl y
    · refine .inr ⟨y, ?_⟩
      rw [y] at h h1
      by_cases x : t.2.2 ≤ u.2.2
      · exact x
      · have q := TS.code_lt (B := B) (r := []) (q := []) (d := u.2.2) (e := t.2.2) rfl (fun m hm => by cases hm) (fun m hm => by cases hm) (by omega)
        have q2 := (TS.code_same (B := B) (d := u.2.1) (r := [u.2.2]) (q := [t.2.2]) rfl).mpr q
        have q3 := (TS.code_same (B := B) (d := u.1) (r := [u.2.1, u.2.2]) (q := [u.2.1, t.2.2]) rfl).mpr q2
        omega
    · have q := TS.code_lt (B := B) (r := [u.2.2]) (q := [t.2.2]) (d := u.2.1) (e := t.2.1) rfl h2.tail.tail h1.tail.tail y
      have q2 := (TS.code_same (B := B) (d := u.1) (r := [u.2.1, u.2.2]) (q := [t.2.1, t.2.2]) rfl).mpr q
      omega
  · have q := TS.code_lt (B := B) (r := [u.2.1, u.2.2]) (q := [t.2.1, t.2.2]) (d := u.1) (e := t.1) rfl h2.tail h1.tail z
    omega
theorem Rep.trip {T : Tab} {H : Hp} {F : Addr → Prop} {y : V} {t : Int × Int × Int} (h : Rep T H F y (trD t)) : ∃ a, y = .ref a ∧ H a = some (.tup ([t.1, t.2.1, t.2.2].map V.int)) := by
  cases h with
  | tup s e r =>
    cases r with
    | cons a r => cases r with
      | cons b r => cases r with
        | cons c r => cases r; cases a; cases b; cases c; exact ⟨_, rfl, e⟩
theorem reps_mem {T : Tab} {H : Hp} {F : Addr → Prop} {α : Type} (f : α → D) : ∀ {ws : List V} {ts : List α}, Reps T H F ws (ts.map f) → ∀ x ∈ ws, ∃ t ∈ ts, Rep T H F x (f t)
  | [], _, _, x, hx => by cases hx
  | w :: ws, t :: ts, .cons h r, x, hx => by
    rcases List.mem_cons.mp hx with rfl | hx
    · exact ⟨t, List.mem_cons_self .., h⟩
    · obtain ⟨u, hu, ru⟩ := reps_mem f r x hx
      exact ⟨u, List.mem_cons_of_mem _ hu, ru⟩
theorem reps_pair {T : Tab} {H : Hp} {F : Addr → Prop} {B : Int} : ∀ {ys : List V} {ts : List (Int × Int × Int)}, Reps T H F ys (ts.map trD) → (∀ t ∈ ts, TS.Bd B [t.1, t.2.1, t.2.2]) → ys.Pairwise (fun x y => ∀ n m, TupI T.K H x n → TupI T.K H y m → TS.code B n ≤ TS.code B m) → ts.Pairwise (fun a b => lexT a b = true)
  | [], [], _, _, _ => List.Pairwise.nil
  | y :: ys, t :: ts, .cons h r, hb, hp => by
    rw [List.pairwise_cons] at hp
    refine List.pairwise_cons.mpr ⟨fun u hu => ?_, reps_pair r (fun u hu => hb u (List.mem_cons_of_mem _ hu)) hp.2⟩
    obtain ⟨j, hj⟩ := List.mem_iff_getElem?.mp hu
    obtain ⟨v, hv, rv⟩ := r.get (i := j) (x := trD u) (by rw [List.getElem?_map, hj]; rfl)
    obtain ⟨a, e1, ha⟩ := h.trip
    obtain ⟨b, e2, hb'⟩ := rv.trip
    exact code_lex3 (hb t (List.mem_cons_self ..)) (hb u (List.mem_cons_of_mem _ hu)) (hp.1 v (List.mem_of_getElem? hv) _ _ ⟨a, e1, SqT.of ha⟩ ⟨b, e2, SqT.of hb'⟩)
theorem cal_sortT (hK : X.K = T.K) : CalOk T .fresh (fun vs H Q => ∃ B, rSortU X.K 3 B vs H Q) sortTD := by
  constructor
  · intro ds c fs; exact txD_nx .sort ds c fs
  · intro H F vs ds d Q tt hd e h
    unfold sortTD at e
    split at e
    · obtain ⟨v, rfl, t⟩ := tt.one
      obtain ⟨ts, e1, e⟩ := bind_ok_of e
      split at e
      · rename_i hg
        rw [Bool.and_eq_true, decide_eq_true_eq] at hg
        injection e with e; subst e
        obtain ⟨a, ws, rfl, h1, h2⟩ := t.lst
        cases trips_map (ofO_ok e1)
        have bd : ∀ t ∈ ts, TS.Bd (sumT ts) [t.1, t.2.1, t.2.2] := fun t ht => bd3 (sumT_bd hg.2 t ht)
        refine ⟨sumT ts, a, ws, rfl, SqL.of h1, by have := h2.length; rw [List.length_map] at this; omega, fun x hx => ?_, fun ys p hp hs hn => ?_⟩
        · obtain ⟨t, ht, rt⟩ := reps_mem trD h2 x hx
          obtain ⟨b, e2, hb⟩ := rt.trip
          exact ⟨_, ⟨b, e2, SqT.of hb⟩, rfl, bd t ht⟩
        · obtain ⟨ts', p', r'⟩ := reps_perm trD hp.symm h2
          rw [hK] at hs
          have so := reps_pair r' (fun t ht => bd t (p'.mem_iff.mpr ht)) hs
          have : ts' = sortT ts := sortT_unique (p'.symm.trans (sortT_perm ts).symm) so (sortT_sorted ts)
          subst this
          exact h F _ _ (Ext.laid hn) (.newL hd hn r')
      · cases e
    · cases e
end
/-! ### a dict that is walked stands locked -/
section
variable {T : Tab} {H H' : Hp} {S : Addr → Prop}
mutual
theorem Rep.swap (h1 : ∀ a o, S a → H a = some o → (∀ kvs, o ≠ .dT kvs) → (∀ od kvs, o ≠ .frz od (.dT kvs)) → H' a = some o) (h2 : ∀ a kvs, S a → Rd H a (.dT kvs) → Rd H' a (.dT kvs)) : ∀ {v : V} {d : D}, Rep T H S v d → Rep T H' S v d
  | _, _, .non => .non
  | _, _, .bl b => .bl b
  | _, _, .int i => .int i
  | _, _, .str x => .str x
  | _, _, .fn f => .fn f
  | _, _, .lst a b c => .lst a (h1 _ _ a b (fun _ z => nomatch z) (fun _ _ z => nomatch z)) (Reps.swap h1 h2 c)
  | _, _, .tup a b c => .tup a (h1 _ _ a b (fun _ z => nomatch z) (fun _ _ z => nomatch z)) (Reps.swap h1 h2 c)
  | _, _, .scr a b => .scr a (b.imp (fun z => h1 _ _ a z (fun _ z => nomatch z) (fun _ _ z => nomatch z)) fun ⟨o, e⟩ => ⟨o, h1 _ _ a e (fun _ z => nomatch z) (fun _ _ z => nomatch z)⟩)
  | _, _, .scrK h => .scrK h
  | _, _, .dK a b c => .dK a (h1 _ _ a b (fun _ z => nomatch z) (fun _ _ z => nomatch z)) (KReps.swap h1 h2 c)
  | _, _, .dT a b c => .dT a (h2 _ _ a b) (TReps.swap h1 h2 c)
  | _, _, .obj a b c => .obj a (h1 _ _ a b (fun _ z => nomatch z) (fun _ _ z => nomatch z)) (FReps.swap h1 h2 c)
  | _, _, .exv a b c => .exv a (h1 _ _ a b (fun _ z => by unfold excO at z; cases z) (fun _ _ z => by unfold excO at z; cases z)) (c.imp id fun ⟨dx, e, s, q⟩ => ⟨dx, e, s, h1 _ _ s q (fun _ z => by cases z) (fun _ _ z => by cases z)⟩)
theorem Reps.swap (h1 : ∀ a o, S a → H a = some o → (∀ kvs, o ≠ .dT kvs) → (∀ od kvs, o ≠ .frz od (.dT kvs)) → H' a = some o) (h2 : ∀ a kvs, S a → Rd H a (.dT kvs) → Rd H' a (.dT kvs)) : ∀ {v : List V} {d : List D}, Reps T H S v d → Reps T H' S v d
  | _, _, .nil => .nil
  | _, _, .cons h t => .cons (Rep.swap h1 h2 h) (Reps.swap h1 h2 t)
theorem KReps.swap (h1 : ∀ a o, S a → H a = some o → (∀ kvs, o ≠ .dT kvs) → (∀ od kvs, o ≠ .frz od (.dT kvs)) → H' a = some o) (h2 : ∀ a kvs, S a → Rd H a (.dT kvs) → Rd H' a (.dT kvs)) : ∀ {v : List (Key × V)} {d : List (Key × D)}, KReps T H S v d → KReps T H' S v d
  | _, _, .nil => .nil
  | _, _, .cons h t => .cons (Rep.swap h1 h2 h) (KReps.swap h1 h2 t)
theorem TReps.swap (h1 : ∀ a o, S a → H a = some o → (∀ kvs, o ≠ .dT kvs) → (∀ od kvs, o ≠ .frz od (.dT kvs)) → H' a = some o) (h2 : ∀ a kvs, S a → Rd H a (.dT kvs) → Rd H' a (.dT kvs)) : ∀ {v : List (List Key × V)} {d : List (List Key × D)}, TReps T H S v d → TReps T H' S v d
  | _, _, .nil => .nil
  | _, _, .cons h t => .cons (Rep.swap h1 h2 h) (TReps.swap h1 h2 t)
theorem FReps.swap (h1 : ∀ a o, S a → H a = some o → (∀ kvs, o ≠ .dT kvs) → (∀ od kvs, o ≠ .frz od (.dT kvs)) → H' a = some o) (h2 : ∀ a kvs, S a → Rd H a (.dT kvs) → Rd H' a (.dT kvs)) : ∀ {v : List (Str × V)} {d : List (Str × D)}, FReps T H S v d → FReps T H' S v d
  | _, _, .nil => .nil
  | _, _, .cons h t => .cons (Rep.swap h1 h2 h) (FReps.swap h1 h2 t)
end
end
/-- H and H' are the same but that the dict at d is locked in one of them -/
structure Lk (d : Addr) (H H' : Hp) : Prop where
  ne : ∀ a, a ≠ d → H' a = H a
  l : ∃ vs, Rd H d (.dT vs) ∧ Rd H' d (.dT vs)
section
variable {T : Tab} {Γ : List Mo} {H0 H H' H0' : Hp} {F0 F : Addr → Prop} {env : Ev} {σ : St} {m : Mo} {v : V} {x : D} {d : Addr}
theorem Rd.uniq {vs ws : List (List Key × V)} (h1 : Rd H d (.dT vs)) (h2 : Rd H d (.dT ws)) : vs = ws := by
  rcases h1 with h1 | ⟨o, h1⟩ <;> rcases h2 with h2 | ⟨o', h2⟩ <;> (rw [h1] at h2; cases h2 <;> rfl)
theorem Lk.h1 (k : Lk d H H') : ∀ a o, F a → H a = some o → (∀ kvs, o ≠ .dT kvs) → (∀ od kvs, o ≠ .frz od (.dT kvs)) → H' a = some o := fun a o _ e n1 n2 => by
  by_cases z : a = d
  · subst z
    obtain ⟨vs, g, _⟩ := k.l
    rcases g with g | ⟨od, g⟩
    · rw [g] at e; cases e; exact absurd rfl (n1 _)
    · rw [g] at e; cases e; exact absurd rfl (n2 _ _)
  · rw [k.ne a z]; exact e
theorem Lk.h2 (k : Lk d H H') : ∀ a kvs, F a → Rd H a (.dT kvs) → Rd H' a (.dT kvs) := fun a kvs _ e => by
  by_cases z : a = d
  · subst z
    obtain ⟨vs, g, g'⟩ := k.l
    cases Rd.uniq g e
    exact g'
  · exact e.imp (fun z' => by rw [k.ne a z]; exact z') fun ⟨o, z'⟩ => ⟨o, by rw [k.ne a z]; exact z'⟩
theorem At.swap {a : Addr} (k : Lk d H H') (hne : a ≠ d) (h : At T H F a x) : At T H' F a x := by
  cases h with
  | lst e r => exact .lst (by rw [k.ne a hne]; exact e) (r.swap k.h1 k.h2)
  | dK e r => exact .dK (by rw [k.ne a hne]; exact e) (r.swap k.h1 k.h2)
  | dT e r => exact .dT (by rw [k.ne a hne]; exact e) (r.swap k.h1 k.h2)
theorem Inns.swap (k : Lk d H H') (hF : F d) (h0 : ∀ a, H0 a = none → H0' a = none) {vs : List V} {ds : List D} (h : Inns T H0 F H vs ds) : Inns T H0' F H' vs ds := by
  induction h with
  | nil => exact .nil
  | cons g0 hf r hn _ ih => exact .cons (h0 _ g0) hf (r.swap k (fun z => hf (by rw [z]; exact hF))) hn ih
theorem SlotOk.swap (k : Lk d H H') (hF : F d) (h0 : ∀ a, H0 a = none → H0' a = none) (hs : ∀ a o, H0 a = some o → ∃ o, H0' a = some o) (h : SlotOk T H0 F H m v x) : SlotOk T H0' F H' m v x := by
  cases m with
  | frz => exact Rep.swap k.h1 k.h2 h
  | own =>
    unfold SlotOk at h ⊢
    simp only at h ⊢
    split at h
    · rename_i hc
      rw [if_pos hc]
      obtain ⟨a, e, g0, hf, h⟩ := h
      exact ⟨a, e, h0 _ g0, hf, h.swap k fun z => hf (by rw [z]; exact hF)⟩
    · rename_i hc
      rw [if_neg hc]
      exact Rep.swap k.h1 k.h2 h
  | brw =>
    rcases h with h | ⟨a, e, ⟨o, g0⟩, h⟩
    · exact .inl (Rep.swap k.h1 k.h2 h)
    · by_cases z : a = d
      · subst z
        subst e
        exact .inl (Rep.swap k.h1 k.h2 (h.rep hF))
      · exact .inr ⟨a, e, hs _ _ g0, h.swap k z⟩
  | lol =>
    obtain ⟨a, vs, ds, e1, e2, g0, hf, ha, hn, hi⟩ := h
    exact ⟨a, vs, ds, e1, e2, h0 _ g0, hf, by rw [k.ne a fun z => hf (by rw [z]; exact hF)]; exact ha, hn, hi.swap k hF h0⟩
theorem Owns.swap (k : Lk d H H') {i : Nat} {b : Addr} (h : Owns H' Γ env σ i b) : Owns H Γ env σ i b := by
  rcases h with h | ⟨h1, a, h2, h3, h4⟩
  · exact .inl h
  · refine .inr ⟨h1, a, h2, h3, h4.imp (fun z => z) fun ⟨vs, e, hm⟩ => ⟨vs, ?_, hm⟩⟩
    by_cases z : a = d
    · subst z
      obtain ⟨ws, _, g⟩ := k.l
      rcases g with g | ⟨o, g⟩ <;> (rw [g] at e; cases e)
    · rw [k.ne a z] at e; exact e
/-- the entry's heap, the dict locked as it is now -/
def lkH (H0 : Hp) (d : Addr) (o : HO) : Hp := fun a => if a = d then (match H0 d with | none => none | some _ => some o) else H0 a
theorem lkH_ne {o : HO} {a : Addr} (h : a ≠ d) : lkH H0 d o a = H0 a := if_neg h
theorem lkH_at {o : HO} : lkH H0 d o d = match H0 d with | none => none | some _ => some o := if_pos rfl
theorem lkH_none {o : HO} {a : Addr} : lkH H0 d o a = none ↔ H0 a = none := by
  by_cases z : a = d
  · subst z
    rw [lkH_at]
    cases H0 a with
    | none => exact ⟨fun _ => rfl, fun _ => rfl⟩
    | some w => exact ⟨fun z => (by cases z), fun z => (by cases z)⟩
  · rw [lkH_ne z]
theorem lkH_some {o w : HO} {a : Addr} (h : H0 a = some w) : ∃ w, lkH H0 d o a = some w := by
  cases e : lkH H0 d o a with
  | none => rw [lkH_none] at e; rw [e] at h; cases h
  | some w => exact ⟨w, rfl⟩
theorem SR.lock {vs : List (List Key × V)} {od : Obj} (s : SR T Γ H0 F0 F H env σ) (hd : H d = some (.dT vs)) (hF : F d) : SR T Γ (lkH H0 d (.frz od (.dT vs))) F0 F (upd H d (.frz od (.dT vs))) env σ := by
  have k : Lk d H (upd H d (.frz od (.dT vs))) := ⟨fun a h => upd_ne h, vs, .inl hd, .inr ⟨od, upd_same⟩⟩
  have nw : ∀ a, Nw H0 a → ∀ o, H a = some o → Nw (lkH H0 d (.frz od (.dT vs))) a ∧ ∃ o, upd H d (.frz od (.dT vs)) a = some o := fun a z o e => by
    refine ⟨?_, ?_⟩
    · rcases z with z | ⟨ws, z⟩
      · exact .inl (lkH_none.mpr z)
      · by_cases y : a = d
        · subst y
          rw [s.ext.keep _ _ z rfl] at hd; cases hd
        · exact .inr ⟨ws, by rw [lkH_ne y]; exact z⟩
    · by_cases y : a = d
      · subst y; exact ⟨_, upd_same⟩
      · exact ⟨o, by rw [upd_ne y]; exact e⟩
  refine ⟨s.len, fun i x e => ?_, fun i j a hi hj => s.sep i j a (hi.swap k) (hj.swap k), ⟨fun a o h n => ?_, fun a ps h => ?_, s.ext.sub, fun a h => (s.ext.new a h).imp (fun z => z) fun ⟨z, o, e⟩ => nw a z o e, fun _ => s.tabs.upd hd rfl (fun _ z => nomatch z)⟩, fun a h => ?_, s.tabs.upd hd rfl (fun _ z => nomatch z)⟩
  · obtain ⟨v, hv, ok⟩ := s.slot i x e
    exact ⟨v, hv, ok.swap k hF (fun a h => lkH_none.mpr h) fun a o h => lkH_some h⟩
  · by_cases z : a = d
    · subst z
      rw [lkH_at] at h
      cases e : H0 a with
      | none => rw [e] at h; cases h
      | some w => rw [e] at h; cases h; exact upd_same
    · rw [lkH_ne z] at h; rw [upd_ne z]; exact s.ext.keep a o h n
  · by_cases z : a = d
    · subst z
      rw [lkH_at] at h
      cases e : H0 a with
      | none => rw [e] at h; cases h
      | some w => rw [e] at h; cases h
    · rw [lkH_ne z] at h; rw [upd_ne z]; exact s.ext.tb a ps h
  · by_cases y : a = d
    · subst y; exact ⟨_, upd_same⟩
    · obtain ⟨o, e⟩ := s.dom a h
      exact ⟨o, by rw [upd_ne y]; exact e⟩
theorem SR.unlock {vs : List (List Key × V)} {od : Obj} (s : SR T Γ (lkH H0 d (.frz od (.dT vs))) F0 F H env σ) (hd : H d = some (.frz od (.dT vs))) (hF : F d) (h0 : ∀ o, H0 d = some o → o = .dT vs) : SR T Γ H0 F0 F (upd H d (.dT vs)) env σ := by
  have k : Lk d H (upd H d (.dT vs)) := ⟨fun a h => upd_ne h, vs, .inr ⟨od, hd⟩, .inl upd_same⟩
  have nw : ∀ a, Nw (lkH H0 d (.frz od (.dT vs))) a → ∀ o, H a = some o → Nw H0 a ∧ ∃ o, upd H d (.dT vs) a = some o := fun a z o e => by
    refine ⟨?_, ?_⟩
    · rcases z with z | ⟨ws, z⟩
      · exact .inl (lkH_none.mp z)
      · by_cases y : a = d
        · subst y
          rw [s.ext.keep _ _ z rfl] at hd; cases hd
        · exact .inr ⟨ws, by rw [lkH_ne y] at z; exact z⟩
    · by_cases y : a = d
      · subst y; exact ⟨_, upd_same⟩
      · exact ⟨o, by rw [upd_ne y]; exact e⟩
  refine ⟨s.len, fun i x e => ?_, fun i j a hi hj => s.sep i j a (hi.swap k) (hj.swap k), ⟨fun a o h n => ?_, fun a ps h => ?_, s.ext.sub, fun a h => (s.ext.new a h).imp (fun z => z) fun ⟨z, o, e⟩ => nw a z o e, fun _ => s.tabs.upd hd rfl (fun _ z => nomatch z)⟩, fun a h => ?_, s.tabs.upd hd rfl (fun _ z => nomatch z)⟩
  · obtain ⟨v, hv, ok⟩ := s.slot i x e
    exact ⟨v, hv, ok.swap k hF (fun a h => lkH_none.mp h) fun a o h => (by
      cases e : H0 a with
      | none => rw [lkH_none.mpr e] at h; cases h
      | some w => exact ⟨w, rfl⟩)⟩
  · by_cases z : a = d
    · subst z
      rw [h0 o h]; exact upd_same
    · rw [upd_ne z]
      exact s.ext.keep a o (by rw [lkH_ne z]; exact h) n
  · by_cases z : a = d
    · subst z
      cases h0 _ h
    · rw [upd_ne z]
      exact s.ext.tb a ps (by rw [lkH_ne z]; exact h)
  · by_cases y : a = d
    · subst y; exact ⟨_, upd_same⟩
    · obtain ⟨o, e⟩ := s.dom a h
      exact ⟨o, by rw [upd_ne y]; exact e⟩
end
section
variable {X : Cx} {T : Tab} {Γ Γ' Γe Γb : List Mo} {XE : XT} {q qa qb : Qu} {pos p p2 : Pos} {i j : Nat}
theorem setTD_nx (d1 d2 d3 : D) : ∀ c fs, setTD d1 d2 d3 ≠ .exc c fs := by
  intro c fs
  unfold setTD
  split
  · exact bind_nx (ofO_nx _) (fun _ c fs => by split <;> (intro z; cases z)) c fs
  · intro z; cases z
/-- x[k] = e, x a name that owns a dict with tuples as keys -/
theorem ds_setT {x : Str} {ke e : Expr} {fk fe : Ev → R D} (hu : X.A.units + 65 < cLine) (hm : Γ[i]? = some .own) (hN : X.N[i]? = some x) (hv : Vis X.env.scope x) (hd : (x == ("__debug__" : Str)) = false) (hcd : (x == ("__classdict__" : Str)) = false)
    (he : DE X T Γ XE q e fe) (hq : q ≠ .dirty) (hk : DE X T Γ XE qa ke fk) (hns : notSlice ke = true) (hs : swapsWithSole [.Subscript (.Name x p) ke p2] e pos.line X.env = pure false) (hw : swappedStores [.Subscript (.Name x p) ke p2] e X.env = pure none) :
    DS X T Γ Γ Γb XE qb (.Assign [.Subscript (.Name x p) ke p2] e pos) fun env => (fe env).bind fun x => (getV env i).bind fun o => (fk env).bind fun y => (setTD o y x).bind fun z => .ok (env.set i (some z), .nx) := by
  obtain ⟨te, pe, se⟩ := he
  obtain ⟨tk, pk, sk⟩ := hk
  refine ⟨_, ps_asg pe (pg_sub (pe_var hN hv hd hcd) pk (set_dict (by omega)) (assign_sub hns)) hs hw, fun H0 F0 σ H F env EE r h => ?_⟩
  refine se.stm r h fun d F1 H1 v _ x1 rv r1 h1 => ?_
  obtain ⟨F2, x2, _, rp⟩ := rv.rep x1 hq
  have r2 := r.ext' x2
  unfold getV at h1
  split at h1
  · rename_i o e1
    rw [R.bind_ok] at h1
    obtain ⟨w, hw, ok⟩ := r2.slot i o e1
    rw [List.getD_eq_getElem?_getD, hm] at ok
    refine ⟨w, hw, ?_⟩
    refine sk.stm r2 h1 fun dk F3 H3 vk _ x3 rk r3 h3 => ?_
    cases e2 : setTD o dk d with
    | exc c fs => exact absurd e2 (setTD_nx _ _ _ _ _)
    | bad => rw [e2] at h3; exact h3.elim
    | ok z =>
      rw [e2] at h3
      have h3 : ∀ F' H' σ', Fz F H F' H' → SR T Γ H0 F0 F' H' (env.set i (some z)) σ' → EE.nx σ' H' := h3
      have fz := x2.fz.trans x3.fz
      have ok3 := ok.ext x3
      unfold SlotOk at ok3
      simp only [Option.getD_some] at ok3
      have rp3 := rp.ext x3
      unfold setTD at e2
      split at e2
      · rename_i kvs ks _
        rw [if_pos (show (D.dT kvs).cell = true from rfl)] at ok3
        obtain ⟨a, rfl, h0, hf, hat⟩ := ok3
        obtain ⟨k, e4, e2⟩ := bind_ok_of e2
        split at e2
        · rename_i hl
          injection e2 with e2; subst e2
          obtain ⟨q, ws, rfl, hq, hvq, hrk⟩ := rk.top.tup
          cases keysOf_ok hrk (ofO_ok e4)
          cases hat with
          | dT ha hr =>
            have at2 : At T (upd H3 a (.dT (putK _ k v))) F3 a (.dT (putD k d kvs)) := .dT upd_same ((TReps.put rp3 hr).mono (fun _ h => h) (updF hf))
            obtain ⟨s4, f4⟩ := r3.mut hm e1 rfl hw h0 hf at2
            exact ⟨a, _, rfl, .t ha hvq (by rw [sizeLine_eq, hr.length]; exact hl), h3 F3 _ σ (fz.trans f4) s4⟩
        · cases e2
      · cases e2
  · exact h1.elim
theorem nxOnly_ok {z z' : Ev × Fl} (h : nxOnly z = .ok z') : z.2 = .nx ∧ z' = (z.1, .nx) := by
  unfold nxOnly at h
  split at h
  · rename_i e; injection h with h; exact ⟨e, h.symm⟩
  · cases h
theorem forL_nxOnly {t : Tg} {f : Ev → R (Ev × Fl)} : ∀ {ds : List D} {env : Ev} {z : Ev × Fl}, forL t (fun env => (f env).bind nxOnly) ds env = .ok z → z.2 = .nx
  | [], env, z, h => by injection h with h; subst h; rfl
  | d :: ds, env, z, h => by
    unfold forL at h
    obtain ⟨env1, e1, h⟩ := bind_ok_of h
    obtain ⟨r, e2, h⟩ := bind_ok_of h
    obtain ⟨y, e3, e4⟩ := bind_ok_of e2
    obtain ⟨_, rfl⟩ := nxOnly_ok e4
    exact forL_nxOnly h
theorem TReps.at_ {T : Tab} {H : Hp} {F : Addr → Prop} {k : List Key} {v : V} : ∀ {vs : List (List Key × V)} {ds : List (List Key × D)} {n : Nat}, TReps T H F vs ds → vs[n]? = some (k, v) → ∃ d, ds[n]? = some (k, d) ∧ Rep T H F v d
  | _, _, _, .nil, e => by simp at e
  | _, _, 0, .cons h _, e => by simp at e; obtain ⟨rfl, rfl⟩ := e; exact ⟨_, rfl, h⟩
  | _, _, n + 1, .cons _ t, e => by
    obtain ⟨d, h1, h2⟩ := TReps.at_ (n := n) t (by simpa using e)
    exact ⟨d, by simpa using h1, h2⟩
/-- for t in x.items(): body, x a dict that stands -/
theorem ds_forD {elts : List Expr} {kk : Nat} {tpos apos cpos : Pos} {x : Str} {t : Tg} {a : List Stmt} {fa : Ev → R (Ev × Fl)} (hp : PassesOwn (model X.prog X.w) X.A X.env X.xe) (hcm : X.calm = true) (hm : Γ[i]? = some .frz) (hN : X.N[i]? = some x) (hv : Vis X.env.scope x) (hd : (x == ("__debug__" : Str)) = false) (hcd : (x == ("__classdict__" : Str)) = false)
    (hl : (apos.endLine == cpos.line) = true) (hbs : attributeBase (.Name x p) "items" X.env (eval (.Name x p) X.env) = eval (.Name x p) X.env) (hg : DG X T Γ' (.Tuple elts kk tpos) t) (ha : DSs X T Γ' Γe Γ' XE q a fa) (hw : wkM Γ Γ' = true) (he : wkM Γe Γ' = true) :
    DS X T Γ Γ' Γb XE qb (.For (.Tuple elts kk tpos) (.Call (.Attribute (.Name x p) "items" apos) [] [] cpos) a [] pos) fun env => (getV env i).bind fun o => (ofO o.itemsT).bind fun ds => noExc2 (forL t (fun env => (fa env).bind nxOnly) ds env) := by
  obtain ⟨g, pg, sg⟩ := hg
  obtain ⟨ta, pa, sa⟩ := ha
  have pf := ps_for (pos := pos) hp hcm (pi_itemsT (kk := kk) (tpos := tpos) (elts := elts) (cpos := cpos) (apos := apos) (pe_var (pos := p) hN hv hd hcd) hbs hl) pg pa (fun _ => rfl)
  refine ⟨fun D σ H => _ ∨ _, ⟨fun pins s σ H D I h => h.elim (pf.run pins s σ H D I) ((ps_lock pf).run pins s σ H D I)⟩, fun H0 F0 σ H F env EE r h => ?_⟩
  unfold getV at h
  dsimp only at h
  split at h
  · rename_i o e1
    rw [R.bind_ok] at h
    obtain ⟨v, hv1, ok⟩ := r.slot i o e1
    rw [List.getD_eq_getElem?_getD, hm] at ok
    cases ok with
    | @dT d ws kvs hF hrd hr =>
      have h : wpR (noExc2 (forL t (fun env => (fa env).bind nxOnly) (kvs.map fun kv => Ev.D.tup [.tup (kv.1.map keyD), kv.2]) env)) (PostS T Γ' Γb qb H0 F0 F H EE) (GoS XE F0 H0) := h
      cases e2 : noExc2 (forL t (fun env => (fa env).bind nxOnly) (kvs.map fun kv => .tup [.tup (kv.1.map keyD), kv.2]) env) with
      | exc c fs => unfold noExc2 at e2; split at e2 <;> cases e2
      | bad => rw [e2] at h; exact h.elim
      | ok z =>
        rw [e2] at h
        have e3 : forL t (fun env => (fa env).bind nxOnly) (kvs.map fun kv => .tup [.tup (kv.1.map keyD), kv.2]) env = .ok z := by
          unfold noExc2 at e2; split at e2
          · injection e2 with e2; subst e2; assumption
          · cases e2
        have ez := forL_nxOnly e3
        obtain ⟨zenv, zf⟩ := z
        dsimp only at ez
        subst ez
        have h : ∀ F' H' σ', Fz F H F' H' → SR T Γ' H0 F0 F' H' zenv σ' → EE.nx σ' H' := h
        clear e2
        -- the walk, the dict locked
        have core : ∀ (H0 H : Hp) (EE : Ends) (od : Obj), SR T Γ H0 F0 F H env σ → H d = some (.frz od (.dT ws)) → TReps T H F ws kvs → (∀ F' H' σ', Fz F H F' H' → SR T Γ' H0 F0 F' H' zenv σ' → EE.nx σ' H') →
            ∃ W : Nat → Nat → L2.St → Hp → Prop, (∃ m, W 0 m σ H) ∧ ∀ i m σ H, W i m σ H → ((ItiT d od ws).stop i H ∧ EE.nx σ H) ∨ ((ItiT d od ws).go i H ∧ ∃ N : L2.St → Hp → Prop, (∀ σ' H', N σ' H' → ∃ m', m' < m ∧ W (i + 1) m' σ' H') ∧ ∀ x H', (ItiT d od ws).yld i H x H' → g x σ H' fun σ2 H2 => ta { EE with nx := N, ct := N, bk := EE.nx } σ2 H2) := by
          intro H0 H EE od r hd2 hr h
          obtain ⟨F2, h2, r2⟩ := r.weak hw
          have wk : Walk (ItiT d od ws) ws.length (fun H => H d = some (.frz od (.dT ws))) (fun i H x H' => ∃ t k v q, ws[i]? = some (k, v) ∧ x = .ref t ∧ H t = none ∧ H q = some (.tup (k.map kV)) ∧ H' = upd H t (.tup [.ref q, v])) :=
            ⟨fun _ _ hi q => ⟨q, hi⟩, fun _ q => ⟨q, Nat.le_refl _⟩, fun _ _ _ _ _ _ y => y⟩
          have len := hr.length
          refine for_it wk (fun n σ' H' => ∃ F' env', Fz F2 H F' H' ∧ SR T Γ' H0 F0 F' H' env' σ' ∧ forL t (fun env => (fa env).bind nxOnly) ((kvs.map fun kv => D.tup [.tup (kv.1.map keyD), kv.2]).drop n) env' = .ok (zenv, .nx)) ⟨F2, env, Fz.refl _ _, r2, by rw [List.drop_zero]; exact e3⟩ (fun n σ' H' _ ⟨F', env', fz, _, _⟩ => fz.2 d _ (h2 d hF) hd2 rfl) ?_ ?_
          · rintro n y σ3 H3 H4 hn ⟨F3, env3, fz3, r3, h3⟩ ⟨tt, k, v, q, ek, rfl, ht, hq, rfl⟩
            have hr3 : TReps T H3 F3 ws kvs := (hr.mono h2 fun _ _ _ z _ => z).mono fz3.1 fun a o => fz3.2 a o
            have hn2 : n < kvs.length := by omega
            have x4 : Ext F3 H3 (fun a => F3 a ∨ a = tt ∨ a = q) (upd H3 tt (.tup [.ref q, v])) := by
              have nt : ∀ a o, H3 a = some o → a ≠ tt := fun a o e z => by rw [z, ht] at e; cases e
              refine .all (fun a o e => by rw [upd_ne (nt a o e)]; exact e) (fun _ h => .inl h) fun a ha => ?_
              rcases ha with ha | rfl | rfl
              · exact .inl ha
              · exact .inr ⟨.inl ht, _, upd_same⟩
              · exact .inr ⟨.inr ⟨_, hq⟩, _, by rw [upd_ne (nt _ _ hq)]; exact hq⟩
            have r4 := r3.ext' x4
            obtain ⟨dv, ed, rv⟩ := hr3.at_ ek
            have edr : (kvs.map fun kv => D.tup [.tup (kv.1.map keyD), kv.2]).drop n = D.tup [.tup (k.map keyD), dv] :: (kvs.map fun kv => D.tup [.tup (kv.1.map keyD), kv.2]).drop (n + 1) := by
              have hn3 : n < (kvs.map fun kv => D.tup [.tup (kv.1.map keyD), kv.2]).length := by rw [List.length_map]; exact hn2
              rw [List.drop_eq_getElem_cons hn3, List.getElem_map]
              rw [List.getElem?_eq_getElem hn2] at ed
              rw [Option.some.inj ed]
            rw [edr] at h3
            unfold forL at h3
            obtain ⟨env4, eb, h3⟩ := bind_ok_of h3
            obtain ⟨y4, e4, h3⟩ := bind_ok_of h3
            obtain ⟨⟨env6, fl⟩, ef, e5⟩ := bind_ok_of e4
            obtain ⟨e6, rfl⟩ := nxOnly_ok e5
            dsimp only at e6 h3
            subst e6
            have rd : Rep T (upd H3 tt (.tup [.ref q, v])) (fun a => F3 a ∨ a = tt ∨ a = q) (.ref tt) (.tup [.tup (k.map keyD), dv]) :=
              .tup (.inr (.inl rfl)) upd_same (.cons (.tup (.inr (.inr rfl)) (x4.keep _ _ hq rfl) (Reps.keysT k)) (.cons (rv.ext x4) .nil))
            refine sg H0 F0 σ3 _ _ env3 _ _ env4 _ r4 rd eb fun σ5 r5 _ => ?_
            refine sa H0 F0 σ5 _ _ env4 _ r5 ?_
            rw [ef]
            intro F6 H6 σ6 fz6 r6
            obtain ⟨F7, h7, r7⟩ := r6.weak he
            exact ⟨F7, env6, ((fz3.trans x4.fz).trans fz6).trans ⟨h7, fun _ _ _ z _ => z⟩, r7, h3⟩
          · rintro σ3 H3 ⟨F3, env3, fz3, r3, h3⟩
            rw [List.drop_of_length_le (by rw [List.length_map]; omega)] at h3
            unfold forL at h3
            injection h3 with h3
            cases h3
            exact h F3 H3 σ3 (Fz.trans ⟨h2, fun _ _ _ z _ => z⟩ fz3) r3
        rcases hrd with hrd | ⟨od, hrd⟩
        · refine .inr ⟨d, .dT ws, hrd, trivial, fun od => ⟨.ref d, hv1, d, od, ws, rfl, upd_same, ?_⟩⟩
          have k : Lk d H (upd H d (.frz od (.dT ws))) := ⟨fun a h => upd_ne h, ws, .inl hrd, .inr ⟨od, upd_same⟩⟩
          refine core (lkH H0 d (.frz od (.dT ws))) (upd H d (.frz od (.dT ws))) _ od (r.lock hrd hF) upd_same (hr.swap k.h1 k.h2) fun F' H' σ' fz s => ?_
          have hd' : H' d = some (.frz od (.dT ws)) := fz.2 d _ hF upd_same rfl
          refine ⟨hd', h F' _ σ' ⟨fz.1, fun b o hb e n => ?_⟩ (s.unlock hd' (fz.1 d hF) fun o e => ?_)⟩
          · by_cases z : b = d
            · subst z; rw [hrd] at e; cases e; exact upd_same
            · rw [upd_ne z]; exact fz.2 b o hb (by rw [upd_ne z]; exact e) n
          · exact r.ext.back e hrd rfl
        · exact .inl ⟨.ref d, hv1, d, od, ws, rfl, hrd, core H0 H EE od r hrd hr h⟩
    | _ => exact h.elim
  · exact h.elim
end
end Ev

set_option maxHeartbeats 4000000
/-! Ev: a list of own lists made by a comprehension, lent to a making, looked at, emptied (k15) -/
namespace Ev
open PySem PySem.Spec PyProof.Rows L2
variable [Tbs]
section
variable {X : Cx} {T : Tab} {Γ Γ' Γb : List Mo} {XE : XT} {q qa qb : Qu} {pos : Pos} {own : List (Str × Nat)} {t : Tg} {fI : Ev → Ev.R (List D)} {fc fe : Ev → Ev.R D} {H0 H H' : Hp} {F0 F F' : Addr → Prop} {env : Ev} {σ : St}
theorem Inns.snoc {b : Addr} {d : D} (h0 : H0 b = none) (hf : ¬ F b) (hat : At T H F b d) {vs : List V} {ds : List D} (h : Inns T H0 F H vs ds) : V.ref b ∉ vs → Inns T H0 F H (vs ++ [.ref b]) (ds ++ [d]) := by
  induction h with
  | nil => intro _; exact .cons h0 hf hat List.not_mem_nil .nil
  | @cons c d' vs ds g0 gf r hn _ ih =>
    intro hb
    refine .cons g0 gf r (fun z => ?_) (ih fun z => hb (List.mem_cons_of_mem _ z))
    rcases List.mem_append.mp z with z | z
    · exact hn z
    · rw [List.mem_singleton] at z
      exact hb (by rw [z]; exact List.mem_cons_self)
/-- a comprehension whose elements are cells of their own -/
def SimLF (T : Tab) (Γ : List Mo) (t : TE) (f : Ev → R D) : Prop :=
  ∀ (H0 : Hp) (F0 : Addr → Prop) (σ : St) (H : Hp) (F : Addr → Prop) (env : Ev) (Q : VK), SR T Γ H0 F0 F H env σ →
    wpR (f env) (fun d => ∀ F' H' p vs ds, d = .lst ds → Ext F H F' H' → H p = none → ¬ F' p → H' p = some (.lst vs) → (ds.all D.cell = true → Inns T H F' H' vs ds ∧ V.ref p ∉ vs) → Q (.ref p) H') (fun _ _ => False) → t σ H Q
theorem simLcF {wi : TI} {g : TG} {tt : TT} {te : TE} {vs : List Nat} (si : SimI T Γ NoXE false wi fI) (sg : SimG T (setM Γ .frz vs) g t) (sc : SimT T (setM Γ .frz vs) NoXE tt fun env => (fc env).bind truthD) (se : SimE T (setM Γ .frz vs) NoXE .fresh te fe) (hv : ∀ i ∈ tgSlots t, i ∈ vs) :
    SimLF T Γ (tLc wi g tt te vs) fun env => (fI env).bind fun ds => noExc ((compL (fun d => bindT t d (wipeE env vs)) fc fe ds).bind fun xs => if xs.length ≤ 16777216 then .ok (.lst xs) else .bad) := by
  intro H0 F0 σ H F env Q r h
  refine si H0 F0 σ H F env _ r (wpR_mono (wpR_bind h) (fun ds hd F1 H1 J x1 it => ?_) fun _ _ z => z.elim)
  have r1 := r.ext' x1
  cases e : noExc ((compL (fun d => bindT t d (wipeE env vs)) fc fe ds).bind fun xs => if xs.length ≤ 16777216 then .ok (D.lst xs) else .bad) with
  | exc c fs => exact absurd e (noExc_nx _ _ _)
  | bad => rw [e] at hd; exact hd.elim
  | ok dl =>
    rw [e] at hd
    obtain ⟨xs, e1, e2⟩ := bind_ok_of (noExc_ok e)
    split at e2
    · rename_i hlen
      injection e2 with e2
      subst e2
      intro Dp hD
      obtain ⟨G, Y, w, hG, hY⟩ := it
      let Pv : Nat → Hp → Prop := fun i H' => ∃ F' acc dacc rest, Ext F1 H1 F' H' ∧ ¬ F' Dp ∧ H' Dp = some (.lst acc) ∧ acc.length = dacc.length ∧ (dacc.all D.cell = true → Inns T H1 F' H' acc dacc ∧ V.ref Dp ∉ acc) ∧ compL (fun d => bindT t d (wipeE env vs)) fc fe (ds.drop i) = .ok rest ∧ dacc ++ rest = xs
      have hnF : ¬ F1 Dp := fun z => by obtain ⟨o, eo⟩ := r1.dom _ z; rw [hD] at eo; cases eo
      refine lc_it w Pv ⟨F1, [], [], xs, Ext.laid hD, hnF, upd_same, rfl, fun _ => ⟨.nil, List.not_mem_nil⟩, by rw [List.drop_zero]; exact e1, rfl⟩ (fun i H' _ ⟨F', acc, dacc, rest, xx, _⟩ => hG H' ⟨fun a o _ h n => xx.keep a o h n, fun a o h n => xx.keep a o (r1.ext.keep a o h n) n, fun _ => xx.keep⟩) ?_ ?_
      · intro i x H' H'' hi ⟨F', acc, dacc, rest, xx, hnD, eD, hal, rp, ec, es⟩ y
        obtain ⟨F'', d, x2, ed, rd⟩ := hY i H' x H'' F' hi ⟨fun a o _ h n => xx.keep a o h n, fun a o h n => xx.keep a o (r1.ext.keep a o h n) n, fun _ => xx.keep⟩ xx.sub y
        have edr : ds.drop i = d :: ds.drop (i + 1) := by
          rw [List.drop_eq_getElem_cons hi]
          rw [List.getElem?_eq_getElem hi] at ed
          rw [Option.some.inj ed]
        rw [edr] at ec
        obtain ⟨env', k, eb, ek, alt⟩ := compL_cons ec
        have rw1 := ((r1.ext' xx).ext' x2).wipe .frz vs
        have hnD2 : ¬ F'' Dp := fun z => by
          rcases x2.new _ z with z | ⟨z, _⟩
          · exact hnD z
          · exact z.no eD (fun _ q => nomatch q)
        have eD2 := x2.keep _ _ eD rfl
        refine sg H0 F0 _ H'' F'' _ x d env' _ rw1 rd eb fun σ2 r2 hw => ?_
        refine ⟨?_, ?_⟩
        · rw [hw vs (by cases t <;> exact hv)]
          have : ∀ ws : List Nat, (∀ i ∈ ws, i ∈ vs) → L2.wipe (L2.wipe σ ws) vs = L2.wipe σ vs := by
            intro ws
            induction ws with
            | nil => intro _; rfl
            | cons w ws ih =>
              intro hw
              show L2.wipe ((L2.wipe σ ws).set w none) vs = _
              rw [wipe_set (hw w (by simp)), ih fun i hi => hw i (by simp [hi])]
          exact this vs fun _ h => h
        · refine sc H0 F0 σ2 H'' F'' env' _ r2 ?_
          show wpR ((fc env').bind truthD) _ _
          rw [ek]
          intro F3 H3 x3
          have r3 := r2.ext' x3
          have hnD3 : ¬ F3 Dp := fun z => by
            rcases x3.new _ z with z | ⟨z, _⟩
            · exact hnD2 z
            · exact z.no eD2 (fun _ q => nomatch q)
          have eD3 := x3.keep _ _ eD2 rfl
          have x23 := x2.trans x3
          rcases alt with ⟨rfl, xv, rr, ef, er, exs⟩ | ⟨rfl, er⟩
          · simp only [if_true]
            refine se H0 F0 σ2 H3 F3 env' _ r3 ?_
            rw [ef]
            intro F4 H4 v4 x4 rv4
            have hnD4 : ¬ F4 Dp := fun z => by
              rcases x4.new _ z with z | ⟨z, _⟩
              · exact hnD3 z
              · exact z.no eD3 (fun _ q => nomatch q)
            have eD4 := x4.keep _ _ eD3 rfl
            have x24 := x23.trans x4
            refine ⟨acc, eD4, ?_, F4, acc ++ [v4], dacc ++ [xv], rr, ?_, hnD4, upd_same, by rw [List.length_append, List.length_append, hal]; rfl, ?_, er, ?_⟩
            · rw [sizeLine_eq, hal]
              have : xs.length = dacc.length + rest.length := by rw [← es, List.length_append]
              rw [exs, List.length_cons] at this
              omega
            · have xx4 := xx.trans x24
              exact xx4.over hD hnD4 eD4 rfl (fun _ z => nomatch z)
            · intro hc
              rw [List.all_append, Bool.and_eq_true] at hc
              obtain ⟨hc1, hc2⟩ := hc
              obtain ⟨hin, hDn⟩ := rp hc1
              have hcx : xv.cell = true := by simpa using hc2
              unfold ResOk at rv4
              simp only at rv4
              rw [if_pos hcx] at rv4
              obtain ⟨b, rfl, hbn, hbf, hat⟩ := rv4
              have bD : b ≠ Dp := fun z => by rw [z, eD3] at hbn; cases hbn
              have bacc : V.ref b ∉ acc := fun z => by
                obtain ⟨_, _, o, ho⟩ := hin.stand b z
                rw [x23.non _ hbn] at ho; cases ho
              have keepF : ∀ a o, F4 a → H4 a = some o → isT o = false → upd H4 Dp (.lst (acc ++ [.ref b])) a = some o := fun a o ha ho _ => by
                rw [upd_ne (fun z => hnD4 (by rw [← z]; exact ha))]
                exact ho
              refine ⟨Inns.snoc ?_ hbf (hat.mono (fun _ h => h) keepF fun o ho _ => by rw [upd_ne bD]; exact ho) (hin.mono (fun a ha => x24.sub a ha) (fun a o ha ho n => keepF a o (x24.sub a ha) (x24.keep a o ho n) n) fun c hc => ⟨fun hf' => ?_, fun o ho n => ?_⟩) bacc, fun z => ?_⟩
              · exact xx.non _ (x23.non _ hbn)
              · obtain ⟨_, g1, o, ho⟩ := hin.stand c hc
                rcases x24.new c hf' with z | ⟨z, _⟩
                · exact g1 z
                · exact z.no ho (hin.notTup c hc _ ho)
              · rw [upd_ne fun z => hDn (by rw [← z]; exact hc)]
                exact x24.keep _ _ ho n
              · rcases List.mem_append.mp z with z | z
                · exact hDn z
                · rw [List.mem_singleton] at z
                  cases z; exact bD rfl
            · rw [← es, exs, List.append_assoc]; rfl
          · simp only [Bool.false_eq_true, if_false]
            refine ⟨F3, acc, dacc, rest, xx.trans x23, hnD3, eD3, hal, fun hc => ?_, er, es⟩
            obtain ⟨hin, hDn⟩ := rp hc
            refine ⟨hin.mono (fun a ha => x23.sub a ha) (fun a o ha ho => x23.keep a o ho) fun c hc => ⟨fun hf' => ?_, fun o ho => x23.keep _ _ ho⟩, hDn⟩
            obtain ⟨_, g1, o, ho⟩ := hin.stand c hc
            rcases x23.new c hf' with z | ⟨z, _⟩
            · exact g1 z
            · exact z.no ho (hin.notTup c hc _ ho)
      · intro H' ⟨F', acc, dacc, rest, xx, hnD, eD, hal, rp, ec, es⟩
        rw [List.drop_length] at ec
        unfold compL at ec
        injection ec with ec
        subst ec
        rw [List.append_nil] at es
        subst es
        have none1 : ∀ b, H1 b = none → H b = none := fun b hb => by
          cases z : H b with
          | none => rfl
          | some o => rw [x1.non _ hb] at z; cases z
        exact hd F' H' Dp acc dacc rfl (x1.trans xx) (none1 _ hD) hnD eD fun hc => ⟨(rp hc).1.weak0 none1, (rp hc).2⟩
    · cases e2
/-- name = [..], each element a cell of its own -/
theorem ds_asgC {i : Nat} {s : Stmt} {te : TE} {f : Ev → R D} (hp : PS X s (tAsg te (gName i))) (hl : i < Γ.length) (sf : SimLF T Γ te f) (hx : ∀ env c fs, f env ≠ .exc c fs) :
    DS X T Γ (Γ.set i .lol) Γb XE qb s fun env => (f env).bind fun x => (ofO x.ownL).bind fun ds => if ds.all D.cell then .ok (env.set i (some (.lst ds)), .nx) else .bad := by
  refine ⟨_, hp, fun H0 F0 σ H F env E r h => ?_⟩
  refine sf H0 F0 σ H F env _ r ?_
  dsimp only at h
  cases e : f env with
  | exc c fs => exact absurd e (hx _ _ _)
  | bad => rw [e] at h; exact h.elim
  | ok d =>
    rw [e, R.bind_ok] at h
    intro F1 H1 p vs ds ed x1 hpn hpf hp1 hin
    subst ed
    have h : wpR (if ds.all D.cell = true then R.ok (env.set i (some (.lst ds)), Fl.nx) else R.bad) (PostS T (Γ.set i .lol) Γb qb H0 F0 F H E) (GoS XE F0 H0) := h
    split at h
    · rename_i hc
      obtain ⟨hin, hpv⟩ := hin hc
      have h : ∀ F' H' σ', Fz F H F' H' → SR T (Γ.set i .lol) H0 F0 F' H' (env.set i (some (.lst ds))) σ' → E.nx σ' H' := h
      refine h F1 H1 _ x1.fz ?_
      have rd := (r.ext' x1).drop i .lol
      have e1 : (env.set i none).set i (some (.lst ds)) = env.set i (some (.lst ds)) := List.set_set ..
      have e2 : (σ.set i none).set i (some (.ref p)) = σ.set i (some (.ref p)) := List.set_set ..
      rw [← e1, ← e2]
      refine rd.setL (List.getElem?_set_self hl) (r.ext.none hpn) hpf hp1 hpv (hin.weak0 fun c hc => r.ext.none hc) fun j c hj hc ho => ?_
      obtain ⟨o, ho2⟩ := Owns.old r x1 (ho.same (List.getElem?_set_ne (Ne.symm hj)) (List.getElem?_set_ne (Ne.symm hj)) (List.getElem?_set_ne (Ne.symm hj)))
      rcases hc with rfl | hc
      · rw [hpn] at ho2; cases ho2
      · rw [(hin.stand c hc).1] at ho2; cases ho2
    · exact h.elim
/-- a test that may look at own lists -/
theorem ds_iffL {i : Nat} {c : Expr} {a b : List Stmt} {fa fb : Ev → R (Ev × Fl)} (hm : Γ[i]? = some .lol) (hc : DT X T (Γ.set i .frz) NoXE c fc) (hx : ∀ env c fs, fc env ≠ .exc c fs) (ha : DSs X T Γ Γ' Γb XE q a fa) (hb : DSs X T Γ Γ' Γb XE q b fb) :
    DS X T Γ Γ' Γb XE q (.If c a b pos) fun env => (fc env).bind fun x => (truthD x).bind fun k => match k with
    | true => fa env
    | false => fb env := by
  obtain ⟨tc, pc, sc⟩ := hc
  obtain ⟨ta, pa, sa⟩ := ha
  obtain ⟨tb, pb, sb⟩ := hb
  refine ⟨_, ps_if pc pa pb, fun H0 F0 σ H F env E r h => ?_⟩
  dsimp only at h
  rw [← R.bind_assoc] at h
  obtain ⟨F2, h2, r2⟩ := r.frzO i (.inr hm)
  refine sc H0 F0 σ H F2 env _ r2 ?_
  show wpR ((fc env).bind truthD) _ _
  cases e : (fc env).bind truthD with
  | exc c fs =>
    obtain ⟨x, e1⟩ : ∃ x, fc env = .ok x := by
      cases e1 : fc env with
      | ok x => exact ⟨x, rfl⟩
      | bad => rw [e1] at e; cases e
      | exc c fs => exact absurd e1 (hx _ _ _)
    rw [e1, R.bind_ok] at e
    exact absurd e (truthD_nx _ _ _)
  | bad => rw [e] at h; exact h.elim
  | ok k =>
    rw [e] at h
    intro F1 H1 x1
    have x : Ext F H F H1 := ⟨x1.keep, x1.tb, fun _ h => h, fun _ h => .inl h, x1.tabs⟩
    cases k with
    | true => exact sa H0 F0 σ H1 F env E (r.ext' x) (wpR_mono h (fun z hz => hz.from x.fz) fun _ _ z => z)
    | false => exact sb H0 F0 σ H1 F env E (r.ext' x) (wpR_mono h (fun z hz => hz.from x.fz) fun _ _ z => z)
/-- several cells are locked while an expression runs -/
def tLkN (t : TE) : Nat → TE
  | 0 => t
  | n + 1 => tLockE (tLkN t n)
theorem pe_lkN {e : Expr} {t : TE} (h : PE X e t) : ∀ n, PE X e (tLkN t n)
  | 0 => h
  | n + 1 => pe_lock (pe_lkN h n)
def tLkA (t : TE) : TE := fun σ H Q => ∃ n, tLkN t n σ H Q
theorem pe_lkA {e : Expr} {t : TE} (h : PE X e t) : PE X e (tLkA t) := ⟨fun pins s σ H Q I ⟨n, w⟩ => (pe_lkN h n).run pins s σ H Q I w⟩
/-- Hl is H, but that the lists at vs are locked -/
structure LkV (vs : List V) (H Hl : Hp) : Prop where
  ne : ∀ b, V.ref b ∉ vs → Hl b = H b
  l : ∀ b, V.ref b ∈ vs → ∃ u od, H b = some (.lst u) ∧ Hl b = some (.frz od (.lst u))
open Classical in
noncomputable def unl (vs : List V) (H H' : Hp) : Hp := fun b => if V.ref b ∈ vs then H b else H' b
theorem unl_in {vs : List V} {b : Addr} (h : V.ref b ∈ vs) : unl vs H H' b = H b := if_pos h
theorem unl_ne {vs : List V} {b : Addr} (h : V.ref b ∉ vs) : unl vs H H' b = H' b := if_neg h
theorem lkN_of {t : TE} : ∀ {vs : List V} {H : Hp} {Q : VK}, vs.Nodup → (∀ v ∈ vs, ∃ b u, v = V.ref b ∧ H b = some (.lst u)) →
    (∀ Hl Q', LkV vs H Hl → (∀ v H', (∀ b, V.ref b ∈ vs → H' b = Hl b) → Q v (unl vs H H') → Q' v H') → t σ Hl Q') → tLkN t vs.length σ H Q
  | [], H, Q, _, _, k => by
    refine k H Q ⟨fun _ _ => rfl, fun b hb => by cases hb⟩ fun v H' _ q => ?_
    have : unl [] H H' = H' := funext fun b => unl_ne List.not_mem_nil
    rw [this] at q; exact q
  | v0 :: vs, H, Q, hn, hv, k => by
    obtain ⟨a, u, rfl, ha⟩ := hv v0 List.mem_cons_self
    obtain ⟨hna, hn⟩ := List.nodup_cons.mp hn
    refine ⟨a, .lst u, ha, trivial, fun od => ?_⟩
    have ne : ∀ b, V.ref b ∈ vs → b ≠ a := fun b hb z => hna (by rw [← z]; exact hb)
    refine lkN_of hn (fun v hv' => ?_) fun Hl Q' lk hq => ?_
    · obtain ⟨b, w, rfl, hb⟩ := hv v (List.mem_cons_of_mem _ hv')
      exact ⟨b, w, rfl, by rw [upd_ne (ne b hv')]; exact hb⟩
    · have hla : Hl a = some (.frz od (.lst u)) := by rw [lk.ne a hna, upd_same]
      refine k Hl Q' ⟨fun b hb => ?_, fun b hb => ?_⟩ fun v H' h1 h2 => hq v H' (fun b hb => h1 b (List.mem_cons_of_mem _ hb)) ⟨?_, ?_⟩
      · rw [lk.ne b fun z => hb (List.mem_cons_of_mem _ z), upd_ne fun z => hb (by rw [z]; exact List.mem_cons_self)]
      · rcases List.mem_cons.mp hb with z | z
        · cases z; exact ⟨u, od, ha, hla⟩
        · obtain ⟨w, od', g1, g2⟩ := lk.l b z
          rw [upd_ne (ne b z)] at g1
          exact ⟨w, od', g1, g2⟩
      · show unl vs _ H' a = _
        rw [unl_ne hna, h1 a List.mem_cons_self, hla]
      · have : upd (unl vs (upd H a (.frz od (.lst u))) H') a (.lst u) = unl (.ref a :: vs) H H' := funext fun b => by
          by_cases e : b = a
          · rw [e, upd_same, unl_in List.mem_cons_self, ha]
          · rw [upd_ne e]
            by_cases m : V.ref b ∈ vs
            · rw [unl_in m, unl_in (List.mem_cons_of_mem _ m), upd_ne e]
            · rw [unl_ne m, unl_ne fun z => (List.mem_cons.mp z).elim (fun z => e (by cases z; rfl)) m]
        rw [this]; exact h2
/-- a list of own lists is lent: its rows to be read alone, it may be changed or locked in Hl -/
theorem SR.lend (s : SR T Γ H0 F0 F H env σ) {i : Nat} {a : Addr} {vs : List V} {ds rs : List D} {Hl : Hp} (hm : Γ[i]? = some .lol) (he : env[i]? = some (some (.lst ds))) (hσ : σ[i]? = some (some (.ref a))) (ha : H a = some (.lst vs))
    (h1 : ∀ b, V.ref b ∉ vs → Hl b = H b) (h2 : ∀ b, V.ref b ∈ vs → ∃ o, Hl b = some o) (hr : Reps T Hl (fun b => F b ∨ V.ref b ∈ vs) vs rs) : SR T (Γ.set i .own) H0 F0 (fun b => F b ∨ V.ref b ∈ vs) Hl (env.set i (some (.lst rs))) σ := by
  have hil : i < Γ.length := (List.getElem?_eq_some_iff.mp hm).1
  obtain ⟨w, hw, ok⟩ := s.slot i _ he
  rw [hσ] at hw; cases hw
  rw [List.getD_eq_getElem?_getD, hm] at ok
  obtain ⟨a', vs', ds', e1, e2, h0, hf, ha', hn, hi⟩ := ok
  cases e1; cases e2
  rw [ha] at ha'; cases ha'
  have kpF : ∀ b, F b → V.ref b ∉ vs := fun b hb z => (hi.stand b z).2.1 hb
  have own : ∀ b, V.ref b ∈ vs → Owns H Γ env σ i b := fun b hb => .inr ⟨hm, a, hσ, ⟨_, he⟩, .inr ⟨vs, ha, hb⟩⟩
  have owna : Owns H Γ env σ i a := .inr ⟨hm, a, hσ, ⟨_, he⟩, .inl rfl⟩
  have un : ∀ j b, Owns Hl (Γ.set i .own) (env.set i (some (.lst rs))) σ j b → Owns H Γ env σ j b := fun j b h => by
    by_cases hij : i = j
    · subst hij
      rcases h with ⟨_, g, _⟩ | ⟨g, _⟩
      · rw [hσ] at g; cases g; exact owna
      · rw [List.getElem?_set_self hil] at g; cases g
    · have h := h.same (List.getElem?_set_ne hij) rfl (List.getElem?_set_ne hij)
      refine Owns.back s (fun c g1 g2 o ho _ => ?_) h
      obtain ⟨dj, hdj⟩ := h.held
      rw [h1 c fun z => hij (s.sep i j c (own c z) (.inr ⟨g1, c, g2, ⟨dj, hdj⟩, .inl rfl⟩))]
      exact ho
  have tbs : TbsOk Hl := s.tabs.same fun b o e c => by
    rw [h1 b fun z => ?_]
    · exact e
    · obtain ⟨u, e1, e2, e3⟩ := inns_obj hi b z
      rw [e] at e1; cases e1
      rcases c with c | ⟨φ, c⟩
      · rw [e2] at c; cases c
      · exact e3 φ c
  refine ⟨by rw [List.length_set]; exact s.len, fun j dj ej => ?_, fun j k b hj hk => s.sep j k b (un j b hj) (un k b hk), ⟨fun b o e n => ?_, fun b ps e => ?_, fun b h => .inl (s.ext.sub b h), fun b h => ?_, fun _ => tbs⟩, fun b h => ?_, tbs⟩
  · rcases getElem?_set_cases ej with ⟨rfl, e, _⟩ | ⟨ne, e⟩
    · cases e
      refine ⟨_, hσ, ?_⟩
      rw [List.getD_eq_getElem?_getD, List.getElem?_set_self hil]
      unfold SlotOk
      simp only [Option.getD_some]
      rw [if_pos (show (D.lst rs).cell = true from rfl)]
      exact ⟨a, rfl, h0, fun z => z.elim hf hn, .lst (by rw [h1 a hn]; exact ha) hr⟩
    · obtain ⟨w, hw, ok⟩ := s.slot j dj e
      refine ⟨w, hw, ?_⟩
      rw [List.getD_eq_getElem?_getD, List.getElem?_set_ne ne, ← List.getD_eq_getElem?_getD]
      refine ok.grow (fun b h => .inl h) (fun b o hb ho _ => by rw [h1 b (kpF b hb)]; exact ho) (fun b u hu o ho _ => ?_) fun b ho => ?_
      · rw [h1 b fun z => by rw [(hi.stand b z).1] at hu; cases hu]; exact ho
      · have nb : V.ref b ∉ vs := fun z => ne (s.sep i j b (own b z) (ho.owns e hw rfl))
        exact ⟨fun z => z.elim (ok.owned ho).2.1 nb, fun o h _ => by rw [h1 b nb]; exact h⟩
  · rw [h1 b fun z => by rw [(hi.stand b z).1] at e; cases e]
    exact s.ext.keep b o e n
  · rw [h1 b fun z => by rw [(hi.stand b z).1] at e; cases e]
    exact s.ext.tb b ps e
  · rcases h with h | h
    · rcases s.ext.new b h with z | ⟨z, o, e⟩
      · exact .inl z
      · exact .inr ⟨z, o, by rw [h1 b (kpF b h)]; exact e⟩
    · exact .inr ⟨.inl (hi.stand b h).1, h2 b h⟩
  · rcases h with h | h
    · rw [h1 b (kpF b h)]; exact s.dom b h
    · exact h2 b h
mutual
/-- what holds no cell that may stand locked -/
theorem Rep.unl {T : Tab} {H H' : Hp} {S S' : Addr → Prop} (hs : ∀ a o, S a → H a = some o → (∀ od u, o ≠ .frz od u) → S' a ∧ H' a = some o) : ∀ {v : V} {d : D}, pureD d = true → Rep T H S v d → Rep T H' S' v d
  | _, _, _, .non => .non
  | _, _, _, .bl b => .bl b
  | _, _, _, .int i => .int i
  | _, _, _, .str x => .str x
  | _, _, _, .fn f => .fn f
  | _, _, p, .lst h1 h2 h3 => by
    obtain ⟨g1, g2⟩ := hs _ _ h1 h2 (fun _ _ z => nomatch z)
    exact .lst g1 g2 (Reps.unl hs (by unfold pureD at p; exact p) h3)
  | _, _, p, .tup h1 h2 h3 => by
    obtain ⟨g1, g2⟩ := hs _ _ h1 h2 (fun _ _ z => nomatch z)
    exact .tup g1 g2 (Reps.unl hs (by unfold pureD at p; exact p) h3)
  | _, _, p, .scr _ _ => by unfold pureD at p; cases p
  | _, _, p, .scrK _ => by unfold pureD at p; cases p
  | _, _, p, .dK _ _ _ => by unfold pureD at p; cases p
  | _, _, p, .dT _ _ _ => by unfold pureD at p; cases p
  | _, _, p, .obj h1 h2 h3 => by
    obtain ⟨g1, g2⟩ := hs _ _ h1 h2 (fun _ _ z => nomatch z)
    exact .obj g1 g2 (FReps.unl hs (by unfold pureD at p; exact p) h3)
  | _, _, p, .exv _ _ _ => by unfold pureD at p; cases p
theorem Reps.unl {T : Tab} {H H' : Hp} {S S' : Addr → Prop} (hs : ∀ a o, S a → H a = some o → (∀ od u, o ≠ .frz od u) → S' a ∧ H' a = some o) : ∀ {v : List V} {d : List D}, pureDs d = true → Reps T H S v d → Reps T H' S' v d
  | _, _, _, .nil => .nil
  | _, _, p, .cons h t => by
    unfold pureDs at p
    rw [Bool.and_eq_true] at p
    exact .cons (Rep.unl hs p.1 h) (Reps.unl hs p.2 t)
theorem FReps.unl {T : Tab} {H H' : Hp} {S S' : Addr → Prop} (hs : ∀ a o, S a → H a = some o → (∀ od u, o ≠ .frz od u) → S' a ∧ H' a = some o) : ∀ {v : List (Str × V)} {d : List (Str × D)}, pureF d = true → FReps T H S v d → FReps T H' S' v d
  | _, _, _, .nil => .nil
  | _, _, p, .cons h t => by
    unfold pureF at p
    rw [Bool.and_eq_true] at p
    exact .cons (Rep.unl hs p.1 h) (FReps.unl hs p.2 t)
end
theorem Inns.nodup {vs : List V} {ds : List D} (h : Inns T H0 F H vs ds) : vs.Nodup := by
  induction h with
  | nil => exact .nil
  | cons _ _ _ hn _ ih => exact List.nodup_cons.mpr ⟨hn, ih⟩
theorem Reps.intsB : ∀ {ns : List Int} {vs : List V}, Reps T H F vs (ns.map D.int) → vs = ns.map V.int
  | [], _, .nil => rfl
  | n :: ns, _, .cons h t => by
    cases h
    rw [Reps.intsB t]
    rfl
theorem scrL_cons {d : D} {ds rs : List D} (h : scrL (d :: ds) = .ok rs) : ∃ ns rs', d = .lst (ns.map D.int) ∧ scrL ds = .ok rs' ∧ rs = .scr ns :: rs' := by
  cases d with
  | lst xs =>
    unfold scrL at h
    obtain ⟨ns, e1, h⟩ := bind_ok_of h
    obtain ⟨rs', e2, h⟩ := bind_ok_of h
    injection h with h
    exact ⟨ns, rs', by rw [allI_ok e1], e2, h.symm⟩
  | _ => unfold scrL at h; cases h
theorem scrL_nx : ∀ ds c fs, scrL ds ≠ .exc c fs
  | [], _, _ => by intro z; cases z
  | d :: ds, c, fs => by
    cases d with
    | lst xs => unfold scrL; exact bind_nx (allI_nx xs) (fun ns => bind_nx (scrL_nx ds) fun r => ok_nx _) c fs
    | _ => unfold scrL; intro z; cases z
theorem Inns.scrs {Hl : Hp} {ws : List V} {vs : List V} {ds : List D} (h : Inns T H0 F H vs ds) : ∀ {rs : List D}, scrL ds = .ok rs → (∀ v ∈ vs, v ∈ ws) → LkV ws H Hl → Reps T Hl (fun b => F b ∨ V.ref b ∈ ws) vs rs := by
  induction h with
  | nil => intro rs e _ _; injection e with e; subst e; exact .nil
  | @cons b d vs ds h0 hf r hn _ ih =>
    intro rs e hw lk
    obtain ⟨ns, rs', rfl, e2, rfl⟩ := scrL_cons e
    refine .cons ?_ (ih e2 (fun v hv => hw v (List.mem_cons_of_mem _ hv)) lk)
    obtain ⟨u, od, g1, g2⟩ := lk.l b (hw _ List.mem_cons_self)
    cases r with
    | lst e r =>
      rw [g1] at e; cases e
      rw [Reps.intsB r] at g2
      exact .scr (.inr (hw _ List.mem_cons_self)) (.inr ⟨od, g2⟩)
theorem Inns.lists {vs : List V} {ds : List D} (h : Inns T H0 F H vs ds) (hd : ∀ d ∈ ds, D.isL d = true) : ∀ v ∈ vs, ∃ b u, v = V.ref b ∧ H b = some (.lst u) := by
  induction h with
  | nil => intro v hv; cases hv
  | @cons b d vs ds h0 hf r hn _ ih =>
    intro v hv
    rcases List.mem_cons.mp hv with z | z
    · cases r with
      | lst e r => exact ⟨b, _, z, e⟩
      | _ => cases hd _ List.mem_cons_self
    · exact ih (fun d hd' => hd d (List.mem_cons_of_mem _ hd')) v z
theorem scrL_isL : ∀ {ds rs : List D}, scrL ds = .ok rs → ∀ d ∈ ds, D.isL d = true
  | [], _, _, d, hd => by cases hd
  | d0 :: ds, rs, e, d, hd => by
    obtain ⟨ns, rs', rfl, e2, rfl⟩ := scrL_cons e
    rcases List.mem_cons.mp hd with z | z
    · rw [z]; rfl
    · exact scrL_isL e2 d z
/-- name = value, an own list of own lists of ints lent meanwhile: nothing of it may be kept -/
theorem ds_mkL {h i : Nat} {x : Str} {e : Expr} {p : Pos} {f : Ev → R D} (hm : Γ[i]? = some .lol) (hN : X.N.Nodup) (hi : X.N[h]? = some x) (hx : Loc X.env.scope x) (hs : swapsWith e (some (.Name x p)) pos.line X.env = pure false) (hf : X.fn x = true ∨ X.env.scope.names.lookup x = some .local)
    (hl : h < Γ.length) (he : DE X T (Γ.set i .own) NoXE q e f) (hq : q ≠ .dirty) (hxn : ∀ env c fs, f env ≠ .exc c fs) : DS X T Γ (Γ.set h .frz) Γb XE qb (.Assign [.Name x p] e pos) fun env => (getV env i).bind fun o => (ofO o.ownL).bind fun ds => (scrL ds).bind fun rs => (f (env.set i (some (.lst rs)))).bind fun x => if pureD x then .ok (env.set h (some x), .nx) else .bad := by
  obtain ⟨t, p', s⟩ := he
  refine ⟨_, ps_set hN hi hx (pe_lkA p') hs hf, fun H0 F0 σ H F env E r hw => ?_⟩
  unfold getV at hw
  dsimp only at hw
  split at hw
  · rename_i o e1
    rw [R.bind_ok] at hw
    obtain ⟨w, hσ, ok⟩ := r.slot i _ e1
    rw [List.getD_eq_getElem?_getD, hm] at ok
    obtain ⟨a, vs, ds, rfl, rfl, h0, hfa, ha, hn, hin⟩ := ok
    have hw : wpR ((scrL ds).bind fun rs => (f (env.set i (some (.lst rs)))).bind fun x => if pureD x = true then R.ok (env.set h (some x), Fl.nx) else R.bad) (PostS T (Γ.set h .frz) Γb qb H0 F0 F H E) (GoS XE F0 H0) := hw
    cases e2 : scrL ds with
    | exc c fs => exact absurd e2 (scrL_nx _ _ _)
    | bad => rw [e2] at hw; exact hw.elim
    | ok rs =>
      rw [e2, R.bind_ok] at hw
      refine ⟨vs.length, lkN_of hin.nodup (hin.lists (scrL_isL e2)) fun Hl Q' lk hQ => ?_⟩
      have rl := r.lend hm e1 hσ ha lk.ne (fun b hb => by obtain ⟨u, od, _, g⟩ := lk.l b hb; exact ⟨_, g⟩) (hin.scrs e2 (fun _ h => h) lk)
      refine s H0 F0 σ Hl _ _ Q' rl ?_
      cases e3 : f (env.set i (some (.lst rs))) with
      | exc c fs => exact absurd e3 (hxn _ _ _)
      | bad => rw [e3] at hw; exact hw.elim
      | ok d =>
        rw [e3, R.bind_ok] at hw
        split at hw
        · rename_i hp
          intro F1 H1 v x1 rv
          have h1 : ∀ b, V.ref b ∈ vs → H1 b = Hl b := fun b hb => by
            obtain ⟨u, od, _, g⟩ := lk.l b hb
            rw [x1.keep _ _ g rfl, g]
          refine hQ v H1 h1 ?_
          obtain ⟨F2, x2, _, rp⟩ := rv.rep x1 hq
          have hlF : ∀ b, F b → V.ref b ∉ vs := fun b hb z => (hin.stand b z).2.1 hb
          have x3 : Ext F H (fun b => F2 b ∧ V.ref b ∉ vs) (unl vs H H1) := by
            refine ⟨fun b o ho n => ?_, fun b ps ho => ?_, fun b hb => ⟨x2.sub b (.inl hb), hlF b hb⟩, fun b hb => ?_, fun _ => (x2.tabs rl.tabs).same fun b o ho c => ?_⟩
            · by_cases m : V.ref b ∈ vs
              · rw [unl_in m]; exact ho
              · rw [unl_ne m]; exact x2.keep b o (by rw [lk.ne b m]; exact ho) n
            · have m : V.ref b ∉ vs := fun m => by
                obtain ⟨u, od, g, _⟩ := lk.l b m
                rw [ho] at g; cases g
              rw [unl_ne m]; exact x2.tb b ps (by rw [lk.ne b m]; exact ho)
            · obtain ⟨hb, m⟩ := hb
              rcases x2.new b hb with z | ⟨z, o, ho⟩
              · exact .inl (z.resolve_right m)
              · refine .inr ⟨?_, o, by rw [unl_ne m]; exact ho⟩
                unfold Nw at z
                rw [lk.ne b m] at z
                exact z
            · rw [unl_ne fun m => ?_]
              · exact ho
              · obtain ⟨u, od, _, g⟩ := lk.l b m
                rw [h1 b m, g] at ho; cases ho
                rcases c with c | ⟨φ, c⟩
                · cases c
                · cases c
          have rp3 : Rep T (unl vs H H1) (fun b => F2 b ∧ V.ref b ∉ vs) v d := rp.unl (fun b o hb ho hnf => by
            have m : V.ref b ∉ vs := fun m => by
              obtain ⟨u, od, _, g⟩ := lk.l b m
              rw [h1 b m, g] at ho; cases ho
              exact hnf _ _ rfl
            exact ⟨⟨hb, m⟩, by rw [unl_ne m]; exact ho⟩) hp
          have hw : ∀ F' H' σ', Fz F H F' H' → SR T (Γ.set h .frz) H0 F0 F' H' (env.set h (some d)) σ' → E.nx σ' H' := hw
          exact hw _ _ _ x3.fz (SR.asg (q := .clean) hl (by decide) r (r.ext' x3) x3 rp3)
        · exact hw.elim
  · exact hw.elim
/-- the first n of them emptied -/
def mixC : List D → Nat → List D
  | ds, 0 => ds
  | [], _ + 1 => []
  | _ :: ds, n + 1 => .lst [] :: mixC ds n
theorem mixC_zero (ds : List D) : mixC ds 0 = ds := by cases ds <;> rfl
theorem mixC_succ : ∀ {ds : List D} {n : Nat}, n < ds.length → mixC ds (n + 1) = (mixC ds n).set n (.lst [])
  | [], _, h => by cases h
  | d :: ds, 0, _ => by
    rw [mixC_zero]
    show D.lst [] :: mixC ds 0 = _
    rw [mixC_zero]
    rfl
  | d :: ds, n + 1, h => by
    have ih := mixC_succ (ds := ds) (n := n) (by simpa using h)
    show D.lst [] :: mixC ds (n + 1) = _
    rw [ih]
    rfl
theorem mixC_end : ∀ {ds : List D}, mixC ds ds.length = ds.map fun _ => .lst []
  | [] => rfl
  | d :: ds => by
    show D.lst [] :: mixC ds ds.length = _
    rw [mixC_end]
    rfl
theorem mixC_at : ∀ {ds : List D} {n k : Nat}, n ≤ k → (mixC ds n)[k]? = ds[k]?
  | ds, 0, _, _ => by rw [mixC_zero]
  | [], _ + 1, _, _ => by unfold mixC; rfl
  | d :: ds, n + 1, k, h => by
    obtain ⟨k, rfl⟩ : ∃ m, k = m + 1 := ⟨k - 1, by omega⟩
    show (D.lst [] :: mixC ds n)[k + 1]? = _
    rw [List.getElem?_cons_succ, List.getElem?_cons_succ]
    exact mixC_at (by omega)
/-- a slot forgotten; the name may hold what it will -/
theorem SR.forget (s : SR T Γ H0 F0 F H env σ) (i : Nat) (m : Mo) : SR T (Γ.set i m) H0 F0 F H (env.set i none) σ where
  len := by rw [List.length_set]; exact s.len
  slot := fun j d e => by
    rcases getElem?_set_cases e with ⟨_, e, _⟩ | ⟨ne, e⟩
    · cases e
    · obtain ⟨v, hv, ok⟩ := s.slot j d e
      refine ⟨v, hv, ?_⟩
      rw [List.getD_eq_getElem?_getD, List.getElem?_set_ne ne, ← List.getD_eq_getElem?_getD]
      exact ok
  sep := fun j k a hj hk => by
    have un : ∀ j, Owns H (Γ.set i m) (env.set i none) σ j a → Owns H Γ env σ j a := by
      intro j h
      by_cases e : i = j
      · subst e
        obtain ⟨d, e⟩ := h.held
        rcases getElem?_set_cases e with ⟨_, e, _⟩ | ⟨ne, _⟩
        · cases e
        · exact absurd rfl ne
      · exact h.same (List.getElem?_set_ne e) rfl (List.getElem?_set_ne e)
    exact s.sep j k a (un j hj) (un k hk)
  ext := s.ext
  dom := s.dom
  tabs := s.tabs
theorem SR.any (s : SR T Γ H0 F0 F H env σ) {j : Nat} (x : Option V) (he : env[j]? = some none) : SR T Γ H0 F0 F H env (σ.set j x) where
  len := by rw [List.length_set]; exact s.len
  slot := fun k d e => by
    have ne : j ≠ k := by rintro rfl; rw [he] at e; cases e
    obtain ⟨v, hv, ok⟩ := s.slot k d e
    exact ⟨v, by rw [List.getElem?_set_ne ne]; exact hv, ok⟩
  sep := fun k l a h1 h2 => by
    have un : ∀ k, Owns H Γ env (σ.set j x) k a → Owns H Γ env σ k a := fun k h => by
      have ne : j ≠ k := by
        rintro rfl
        obtain ⟨d, e⟩ := h.held
        rw [he] at e; cases e
      exact h.same rfl (List.getElem?_set_ne ne) rfl
    exact s.sep k l a (un k h1) (un l h2)
  ext := s.ext
  dom := s.dom
  tabs := s.tabs
theorem Inns.reps {ws : List V} {vs : List V} {ds : List D} (h : Inns T H0 F H vs ds) : (∀ v ∈ vs, v ∈ ws) → Reps T H (fun b => F b ∨ V.ref b ∈ ws) vs ds := by
  induction h with
  | nil => intro _; exact .nil
  | cons h0 hf r hn _ ih =>
    intro hw
    exact .cons ((r.mono (fun b h => .inl h) (fun _ _ _ h _ => h) fun _ h _ => h).rep (.inr (hw _ List.mem_cons_self))) (ih fun v hv => hw v (List.mem_cons_of_mem _ hv))
/-- for y in x: y.clear(), x a list of own lists; behind it x's rows are its own no more -/
theorem ds_wipe {i j : Nat} {x y : Str} {p1 p2 p3 apos cpos epos : Pos} (hp : PassesOwn (model X.prog X.w) X.A X.env X.xe) (hcm : X.calm = true) (hK : X.K = T.K) (hij : j ≠ i) (hm : Γ[i]? = some .lol) (hN : X.N[i]? = some x) (hv : Vis X.env.scope x) (hd : (x == ("__debug__" : Str)) = false) (hcd : (x == ("__classdict__" : Str)) = false)
    (hNd : X.N.Nodup) (hj : X.N[j]? = some y) (hy : Loc X.env.scope y) (hf : X.fn y = true ∨ X.env.scope.names.lookup y = some .local) (hvy : Vis X.env.scope y) (hdy : (y == ("__debug__" : Str)) = false) (hcdy : (y == ("__classdict__" : Str)) = false) (hl : (apos.endLine == cpos.line) = true) :
    DS X T Γ ((Γ.set j .frz).set i .own) Γb XE qb (.For (.Name y p1) (.Name x p2) [.Expr (.Call (.Attribute (.Name y p3) "clear" apos) [] [] cpos) epos] [] pos) fun env => (getV env i).bind fun o => (ofO o.ownL).bind fun ds => if ds.all D.isL && decide (j < env.length) then .ok ((env.set j none).set i (some (.lst (ds.map fun _ => .lst []))), .nx) else .bad := by
  refine ⟨_, ps_for hp hcm (pi_list (pe_var hN hv hd hcd)) (pg_name hNd hj hy hf) (pss_one (ps_expr (pe_bm0 PySem.F.plainAttrs_list PySem.F.slot_list_clear PySem.F.type_list_clear mt_clear (pe_var hj hvy hdy hcdy) rfl hl) rfl)) (fun _ => rfl), fun H0 F0 σ H F env E r hw => ?_⟩
  unfold getV at hw
  dsimp only at hw
  split at hw
  · rename_i o e1
    rw [R.bind_ok] at hw
    obtain ⟨w, hσ, ok⟩ := r.slot i _ e1
    rw [List.getD_eq_getElem?_getD, hm] at ok
    obtain ⟨a, vs, ds, rfl, rfl, h0, hfa, ha, hn, hin⟩ := ok
    have hw : wpR (if (ds.all D.isL && decide (j < env.length)) = true then R.ok ((env.set j none).set i (some (.lst (ds.map fun _ => D.lst []))), Fl.nx) else R.bad) (PostS T ((Γ.set j .frz).set i .own) Γb qb H0 F0 F H E) (GoS XE F0 H0) := hw
    split at hw
    · rename_i hc
      rw [Bool.and_eq_true, decide_eq_true_eq, List.all_eq_true] at hc
      obtain ⟨hL, hjl⟩ := hc
      have hw : ∀ F' H' σ', Fz F H F' H' → SR T ((Γ.set j .frz).set i .own) H0 F0 F' H' ((env.set j none).set i (some (.lst (ds.map fun _ => D.lst [])))) σ' → E.nx σ' H' := hw
      have len := hin.length
      have hm2 : (Γ.set j .frz)[i]? = some .lol := by rw [List.getElem?_set_ne hij]; exact hm
      have hil : i < (env.set j none).length := by rw [List.length_set]; exact (List.getElem?_eq_some_iff.mp e1).1
      have ei : ∀ z : Option D, ((env.set j none).set i z)[i]? = some z := fun z => List.getElem?_set_self hil
      have ej : ∀ z : Option D, ((env.set j none).set i z)[j]? = some none := fun z => by
        rw [List.getElem?_set_ne (Ne.symm hij)]
        exact List.getElem?_set_self hjl
      have e0 : (env.set j none).set i (some (.lst ds)) = env.set j none := by
        refine List.ext_getElem? fun k => ?_
        by_cases hk : i = k
        · subst hk
          rw [ei, List.getElem?_set_ne hij, e1]
        · rw [List.getElem?_set_ne hk]
      refine ⟨.ref a, hσ, a, rfl, ⟨vs, SqL.of ha⟩, ?_⟩
      have w : Walk (Itl X.K a) vs.length (fun H => SqL X.K H a vs) (YAt vs) := walk_list
      refine for_it w (fun n σ' H' => Fz F H F H' ∧ SR T (Γ.set j .frz) H0 F0 F H' ((env.set j none).set i (some (.lst (mixC ds n)))) σ' ∧ σ'[i]? = some (some (.ref a)) ∧ H' a = some (.lst vs)) ⟨Fz.refl _ _, ?_, hσ, ha⟩ (fun n σ' H' _ z => SqL.of z.2.2.2) ?_ ?_
      · rw [mixC_zero, e0]
        exact r.forget j .frz
      · rintro n x3 σ3 H4 H3 hn3 ⟨fz3, r3, ha3, hv3⟩ ⟨rfl, y3⟩
        have hn4 : n < ds.length := by omega
        obtain ⟨w3, hw3, ok3⟩ := r3.slot i _ (ei _)
        rw [ha3] at hw3; cases hw3
        rw [List.getD_eq_getElem?_getD, hm2] at ok3
        obtain ⟨a', vs', ds', q1, q2, _, _, q3, q4, q5⟩ := ok3
        cases q1; cases q2
        rw [hv3] at q3; cases q3
        have ed : (mixC ds n)[n]? = some ds[n] := by rw [mixC_at (Nat.le_refl n)]; exact List.getElem?_eq_getElem hn4
        obtain ⟨b, hb, _, hbf, hat⟩ := q5.get ed
        rw [y3] at hb; cases hb
        have hLn := hL _ (List.getElem_mem hn4)
        obtain ⟨us, hbl⟩ : ∃ us, H3 b = some (.lst us) := by
          cases hz : ds[n] with
          | lst xs =>
            rw [hz] at hat
            cases hat with
            | lst e r => exact ⟨_, e⟩
          | _ => rw [hz] at hLn; cases hLn
        have hjs : j < σ3.length := by rw [← r3.len, List.length_set, List.length_set]; exact hjl
        refine ⟨.ref b, List.getElem?_set_self hjs, .inl ⟨rfl, ⟨_, SqL.of hbl⟩⟩, b, us, rfl, rfl, hbl, ?_⟩
        obtain ⟨s4, f4⟩ := (r3.any (some (V.ref b)) (ej _)).mutL hm2 (ei _) (by rw [List.getElem?_set_ne hij]; exact ha3) hv3 y3 (.lst upd_same .nil : At T (upd H3 b (.lst [])) F b (.lst []))
        rw [List.set_set, ← mixC_succ hn4] at s4
        have hab : a ≠ b := fun z => q4 (by rw [z]; exact List.mem_of_getElem? y3)
        exact ⟨fz3.trans f4, s4, by rw [List.getElem?_set_ne hij]; exact ha3, by rw [upd_ne hab]; exact hv3⟩
      · rintro σ3 H3 ⟨fz3, r3, ha3, hv3⟩
        rw [len, mixC_end] at r3
        obtain ⟨w3, hw3, ok3⟩ := r3.slot i _ (ei _)
        rw [ha3] at hw3; cases hw3
        rw [List.getD_eq_getElem?_getD, hm2] at ok3
        obtain ⟨a', vs', ds', q1, q2, _, _, q3, q4, q5⟩ := ok3
        cases q1; cases q2
        rw [hv3] at q3; cases q3
        have s5 := r3.lend hm2 (ei _) ha3 hv3 (fun _ _ => rfl) (fun b hb => (q5.stand b hb).2.2) (q5.reps fun _ h => h)
        rw [List.set_set] at s5
        exact hw _ H3 σ3 (fz3.trans ⟨fun b hb => .inl hb, fun _ _ _ h _ => h⟩) s5
    · exact hw.elim
  · exact hw.elim
end
end Ev

set_option maxHeartbeats 4000000
/-! Ev: sorted(range(n), key=lambda t: (-w[t], t)) -/
namespace Ev
open PySem PySem.Spec PyProof.Rows L2
section
variable {prog : Program} {w : World} {A : Around} {E : Value → Shared → Prop} {s : Shared}
/-- (-w[t], t) -/
theorem lam_body {env : Env} {wn tn : Str} {c l : Addr} {m : Str → Option Value} {its : List Value} {i z : Int} {ti tz : Tok} {p1 p2 p3 p4 p5 p6 : Pos} {k : Nat} (hk : env.scope.kind = .function) (ht : env.kindOf tn = some .local) (hw : env.kindOf wn = some .free) (hn : s.heap.Ns env.locals m) (hm : m tn = some (.int i ti))
    (hc : env.cells.lookup wn = some c) (hcell : s.heap.IsCell c (some (.ref l))) (hl : s.heap.IsList l its.toArray) (h0 : 0 ≤ i) (h63 : i < 2 ^ 63) (hi : its[i.toNat]? = some (.int z tz)) (d1 : (wn == ("__debug__" : Str)) = false) (d2 : (tn == ("__debug__" : Str)) = false) (d3 : (wn == ("__classdict__" : Str)) = false) :
    wpAny (model prog w) A (eval (.Tuple [.UnaryOp .USub (.Subscript (.Name wn p1) (.Name tn p2) p3) p4, .Name tn p5] k p6) env) (PySem.W.KeyPure (.tuple [.int (-z), .int i]) s) E s := by
  refine wpAny_Tuple_spliced ?_
  show wpAny _ _ (spliced ((false, eval (.UnaryOp .USub (.Subscript (.Name wn p1) (.Name tn p2) p3) p4) env) :: backTo p6 (starEach [.Name tn p5] env))) _ _ _
  refine Calls.spliced_cons (UnaryOp_ (Subscript_ (wpAny_Name (wpAny_loadName_free hk hw hc hcell ?_ d3) d1)))
  refine wpAny_Name (wpAny_loadName_local hk ht hn hm ?_) d2
  refine item_listR hl h0 h63 (by simpa using hi) ?_
  refine P.neg_int ?_
  show wpAny _ _ (spliced ((false, eval (.Name tn p5) env) :: backTo p6 (starEach [] env))) _ _ _
  refine Calls.spliced_cons (wpAny_Name (wpAny_loadName_local hk ht hn hm ?_) d2)
  refine Calls.spliced_nil ⟨by show 2 ≤ sizeLine; rw [sizeLine_eq]; omega, ?_⟩
  exact ⟨_, _, rfl, fun b o e => Heap.get?_push_of_some _ e, .tuple (Heap.get?_push_size _ rfl) rfl rfl (.cons (.int _ _) (.cons (.int _ _) .nil))⟩
/-- the lambda's own text -/
def lamPar (tn : Str) (p : Pos) : Arguments := { posonlyargs := [], args := [⟨tn, none, p⟩], vararg := none, kwonlyargs := [], kw_defaults := [], kwarg := none, defaults := [] }
theorem lam_call {q wn tn : Str} {f c' cw l : Addr} {scope : Scope} {cl : List (Str × Addr)} {pm ctv : Value} {its : List Value} {i z : Int} {ti tz : Tok} {pa p1 p2 p3 p4 p5 p6 : Pos} {k : Nat}
    (ho : s.heap.get? f = some (PySem.W.kla_obj "<lambda>" q (lamPar tn pa) (.Tuple [.UnaryOp .USub (.Subscript (.Name wn p1) (.Name tn p2) p3) p4, .Name tn p5] k p6) scope cl pm c' ctv)) (hcd : s.heap.CodeRec (.ref c') q) (hroom : A.depth < recursionLimit) (hlim : s.heap.NoLimit)
    (hk : scope.kind = .function) (hco : scope.isCoroutine = false) (hgen : scope.isGenerator = false) (hnc : ∀ x ∈ scope.names, x.2 ≠ .cell) (ht : scope.names.lookup tn = some .local) (hw : scope.names.lookup wn = some .free)
    (hc : cl.lookup wn = some cw) (hcell : s.heap.IsCell cw (some (.ref l))) (hl : s.heap.IsList l its.toArray) (h0 : 0 ≤ i) (h63 : i < 2 ^ 63) (hi : its[i.toNat]? = some (.int z tz)) (d1 : (wn == ("__debug__" : Str)) = false) (d2 : (tn == ("__debug__" : Str)) = false) (d3 : (wn == ("__classdict__" : Str)) = false)
    (hbind : ∀ u : Value, bindArgs (PySem.W.kla_fn "<lambda>" q (lamPar tn pa) (.Tuple [.UnaryOp .USub (.Subscript (.Name wn p1) (.Name tn p2) p3) p4, .Name tn p5] k p6) scope cl pm (.ref c') ctv) ⟨[u], []⟩ = pure [(tn, u)]) :
    wpAny (model prog w) A (call (.ref f) [.int i ti]) (PySem.W.KeyPure (.tuple [.int (-z), .int i]) s) (fun _ _ => False) s := by
  have rc : codeAny (model prog w) A (.call (.ref f) ⟨[.int i ti], []⟩) (fun r s' => match r with
    | .ok (.ret u) => PySem.W.KeyPure (.tuple [.int (-z), .int i]) s u s'
    | _ => False) s := by
    refine PySem.W.kla_callFunE hroom ho rfl hco hgen rfl hcd ?_
    refine wpAny_of_eq (hbind _) ?_
    refine wpAny_newFunctionEnv hnc (fun y hy => by rw [List.mem_singleton.mp hy]; exact ht) (fun h₁ hns hsb => ⟨hlim.fresh _ hsb, ?_⟩) hk
    have kp : ∀ b o, s.heap.get? b = some o → h₁.get? b = some o := fun b o e => hsb.extBut b o (Nat.ne_of_lt (Heap.lt_size e)) (Heap.get?_push_of_some _ e)
    refine PySem.W.kla_codeExpr (wpAny_mono (lam_body (E := fun _ _ => False) (c := cw) (l := l) (its := its) (z := z) (tz := tz) (ti := ti) hk ht hw hns (by simp) hc (hcell.keeps kp) (hl.imp fun o h => ⟨kp _ _ h.1, h.2⟩) h0 h63 hi d1 d2 d3) (fun v s' hq => ?_) fun _ _ hF => hF.elim)
    obtain ⟨h', tk, rfl, g, r⟩ := hq
    exact ⟨h', tk, rfl, fun b o e => g b o (kp b o e), r⟩
  refine wpAny_call (codeAny_mono rc fun r s' hq => ?_)
  cases r with
  | error e => exact hq
  | ok fl =>
    cases fl with
    | ret u => exact hq
    | next => exact hq
    | brk => exact hq
    | cont => exact hq
end
def keyOfK (ws : List Int) (a : Nat) : PyData := .tuple [.int (-(ws.getD a 0)), .int (a : Nat)]
theorem leK_eq (ws : List Int) (a b : Nat) : PySem.W.dataLe false (keyOfK ws) a b = leK ws a b := by
  have e : ∀ x : Nat, PySem.W.keyToks (keyOfK ws x) = [.inl 1, .inl (-(ws.getD x 0)), .inl 1, .inl (x : Nat), .inl 0] := fun x => by
    unfold keyOfK
    unfold PySem.W.keyToks PySem.W.keyToksAll PySem.W.keyToksAll PySem.W.keyToksAll PySem.W.keyToks
    rfl
  show (!PyProof.Rows.lexLt PyProof.Rows.itemOrd (PySem.W.keyToks (keyOfK ws b)) (PySem.W.keyToks (keyOfK ws a))) = _
  rw [e, e]
  unfold leK
  generalize ws.getD a 0 = u
  generalize ws.getD b 0 = v
  have bl : ∀ x y : Int, PyProof.Rows.itemLt (.inl x) (.inl y) = decide (x < y) := fun _ _ => rfl
  rw [PyProof.Rows.lex_cons, PyProof.Rows.lex_cons, PyProof.Rows.lex_cons, PyProof.Rows.lex_cons, PyProof.Rows.lex_cons]
  simp only [bl]
  have nn : PyProof.Rows.lexLt PyProof.Rows.itemOrd [] [] = false := rfl
  have d1 : decide (-v < -u) = decide (u < v) := decide_eq_decide.mpr ⟨fun h => by omega, fun h => by omega⟩
  have d2 : decide (-u < -v) = decide (v < u) := decide_eq_decide.mpr ⟨fun h => by omega, fun h => by omega⟩
  have d3 : decide ((b : Int) < (a : Int)) = decide (b < a) := decide_eq_decide.mpr ⟨fun h => by omega, fun h => by omega⟩
  have d4 : decide ((a : Int) < (b : Int)) = decide (a < b) := decide_eq_decide.mpr ⟨fun h => by omega, fun h => by omega⟩
  have i1 : decide ((1 : Int) < 1) = false := by decide
  have i0 : decide ((0 : Int) < 0) = false := by decide
  rw [nn, d1, d2, d3, d4, i1, i0]
  rcases Int.lt_trichotomy u v with c | c | c
  · rw [decide_eq_true c, decide_eq_false (show ¬ v < u by omega), decide_eq_false (show ¬ u = v by omega)]
    rfl
  · subst c
    rw [decide_eq_false (Int.lt_irrefl u), decide_eq_true rfl]
    rcases Nat.lt_trichotomy a b with e | e | e
    · rw [decide_eq_false (show ¬ b < a by omega), decide_eq_true e, decide_eq_true (show a ≤ b by omega)]; rfl
    · subst e
      rw [decide_eq_false (Nat.lt_irrefl a), decide_eq_true (Nat.le_refl a)]; rfl
    · rw [decide_eq_true e, decide_eq_false (show ¬ a < b by omega), decide_eq_false (show ¬ a ≤ b by omega)]; rfl
  · rw [decide_eq_false (show ¬ u < v by omega), decide_eq_true c, decide_eq_false (show ¬ u = v by omega)]
    rfl
theorem ints_each : ∀ {out : List Value} {ks : List Nat}, PySem.W.EachIs (fun v k => ∃ t, v = Value.int (k : Nat) t) out ks → IntsAre out (ks.map fun k : Nat => (k : Int))
  | _, _, .nil => .nil
  | _, _, .cons ⟨t, e⟩ h => by subst e; exact .cons _ t (ints_each h)
theorem each_of_items {P : Nat → Value → Prop} : ∀ (vs : List Value) (k : Nat), (∀ j v, vs[j]? = some v → P (k + j) v) → PySem.W.EachIs (fun v i => P i v) vs ((List.range' k vs.length))
  | [], _, _ => .nil
  | v :: vs, k, h => by
    show PySem.W.EachIs _ (v :: vs) (k :: List.range' (k + 1) vs.length)
    refine .cons (h 0 v rfl) (each_of_items vs (k + 1) fun j w e => ?_)
    have := h (j + 1) w (by simpa using e)
    rw [show k + 1 + j = k + (j + 1) by omega]
    exact this
section
variable {prog : Program} {w : World} {A : Around} {E : Value → Shared → Prop} {s : Shared}
theorem sortedK_any {r f : Addr} {n : Nat} {ws : List Int} {t u v : Tok} {Q : Value → Shared → Prop} (hh : A.handled = none) (hr : IsRange s.heap r 0 (n : Nat) 1 t u v) (hsm : Builtin.Range.small 0 (n : Nat) 1 = true) (hn : Builtin.Range.rangeSize 0 (n : Nat) 1 = n) (h64 : n ≤ 64) (hu : A.units + 8 < cLine)
    (turn : ∀ (i : Nat) (ti : Tok), i < n → ∀ (h : Heap) (tk : Nat), (∀ b o, s.heap.get? b = some o → h.get? b = some o) → wpAny (model prog w) A.in1.in1 (call (.ref f) [.int (i : Nat) ti]) (PySem.W.KeyPure (keyOfK ws i) { s with heap := h, toks := tk }) (fun _ _ => False) { s with heap := h, toks := tk })
    (hQ : ∀ h' tk p (out : List Value) (c : Nat), (∀ b o, s.heap.get? b = some o → h'.get? b = some o) → s.heap.get? p = none → h'.get? p = some (seqObj "list" out.toArray c) → IntsAre out ((keyL ws n).map fun k : Nat => (k : Int)) → Q (.ref p) { s with heap := h', toks := tk }) :
    wpAny (model prog w) A (call (.builtin "sorted") [.ref r] [(Str.ofString "key", .ref f)]) Q E s := by
  refine call_function_entry_kw kind_sorted plain_sorted entry_sorted (ksk_s1 _ _) ?_
  unfold Builtin.«sorted»
  refine wpAny_bind (m := checkCount "sorted" 1 1 _) (wpAny_pure ?_)
  refine wpAny_bind (collect_range (A := A.in1) hh hr hsm hn (by omega) fun h1 tk1 acc k1 hit => ?_)
  have la : acc.toList.length = n := by rw [Array.length_toList]; exact hit.1
  refine wpAny_bind (wpAny_newList ?_ (by rw [la, sizeLine_eq]; omega))
  have oL : (h1.push (seqObj "list" acc.toList.toArray 0)).get? h1.objs.size = some (seqObj "list" acc.toList.toArray 0) := Heap.get?_push_size _ rfl
  have ei : PySem.W.EachIs (fun v k => ∃ t, v = Value.int (k : Nat) t) acc.toList (List.range n) := by
    have h := each_of_items (P := fun i v => ∃ t, v = Value.int ((0 : Int) + (i : Nat) * 1) t) acc.toList 0 fun j v e => by
      rw [Nat.zero_add]
      exact hit.2 j v (by simpa using e)
    rw [la, ← List.range_eq_range'] at h
    refine h.mono fun v k ⟨t, e⟩ => ⟨t, ?_⟩
    rw [e, Int.mul_one, Int.zero_add]
  refine wpAny_bind (wpAny_holding (PySem.W.list_sort_key_data (s := { s with heap := h1.push (seqObj "list" acc.toList.toArray 0), toks := tk1 }) (b := false) (f := .ref f) (keyOfK ws) oL ei ?hal ?hk (by rw [List.length_range, sizeLine_eq]; omega) ?hu (ksk_l1 _ _) (ksk_t1 _ _) ?turn fun out c h' tk kb hD hlen he => ?_))
  case hal =>
    intro d hd d' hd'
    obtain ⟨a, _, rfl⟩ := List.mem_map.mp hd
    obtain ⟨b, _, rfl⟩ := List.mem_map.mp hd'
    rfl
  case hk =>
    refine .inl fun d hd => ?_
    obtain ⟨a, _, rfl⟩ := List.mem_map.mp hd
    exact ⟨_, _, rfl⟩
  case hu =>
    intro x hx
    have : (keyOfK ws x).depth ≤ 2 := by
      unfold keyOfK
      unfold PyData.depth PyData.depthAll PyData.depthAll PyData.depthAll PyData.depth
      simp
    have e1 : A.in1.units = A.units + 1 := rfl
    omega
  case turn =>
    rintro v x ⟨ti, rfl⟩ hx h tk kb
    refine turn x ti (List.mem_range.mp hx) h tk fun b o e => ?_
    have q := k1 b o e
    exact kb b o (Nat.ne_of_lt (Heap.lt_size q)) (Heap.get?_push_of_some _ q)
  have em : PySem.W.EachIs (fun v k => ∃ t, v = Value.int (k : Nat) t) out (keyL ws n) := by
    unfold keyL
    have : PySem.W.dataLe false (keyOfK ws) = leK ws := funext fun a => funext fun b => leK_eq ws a b
    rw [← this]
    exact he
  refine wpAny_pure ⟨_, rfl, hQ h' tk _ out c (fun b o e => ?_) ?_ hD (ints_each em)⟩
  · have q := k1 b o e
    exact kb b o (Nat.ne_of_lt (Heap.lt_size q)) (Heap.get?_push_of_some _ q)
  · cases e : s.heap.get? h1.objs.size with
    | none => rfl
    | some o => exact absurd (Heap.lt_size (k1 _ _ e)) (Nat.lt_irrefl _)
end
/-! ### the lambda is made -/
theorem cr_range1 {X : Cx} : CallR X (.type "range") (fun vs H Q => ∃ n : Int, vs = [V.int n] ∧ ∀ p, H p = none → Q (.ref p) (upd H p (.rng 0 n))) := by
  intro pins s σ H vs us Q I r h
  obtain ⟨n, rfl, q⟩ := h
  obtain ⟨u1, rfl, ri⟩ := vals1 r
  obtain ⟨t, rfl⟩ := ri
  refine call_range_1 ⟨.ref s.heap.objs.size, upd H s.heap.objs.size (.rng 0 n), I.laid (t' := s.toks + 2) (fun b o e => Heap.get?_push_of_some _ e) (Nat.le_refl _) ?_, rfl, q _ (I.hok.fresh (Nat.le_refl _))⟩
  exact ⟨_, _, _, Heap.get?_push_size _ rfl⟩
variable [Tbs]
section
variable {X : Cx} {pins : List (Addr × Obj)} {σ : L2.St} {H : Hp} {s : Shared}
/-- as lam_make2, but told that each table stays a table -/
theorem lam_make3 {c P : Addr} {params : Arguments} {body : Expr} {scope : Scope} {pos : Pos} {E : Value → Shared → Prop} {Q : Value → Shared → Prop} (I : Inv X pins σ H s) (TB : LamX.TabB X.base X.mg c P) (hcode : X.env.code = .ref c)
    (hm : (P, X.env.qual ++ "<lambda>") ∈ Tbs.l) (hu : ∀ p ∈ Tbs.l, p.1 = P → p.2 = X.env.qual ++ "<lambda>") (hT : TbsOk H) (hdef : defaultsOf params X.env = ([], [])) (hfree : ∀ y ∈ scope.names, y.2 = .free → ∃ c, X.env.cells.lookup y.1 = some c)
    (h : ∀ (f c' : Addr) (pm ctv : Value) (H1 : Hp) (s' : Shared), Inv X pins σ H1 s' → LamX.ExtN H H1 → (∀ b ps, H b = some (.tbl ps) → ∃ ps', H1 b = some (.tbl ps')) → TbsOk H1 →
      s'.heap.get? f = some (PySem.W.kla_obj "<lambda>" (X.env.qual ++ "<lambda>") params body scope (cloFrom X.env.cells scope.names []) pm c' ctv) → H1 c' = some (LamX.CodeO c' (X.env.qual ++ "<lambda>")) → Q (.ref f) s') :
    wpAny (model X.prog X.w) X.A (eval (.Lambda params body scope pos) X.env) Q E s := by
  obtain ⟨ps, hP, ht, ha⟩ := hT _ hm
  refine PySem.W.kla_eval hdef ?_
  have bP : s.heap.BuiltinsAt X.mg P := TB.bm.keeps I.bk
  have hP' : s.heap.get? P = some { cls := .none, data := .fields ps } := I.hok P _ hP
  cases hc : codeAmong pos ps.toList with
  | none =>
    refine PySem.W.kla_makeFunction (mg := X.mg) (c := c) (P := P) (ps := ps) (closure_ok hfree) I.ok.glob (I.mod.glob.keeps I.bk) hcode (TB.code.keeps I.bk) hP' ht hc TB.gP bP fun c' ctv h' tk hx hge hlt hrec htb => ?_
    obtain ⟨c2, oc, vs, t, e2, hoc, hd, hv⟩ := hrec
    cases e2
    have nC : H c' = none := I.hok.fresh hge
    have nPc : P ≠ c' := ne_of_none hP nC
    have I1 := LamX.inv_table (t' := tk) (more := #[rawInt pos.line, rawInt pos.col, .ref c']) (h' := h'.push (PySem.W.kla_obj "<lambda>" (X.env.qual ++ "<lambda>") params body scope (cloFrom X.env.cells scope.names []) ((X.mg "__name__").getD .none) c' ctv)) I hP
      (fun b o hb e => Heap.get?_push_of_some _ (hx b o hb e)) (Heap.get?_push_of_some _ htb) hge ⟨oc, vs, t, Heap.get?_push_of_some _ hoc, hd, hv⟩
    have at_ : ∀ b, b ≠ P → b ≠ c' → upd (upd H P (.tbl (ps ++ #[rawInt pos.line, rawInt pos.col, .ref c']))) c' (LamX.CodeO c' (X.env.qual ++ "<lambda>")) b = H b := fun b h1 h2 => by rw [upd_ne h2, upd_ne h1]
    have hE : LamX.ExtN H (upd (upd H P (.tbl (ps ++ #[rawInt pos.line, rawInt pos.col, .ref c']))) c' (LamX.CodeO c' (X.env.qual ++ "<lambda>"))) := fun b o e n => by
      rw [at_ b (fun z => n ps (Option.some.inj (e.symm.trans (by rw [z]; exact hP)))) (ne_of_none e nC)]
      exact e
    have eL : (ps ++ #[rawInt pos.line, rawInt pos.col, .ref c']).toList = ps.toList ++ [rawInt pos.line, rawInt pos.col, .ref c'] := by simp
    refine h h'.objs.size c' ((X.mg "__name__").getD .none) ctv _ _ I1 hE (fun b qs e => ?_) (fun p hp => ?_) (Heap.get?_push_size _ rfl) upd_same
    · by_cases hb : b = P
      · rw [hb, upd_ne nPc, upd_same]; exact ⟨_, rfl⟩
      · rw [at_ b hb (ne_of_none e nC)]; exact ⟨_, e⟩
    · by_cases hb : p.1 = P
      · rw [hu p hp hb, hb]
        refine ⟨_, by rw [upd_ne nPc, upd_same], by rw [eL]; exact PySem.TriplesOk_snoc _ _ _ _ ht, fun p' cv hcv => ?_⟩
        rw [eL] at hcv
        rcases LamX.among_app _ ht hcv with z | z
        · obtain ⟨c0, e1, e2⟩ := ha p' cv z
          exact ⟨c0, e1, hE _ _ e2 LamX.codeO_ne⟩
        · exact ⟨c', z, upd_same⟩
      · obtain ⟨ps', a1, a2, a3⟩ := hT p hp
        refine ⟨ps', by rw [at_ _ hb (ne_of_none a1 nC)]; exact a1, a2, fun p' cv hcv => ?_⟩
        obtain ⟨c0, e1, e2⟩ := a3 p' cv hcv
        exact ⟨c0, e1, hE _ _ e2 LamX.codeO_ne⟩
  | some cv =>
    obtain ⟨c', e, hco⟩ := ha pos cv hc
    subst e
    refine PySem.W.kla_makeFunctionHit (mg := X.mg) (c := c) (P := P) (ps := ps) (closure_ok hfree) I.ok.glob (I.mod.glob.keeps I.bk) hcode (TB.code.keeps I.bk) hP' ht hc bP fun ctv h' tk hx hsz => ?_
    have I1 : Inv X pins σ H { s with heap := h'.push (PySem.W.kla_obj "<lambda>" (X.env.qual ++ "<lambda>") params body scope (cloFrom X.env.cells scope.names []) ((X.mg "__name__").getD .none) c' ctv), toks := tk } := I.kept fun b o e => Heap.get?_push_of_some _ (hx b o e)
    exact h h'.objs.size c' ((X.mg "__name__").getD .none) ctv H _ I1 (LamX.ExtN.refl H) (fun b qs e => ⟨qs, e⟩) hT (Heap.get?_push_size _ rfl) hco
end
def rRng : List V → Hp → VK → Prop := fun vs H Q => ∃ n : Int, vs = [V.int n] ∧ ∀ p, H p = none → Q (.ref p) (upd H p (.rng 0 n))
/-- sorted(range(..), key=lambda t: (-w[t], t)), slot i is w's -/
def tKey (K : PySem.W.Frag) (i : Nat) (ta : TE) : TE := fun σ H Q => tCons (tCB rRng (tCons ta tNil)) tNil σ H fun vs H2 => ∃ (r : Addr) (n : Nat) (l : Addr) (ws : List Int), vs = [V.ref r] ∧ H2 r = some (.rng 0 (n : Nat)) ∧ n ≤ 64 ∧ σ[i]? = some (some (.ref l)) ∧ SqL K H2 l (ws.map V.int) ∧ n ≤ ws.length ∧ TbsOk H2 ∧
  ∀ H3, LamX.ExtN H2 H3 → (∀ b ps, H2 b = some (.tbl ps) → ∃ ps', H3 b = some (.tbl ps')) → TbsOk H3 → ∀ p, H3 p = none → Q (.ref p) (upd H3 p (.lst ((keyL ws n).map fun k : Nat => V.int (k : Nat))))
/-- what is asked of the place and of the lambda's names -/
def LamG (base : Heap) (mg : Str → Option Value) (code : Value) (q : Str) : Prop := ∃ c P, LamX.TabB base mg c P ∧ code = .ref c ∧ (P, q ++ "<lambda>") ∈ Tbs.l ∧ ∀ p ∈ Tbs.l, p.1 = P → p.2 = q ++ "<lambda>"
structure KeyX (X : Cx) (i : Nat) (wn tn : Str) (scope : Scope) : Prop where
  tab : LamG X.base X.mg X.env.code X.env.qual
  hN : X.N[i]? = some wn
  vis : Vis X.env.scope wn
  cell : X.env.scope.names.lookup wn = some .cell
  kind : scope.kind = .function
  co : scope.isCoroutine = false
  gen : scope.isGenerator = false
  nc : ∀ x ∈ scope.names, x.2 ≠ .cell
  loc : scope.names.lookup tn = some .local
  free : scope.names.lookup wn = some .free
  one : ∀ y ∈ scope.names, y.2 = .free → y.1 = wn
  d1 : (wn == ("__debug__" : Str)) = false
  d2 : (tn == ("__debug__" : Str)) = false
  d3 : (wn == ("__classdict__" : Str)) = false
  bind : ∀ (q : Str) (pa : Pos) (body : Expr) (cl : List (Str × Addr)) (pm cv ctv u : Value), bindArgs (PySem.W.kla_fn "<lambda>" q (lamPar tn pa) body scope cl pm cv ctv) ⟨[u], []⟩ = pure [(tn, u)]
theorem pe_keyed {X : Cx} {i : Nat} {wn tn : Str} {scope : Scope} {ne : Expr} {ta : TE} {q1 q2 q3 kp lp pa p1 p2 p3 p4 p5 p6 pos : Pos} {k : Nat} (hc : X.calm = true) (kx : KeyX X i wn tn scope) (hr : X.A.depth < recursionLimit) (hu : X.A.units + 8 < cLine) (hg : Gl X "sorted") (hm : X.mg "sorted" = none) (hg2 : Gl X "range") (hm2 : X.mg "range" = none) (ha : PE X ne ta)
    (na : starEach [ne] X.env = (false, eval ne X.env) :: starEach [] X.env := by rfl) :
    PE X (.Call (.Name "sorted" q1) [.Call (.Name "range" q2) [ne] [] q3] [⟨some "key", .Lambda (lamPar tn pa) (.Tuple [.UnaryOp .USub (.Subscript (.Name wn p1) (.Name tn p2) p3) p4, .Name tn p5] k p6) scope lp, kp⟩] pos) (tKey X.K i ta) := by
  refine ⟨fun pins s σ H Q I h => ?_⟩
  obtain ⟨c, P, TB, hcode, htm, htu⟩ := kx.tab
  have ok := I.ok
  obtain ⟨cw, hcw⟩ := ok.has wn (.inl kx.cell)
  have hfree : ∀ y ∈ scope.names, y.2 = .free → ∃ c, X.env.cells.lookup y.1 = some c := fun y hy e => ⟨cw, by rw [kx.one y hy e]; exact hcw⟩
  have clo : (cloFrom X.env.cells scope.names []).lookup wn = some cw := by
    obtain ⟨c2, hc2⟩ := mem_lookup (cloFrom_has (cells := X.env.cells) (acc := []) (PySem.mem_of_lookup kx.free))
    rw [hc2]
    rcases cloFrom_mem (PySem.mem_of_lookup hc2) with hm | ⟨h1, h2⟩
    · cases hm
    · rw [h2, hcw] <;> rfl
  refine wpAny_Call_Name_kw (ld_blt I hg hm boot_sorted ?_)
  have pr : PE X (.Call (.Name "range" q2) [ne] [] q3) (tCB rRng (tCons ta tNil)) := pe_callTy cr_range1 hg2 hm2 boot_range (pa_cons ha pa_nil na) (by decide) (by decide) na (by rfl)
  have pargs : PA X [.Call (.Name "range" q2) [ne] [] q3] (tCons (tCB rRng (tCons ta tNil)) tNil) := pa_cons pr pa_nil (by rfl)
  refine PyProof.Rows.callWith_kw (thn (pargs.run pos pins s σ H _ I h) fun us s1 ⟨vs, H1, I1, r1, q1⟩ => ?_) (by rfl) (by rfl) (by rfl) (by rfl)
  obtain ⟨r, n, l, ws, rfl, hr1, hn, hσ, hS, hnw, tbs, q1⟩ := q1
  obtain rfl := Vals.ref1 r1
  show wpAny _ _ (evalAll ((do let v ← eval (.Lambda (lamPar tn pa) (.Tuple [.UnaryOp .USub (.Subscript (.Name wn p1) (.Name tn p2) p3) p4, .Name tn p5] k p6) scope lp) X.env; standAt pos; pure v) :: [])) _ _ s1
  refine wpAny_evalAll_cons (wpAny_bind (lam_make3 I1 TB hcode htm htu tbs rfl hfree fun f c' pm ctv H3 s3 I3 eN tb3 T3 hf hco => wpAny_bind (wpAny_standAt (wpAny_pure ?_))))
  refine wpAny_evalAll_nil ?_
  show wpAny _ _ (call (.builtin "sorted") [.ref r] [(Str.ofString "key", .ref f)]) (EP X pins σ Q) X.xe s3
  obtain ⟨t, u, v, hrng⟩ := I3.hok r _ (eN r _ hr1 fun _ z => nomatch z)
  have hS3 : SqL X.K H3 l (ws.map V.int) := hS.imp (fun z => z.imp (fun z => eN _ _ z fun _ z => nomatch z) fun ⟨o, z⟩ => ⟨o, eN _ _ z fun _ z => nomatch z⟩) fun z => z
  obtain ⟨its, rv, pl, hz⟩ := I3.list hS3
  obtain ⟨m, hm3, hloc⟩ := I3.loc
  obtain ⟨uu, rel, look⟩ := hloc i wn (.ref l) kx.hN hσ kx.vis
  obtain rfl : uu = Value.ref l := rel
  have hcell : s3.heap.IsCell cw (some (.ref l)) := by
    rcases look with ⟨hk, _⟩ | ⟨_, c2, hc2, z⟩
    · have : X.env.scope.names.lookup wn = some .local := hk
      rw [kx.cell] at this; cases this
    · rw [hcw] at hc2; cases hc2; exact z
  obtain ⟨⟨oc, vs2, t2, hoc, hdc, hvc⟩, _, _⟩ := I3.hok c' _ hco
  have small : Builtin.Range.small 0 (n : Nat) 1 = true := small_one (by omega) (by omega) (by omega) (by omega)
  refine sortedK_any (r := r) (f := f) (n := n) (ws := ws) (ok.hd hc) hrng small (by rw [rangeSize_nat]; omega) hn hu (fun j tj hj g tk kk => ?_) fun h' tk p out cc kk hp hg hi => ?_
  · have hj2 : j < ws.length := by omega
    obtain ⟨w2, ew, rw2⟩ := rv.get (i := j) (x := V.int (ws.getD j 0)) (by rw [List.getElem?_map, List.getElem?_eq_getElem hj2, List.getD_eq_getElem?_getD, List.getElem?_eq_getElem hj2]; rfl)
    obtain ⟨tz, rfl⟩ := rw2
    have e : keyOfK ws j = .tuple [.int (-(ws.getD j 0)), .int ((j : Nat) : Int)] := rfl
    rw [e]
    exact lam_call (s := { s3 with heap := g, toks := tk }) (kk _ _ hf) ⟨c', oc, vs2, t2, rfl, kk _ _ hoc, hdc, hvc⟩ hr (I3.nolimit.keeps kk) kx.kind kx.co kx.gen kx.nc kx.loc kx.free clo (hcell.keeps kk) (pl.isList.imp fun o h => ⟨kk _ _ h.1, h.2⟩) (by omega) (by omega) (by simpa using ew) kx.d1 kx.d2 kx.d3 (fun u => kx.bind _ _ _ _ _ _ _ u)
  · have hn3 : H3 p = none := I3.hok.gone hp
    refine ⟨.ref p, upd H3 p (.lst ((keyL ws n).map fun k : Nat => V.int (k : Nat))), I3.laidN (h' := h') (t' := tk) kk hp hn3 ⟨?_, out, cc, ?_, hg⟩, rfl, q1 H3 eN tb3 T3 p hn3⟩
    · have := hi.length
      rw [List.length_map]
      have l2 : (keyL ws n).length = n := by unfold keyL; rw [List.length_mergeSort, List.length_range]
      rw [l2, sizeLine_eq]; omega
    · have h := vals_of_ints hi
      rw [List.map_map] at h
      exact h
theorem lam_bind (q wn : Str) (pa : Pos) (body : Expr) (scope : Scope) (cl : List (Str × Addr)) (pm cv ctv u : Value) : bindArgs (PySem.W.kla_fn "<lambda>" q (lamPar "thing" pa) body scope cl pm cv ctv) ⟨[u], []⟩ = pure [(("thing" : Str), u)] := rfl
theorem keyN_nx (n : Int) (ws : List Int) : ∀ c fs, keyN n ws ≠ .exc c fs := by
  unfold keyN
  split <;> (intro c fs z; cases z)
theorem keyedD_nx (x y : D) : ∀ c fs, keyedD x y ≠ .exc c fs := by
  unfold keyedD
  split
  · exact bind_nx (allI_nx _) fun ws => keyN_nx _ _
  · exact keyN_nx _ _
  · intro c fs z; cases z
theorem keyN_ok {n : Int} {ws : List Int} {d : D} (h : keyN n ws = .ok d) : ∃ k : Nat, n = (k : Nat) ∧ k ≤ 64 ∧ k ≤ ws.length ∧ d = .lst ((keyL ws k).map fun j : Nat => .int (j : Nat)) := by
  unfold keyN at h
  split at h
  · rename_i c
    simp only [Bool.and_eq_true, decide_eq_true_eq] at c
    obtain ⟨⟨c1, c2⟩, c3⟩ := c
    refine ⟨n.toNat, by omega, by omega, by omega, ?_⟩
    injection h with h
    exact h.symm
  · cases h
section
variable {X : Cx} {T : Tab} {Γ : List Mo} {XE : XT} {qa : Qu} {fa : Ev → R D}
theorem reps_nat {T : Tab} {H : Hp} {F : Addr → Prop} : ∀ ks : List Nat, Reps T H F (ks.map fun k : Nat => V.int (k : Nat)) (ks.map fun k : Nat => D.int (k : Nat))
  | [] => .nil
  | _ :: ks => .cons (.int _) (reps_nat ks)
theorem de_keyed {i : Nat} {wn tn : Str} {scope : Scope} {m : Mo} {ne : Expr} {q1 q2 q3 kp lp pa p1 p2 p3 p4 p5 p6 pos : Pos} {k : Nat} (hc : X.calm = true) (hK : X.K = T.K) (kx : KeyX X i wn tn scope) (hl : m ≠ .lol) (hm : Γ.getD i .brw = m) (hr : X.A.depth < recursionLimit) (hu : X.A.units + 8 < cLine) (hg : Gl X "sorted") (hm1 : X.mg "sorted" = none) (hg2 : Gl X "range") (hm2 : X.mg "range" = none) (hp : plainArg ne = true) (ha : DE X T Γ XE qa ne fa) :
    DE X T Γ XE .fresh (.Call (.Name "sorted" q1) [.Call (.Name "range" q2) [ne] [] q3] [⟨some "key", .Lambda (lamPar tn pa) (.Tuple [.UnaryOp .USub (.Subscript (.Name wn p1) (.Name tn p2) p3) p4, .Name tn p5] k p6) scope lp, kp⟩] pos) fun env => (fa env).bind fun x => (getV env i).bind fun w => keyedD x w := by
  obtain ⟨ta, pa', sa⟩ := ha
  refine ⟨tKey X.K i ta, pe_keyed hc kx hr hu hg hm1 hg2 hm2 pa' (starEach_cons hp), fun H0 F0 σ H F env Q s h => ?_⟩
  refine sa.top s h fun d1 F1 H1 v1 x1 t1 r1 h1 => ?_
  unfold getV at h1
  split at h1
  · rename_i w ew
    rw [R.bind_ok] at h1
    cases e : keyedD d1 w with
    | bad => rw [e] at h1; exact h1.elim
    | exc c fs => exact absurd e (keyedD_nx _ _ _ _)
    | ok d =>
      rw [e] at h1
      obtain ⟨v, hv, ok⟩ := r1.slot i w ew
      rw [hm] at ok
      have tv := ok.top hl
      have go := Go.back (q := .fresh) (d := d) x1 h1
      have core : ∀ (n : Int) (ws : List Int), d1 = .int n → keyN n ws = .ok d → (∃ a, v = .ref a ∧ SqL T.K H1 a (ws.map V.int)) → tKey X.K i (fun σ H Q => Q v1 H) σ H1 Q := by
        rintro n ws rfl e2 ⟨a, rfl, hS⟩
        obtain ⟨k, rfl, k1, k2, rfl⟩ := keyN_ok e2
        obtain rfl := t1.int
        refine ⟨_, rfl, fun p hp' => ?_⟩
        have xl : Ext F1 H1 F1 (upd H1 p (.rng 0 ((k : Nat) : Int))) := Ext.laid hp'
        refine ⟨p, k, a, ws, rfl, upd_same, k1, hv, ?_, k2, xl.tabs r1.tabs, fun H3 eN tb3 T3 p3 hp3 => ?_⟩
        · rw [hK]
          exact hS.imp (fun z => z.imp (fun z => xl.keep _ _ z rfl) fun ⟨o, z⟩ => ⟨o, xl.keep _ _ z rfl⟩) fun z => z
        · have xs : Ext F1 (upd H1 p (.rng 0 ((k : Nat) : Int))) F1 H3 := ⟨fun a o hh n => eN a o hh (isT_no n), tb3, fun _ h => h, fun _ h => .inl h, fun _ => T3⟩
          have xx := xl.trans xs
          have dm := xx.dom r1.dom
          exact go F1 _ _ (xx.trans (Ext.laid hp3)) ((ResOk.newL dm hp3 (reps_nat _)).back xx)
      have fin : tKey X.K i (fun σ H Q => Q v1 H) σ H1 Q := by
        unfold keyedD at e
        split at e
        · rename_i n xs
          cases e1 : allI xs with
          | bad => rw [e1] at e; cases e
          | exc c fs => rw [e1] at e; cases e
          | ok ws =>
            rw [e1, R.bind_ok] at e
            cases allI_ok e1
            obtain ⟨a, vs, rfl, e3, r3⟩ := tv.lst
            cases Reps.ofInts r3
            exact core n ws rfl e ⟨a, rfl, SqL.of e3⟩
        · rename_i n ws
          obtain ⟨a, rfl, hS⟩ := tv.scr
          exact core n ws rfl e ⟨a, rfl, hS⟩
        · cases e
      exact fin
  · exact h1.elim
end
end Ev

set_option maxHeartbeats 4000000
/-! Ev: exceptions -/
namespace Ev
open PySem PySem.Spec PyProof.Rows L2
theorem excO_ok {P : Program} {w : World} {H : Hp} {h : Heap} {a : Addr} {oe : Obj} {vs : Array Value} (e : h.get? a = some oe) (d : oe.data = .fields vs) : ObjOk P w H h a (excO a oe.cls oe.dict) :=
  ⟨⟨oe, vs, e, rfl, rfl, d⟩, ⟨oe, e⟩, fun h1 h2 ⟨o, v, x1, x2, x3, x4⟩ st => ⟨o, v, st _ x1, x2, x3, x4⟩⟩
section
variable {X : Cx} {pins : List (Addr × Obj)} {σ : L2.St} {H : Hp} {s : Shared}
/-- a caught exception, pinned, is told of from now on -/
theorem inv_track {a : Addr} {oe : Obj} {vs : Array Value} (I : Inv X ((a, oe) :: pins) σ H s) (hd : oe.data = .fields vs) (h0 : X.s_0.heap.get? a = none) (hp : ∀ p ∈ X.pn ++ pins, p.1 ≠ a) : Inv X pins σ (upd H a (excO a oe.cls oe.dict)) s := by
  obtain ⟨g, n, nL, nF, _⟩ := I.pin (a, oe) (List.mem_append_right _ List.mem_cons_self)
  have g : s.heap.get? a = some oe := g
  have n : H a = none := n
  have nL : a ≠ X.env.locals := nL
  have ne : ∀ b u, H b = some u → b ≠ a := fun b u e => ne_of_none e n
  have ne0 : ∀ b o, X.s_0.heap.get? b = some o → b ≠ a := fun b o e z => by rw [z, h0] at e; cases e
  refine ⟨I.ok, I.os, I.bare, ⟨I.base.keep, I.base.slot, fun b o e q hx => ?_, I.base.there, fun b xs e => ?_, fun b o u e => ?_, fun b ps e => ?_⟩, I.loc, I.cell, ?_, fun x c e => ?_, fun p hp' => ?_, fun b u e => ?_, I.len⟩
  · rw [upd_ne (ne0 b o e)]; exact I.base.free b o e q hx
  · have := I.base.tups b xs e
    rw [upd_ne (ne b _ this)]; exact this
  · have := I.base.frzs b o u e
    rw [upd_ne (ne b _ this)]; exact this
  · obtain ⟨more, q⟩ := I.base.tbls b ps e
    exact ⟨more, by rw [upd_ne (ne b _ q)]; exact q⟩
  · rw [upd_ne (Ne.symm nL)]; exact I.free
  · obtain ⟨v, o, ho, hdd⟩ := I.cell x c e
    have : c ≠ a := fun z => by
      rw [z, g] at ho; cases ho
      rw [hd] at hdd; cases hdd
    rw [upd_ne this]; exact I.freeC x c e
  · have hp2 : p ∈ X.pn ++ ((a, oe) :: pins) := by
      rcases List.mem_append.mp hp' with z | z
      · exact List.mem_append_left _ z
      · exact List.mem_append_right _ (List.mem_cons_of_mem _ z)
    obtain ⟨q1, q2, q3, q4, q5⟩ := I.pin p hp2
    exact ⟨q1, by rw [upd_ne (hp p hp')]; exact q2, q3, q4, q5⟩
  · by_cases hb : b = a
    · subst hb
      rw [upd_same] at e; cases e
      exact excO_ok g hd
    · rw [upd_ne hb] at e
      exact (I.hok b u e).stay (fun _ _ _ q => q) (fun d q => by rw [upd_ne (ne d _ q)]; exact q) fun d xs q => by rw [upd_ne (ne d _ q)]; exact q
/-- what a try wishes that catches by one name and keeps what it caught: slot i is the clause's, slot j the keeper's -/
def wOwn (K : PySem.W.Frag) (c : Value) (i j : Nat) (D : Ends) : WX := fun cls dx τ G =>
  PySem.W.exmOne K cls c = some true ∧ ∀ b, G b = none → D.nx (((τ.set i (some (.ref b))).set j (some (.ref b))).set i none) (upd G b (excO b cls dx))
section
variable {x n y : Str} {c : Value} {i j : Nat} {np yp np2 apos pos' : Pos} {xe : Value → Shared → Prop} {D : Ends}
/-- a cell with fields is no frame -/
theorem noFrame {B g : Heap} {l : List Env} {b : Addr} {o : Obj} {us : Array Value} (ff : g.FunFrames B l) (e : g.get? b = some o) (k : o.data = .fields us) : b ∉ frs l := by
  intro z; obtain ⟨_, o2, e2, nf⟩ := ff.mem z; rw [e2] at e; cases e; exact nf us k
/-- the class that the clause names is read -/
theorem names_read {b : Addr} {pn : List (Addr × Obj)} {τ : L2.St} {G : Hp} {r : Shared} {Q E : Value → Shared → Prop} (hc : Names X x c) (S : L2.Inv (X.suite b pn) [] τ G r) (q : Q c r) : wpAny (model X.prog X.w) (X.A.mark (some (.ref b))) (eval (.Name x np) X.env) Q E r := by
  obtain ⟨g1, g2, g3⟩ := hc
  rcases g3 with m | ⟨m, v, ne⟩
  · exact ld_glob (X := X.suite b pn) S g1 m q g2
  · exact ld_blt (X := X.suite b pn) S g1 m v q ne g2
/-- from the clause's meeting the exception to the end of its suite -/
theorem own_met (ok : X.Ok) (hs : X.stack = X.env :: X.outer) (hf : X.env.frame = some X.env.locals) (hex : X.ex = []) (hN : X.N.Nodup) (hi : X.N[i]? = some n) (hln : X.env.kindOf n = some .local) (hj : X.N[j]? = some y) (hly : X.env.kindOf y = some .local) (hc : Names X x c)
    (hdn : (n == ("__debug__" : Str)) = false) (hcn : (n == ("__classdict__" : Str)) = false) (hsw : swapsWith (.Name n np2) (some (.Name y yp)) apos.line X.env = pure false) {u : Value} {r : Shared} (met : L2.XE (X.tr (X.pn ++ pins) xe) (wOwn X.K c i j D) u r) :
    wpAny (model X.prog X.w) X.A (noteFrame u X.env) (fun _ r2 => wpAny (model X.prog X.w) X.A (setFlight u none) (fun _ r3 =>
      wpAny (model X.prog X.w) X.A (handleBy u X.env [.ExceptHandler (some (.Name x np)) (some n) [.Assign [.Name y yp] (.Name n np2) apos] pos']) (SP X pins D) X.xe r3) X.xe r2) X.xe r := by
  obtain ⟨b, B, t, pins2, τ, G, cls, dx, rfl, J0, ground, up0, sky, nG, eo, bare, can, wish⟩ := met
  have J := J0.ofTry (X := X) ok
  have sk : Sky B (X.env :: X.outer) b (Zc cls dx) X.env.locals r.heap := hs ▸ sky
  have frm : X.A.frames = some (X.env :: X.outer) := ok.frames.trans (congrArg some hs)
  refine Sky.land Zc.steady frm hf sk (fun h1 fly1 up1 => ?_)
  obtain ⟨o1, us1, g1, z1, k1⟩ := fly1.there
  have I1 := J.landed (s' := { r with heap := h1 }) ground fly1.1 (up0.trans up1) eo bare
  have out := noFrame fly1.2.2.1 g1 k1
  have bL : b ≠ X.env.locals := by intro z; exact out (List.mem_filterMap.mpr ⟨X.env, .head _, z ▸ hf⟩)
  have bF : b ∉ X.fs := by intro z; obtain ⟨f, m, q⟩ := List.mem_filterMap.mp z; exact out (List.mem_filterMap.mpr ⟨f, .tail _ m, q⟩)
  have young : t.heap.get? b = none := by
    rcases q : t.heap.get? b with _ | o
    · rfl
    · have st : b ∉ frs X.stack := by rw [hs]; exact out
      have z := fly1.2.1; rw [ground b o q st] at z; cases z
  have young0 : X.s_0.heap.get? b = none := by
    rcases q : X.s_0.heap.get? b with _ | o
    · rfl
    · obtain ⟨o2, e2⟩ := J.base.there b o q (hex ▸ List.not_mem_nil); rw [young] at e2; cases e2
  have T1 := I1.suite g1 k1 nG bL bF
  have ty : PySem.W.Looks (model X.prog X.w) h1 (typeOf (.ref b)) cls := by
    intro A Q E s k q; exact wpAny_typeOf_ref (k _ _ g1) (z1.1 ▸ q)
  refine wpAny_handleBy_cons (codeAny_handlers_test (names_read hc T1 ((PySem.W.exm_one I1.kIn ty can).here (codeAny_handlers_suite_as (HandSPX.lands_againZ fly1 fun h2 fly2 up2 => ?_))))) nofun
  obtain ⟨o2, us2, g2, z2, k2⟩ := fly2.there
  have I2 := J.landed (s' := { r with heap := h2 }) ground fly2.1 ((up0.trans up1).trans up2) eo bare
  have T2 := I2.suite g2 k2 nG bL bF
  refine store_ok (X := X.suite b ((b, o2) :: (X.pn ++ pins))) (v := .ref b) T2 hN hi (.inl hln) rfl (fun r5 T5 => ?_) (.inr hln)
  have st : PS (X.suite b ((b, o2) :: (X.pn ++ pins))) (.Assign [.Name y yp] (.Name n np2) apos) (tAsg (tVar i) (gName j)) := ps_set hN hj (.inl hly) (pe_var hi (.inl hln) hdn hcn) hsw (.inr hly)
  have il : i < τ.length := J.len ▸ (List.getElem?_eq_some_iff.mp hi).1
  refine wpAny_mono ((pss_cons st pss_nil).run [] r5 _ G { nx := fun τ6 G6 => τ6 = ((τ.set i (some (.ref b))).set j (some (.ref b))) ∧ G = G6, rt := fun _ _ => False } T5 ⟨.ref b, List.getElem?_set_self il, rfl, rfl⟩) (fun fl r6 way => ?_) nofun
  have noWay : ∀ {P : Prop}, (∃ (a1 : L2.St) (a2 : Hp) (_ : L2.Inv (X.suite b ((b, o2) :: (X.pn ++ pins))) [] a1 a2 r6), False) → P := fun ⟨_, _, _, z⟩ => z.elim
  rcases fl with _ | _ | _ | w
  · obtain ⟨τ6, G6, T6, e6, e7⟩ := way
    subst e6; subst e7
    refine gone_ok (X := X) (pins := (b, o2) :: pins) ⟨ok, T6.os, T6.bare, T6.base, T6.loc, T6.cell, T6.free, T6.freeC, fun p m => T6.pin p (List.mem_append_left _ ?_), T6.hok, T6.len⟩ hN hi hln fun r7 I7 => ?_
    · simp only [List.mem_append, List.mem_cons] at m ⊢; rcases m with m | m | m <;> simp [m]
    · have I8 := inv_track I7 k2 young0 fun p m z => absurd (J.pin p m).1 (by rw [z, young]; exact nofun)
      rw [z2.1, z2.2] at I8
      exact ⟨_, _, I8, wish b nG⟩
  · obtain ⟨_, _, _, z⟩ := way; exact z.elim
  · obtain ⟨_, _, _, z⟩ := way; exact z.elim
  · obtain ⟨_, _, _, _, _, z⟩ := way; exact z.elim
/-- try: body, except x as n: y = n -/
theorem ps_try_own {body : List Stmt} {pos : Pos} {pre : WX → Ends → St → Hp → Prop} (hs : X.stack = X.env :: X.outer) (hf : X.env.frame = some X.env.locals) (hex : X.ex = []) (hN : X.N.Nodup) (hi : X.N[i]? = some n) (hln : X.env.kindOf n = some .local) (hj : X.N[j]? = some y) (hly : X.env.kindOf y = some .local) (hc : Names X x c)
    (hdn : (n == ("__debug__" : Str)) = false) (hcn : (n == ("__classdict__" : Str)) = false) (hsw : swapsWith (.Name n np2) (some (.Name y yp)) apos.line X.env = pure false)
    (hb : ∀ (W : WX) (pn : List (Addr × Obj)) (xe : Value → Shared → Prop), Takes (X.tr pn xe) W → PassesOwn (model X.prog X.w) X.A X.env xe → ∃ t, PSs (X.tr pn xe) body t ∧ ∀ D τ G, pre W D τ G → t D τ G) :
    PS X (.Try body [.ExceptHandler (some (.Name x np)) (some n) [.Assign [.Name y yp] (.Name n np2) apos] pos'] [] [] pos) (fun D τ G => pre (wOwn X.K c i j D) D τ G) := by
  constructor
  intro pins s τ G D I h
  obtain ⟨t, run, imp⟩ := hb (wOwn X.K c i j D) (X.pn ++ pins) _ (fun u r met => own_met (pins := pins) (np := np) (pos' := pos') I.ok hs hf hex hN hi hln hj hly hc hdn hcn hsw met) PassesOwn.looking
  refine wpAny_Try_except (wpAny_mono (run.run [] s τ G D (I.toTry _) (imp D τ G h)) (fun fl r way => ?_) fun _ _ z => z)
  rcases fl with _ | _ | _ | w
  · obtain ⟨τ1, G1, J, q⟩ := way; exact wpAny_execs_nil ⟨_, _, J.ofTry I.ok, q⟩
  · obtain ⟨τ1, G1, J, q⟩ := way; exact ⟨_, _, J.ofTry I.ok, q⟩
  · obtain ⟨τ1, G1, J, q⟩ := way; exact ⟨_, _, J.ofTry I.ok, q⟩
  · obtain ⟨v, τ1, G1, J, rel, q⟩ := way; exact ⟨v, _, _, J.ofTry I.ok, rel, q⟩
end
end
end Ev

set_option maxHeartbeats 4000000
/-! Ev: calls that raise, raise, try -/
namespace Ev
open PySem PySem.Spec PyProof.Rows L2
variable [Tbs]
/-- the exception of the class c with the dict d is told by fs -/
def XD (T : Tab) (H : Hp) (S : Addr → Prop) (c : Nat) (fs : List D) (d : Option Addr) : Prop := ∃ flds, fs = [.exv c flds] ∧ XFld H S d flds
/-- the promise of a def that may raise -/
abbrev spX (T : Tab) (ms : List Mo) (q : Qu) (f : List D → Option D) : Sp := fun vs H Q E => ∃ F ds r, Dom F H ∧ TbsOk H ∧ ArgsOk T H F ms vs ds ∧ f ds = some r ∧
  wpR (ofX (some r)) (Go T q F H Q) (fun c fs => ∀ F' H' d, Ext F H F' H' → XD T H' F' c fs d → E (.ref (T.cl c)) d H')
/-- what is raised is taken -/
def TakesX (X : Cx) (T : Tab) (XE : XT) : Prop := ∃ W, Takes X W ∧ ∀ c fs σ F H d, XE c fs σ F H → XD T H F c fs d → W (.ref (T.cl c)) d σ H
theorem takesNo {X : Cx} {T : Tab} : TakesX X T NoXE := ⟨_, takes0, fun _ _ _ _ _ _ z _ => z⟩
section
variable {X : Cx} {T : Tab} {Γ Γ' Γb : List Mo} {XE : XT} {q qb : Qu} {a : Expr} {fa : Ev → R D} {pos p : Pos} {es : List Expr} {fs : Ev → R (List D)} {x : Str}
theorem de_callX {k : Nat} {f : Addr} {fd : FuncData} {ps : List Str} {ms : List Mo} {g : List D → Option D} (tk : TakesX X T XE)
    (Fn : FnOk X.prog X.w X.K X.mg X.base (L2.CX X.prog X.w) k f fd ps (spX T ms q g)) (hr : Room k X.A) (hg : Gl X x) (hm : X.mg x = some (.ref f)) (hk : PySem.W.keepIn X.K (.ref f) = true) (hb : Binds X.K fd ps [])
    (hdb : (x == ("__debug__" : Str)) = false) (hp : plainArg a = true) (hps : es.all plainArg = true) (ha : DM X T Γ XE ms (a :: es) fs) : DE X T Γ XE q (.Call (.Name x p) (a :: es) [] pos) fun env => (fs env).bind fun ds => ofX (g ds) := by
  obtain ⟨t, pt, s⟩ := ha
  obtain ⟨W, tk, hW⟩ := tk
  refine ⟨_, pe_callS (E := WE W) Fn hr hg hm hk hb (fun σ => passAt tk σ) pt hdb (starEach_cons hp) (backTo_none hps), fun H0 F0 σ H F env Q r h => ?_⟩
  refine s H0 F0 σ H F env _ r (wpR_mono (wpR_bind h) (fun ds hd F2 H2 vs x2 r2 => ?_) fun _ _ z => z)
  cases e : g ds with
  | none => rw [e] at hd; exact hd.elim
  | some y =>
    rw [e] at hd
    exact ⟨F2, ds, y, x2.dom r.dom, x2.tabs r.tabs, r2, e, wpR_mono hd (fun d hd => Go.back x2 hd) fun c fs he F' H' d x3 xd => hW c fs σ F' H' d (he F' H' (x2.trans x3)) xd⟩
/-- raise C('..') -/
theorem ds_raise {m : Str} {c j : Nat} {p2 p3 : Pos} {bmB : List Value} (hc : X.calm = true) (tk : TakesX X T XE) (ex : PySem.W.excIn X.K (T.cl c) bmB "ValueError.__new__" = true) (F : ExcBaseFacts "ValueError" "ValueError.__new__" "ValueError.__init__" bmB) (hm : X.mg x = some (.ref (T.cl c))) (hk : PySem.W.keepIn X.K (.ref (T.cl c)) = true) (hr : Raises X (.ref (T.cl c)))
    (hg : Gl X x) (hdb : (x == ("__debug__" : Str)) = false) : DS X T Γ Γ' Γb XE qb (.Raise (some (.Call (.Name x p) [.Constant (.str m) j p2] [] p3)) none pos) fun _ => raiseD (some (.exv c [])) := by
  obtain ⟨W, tk, hW⟩ := tk
  refine ⟨_, ps_raise hc tk (pmk_own F ex hm hk hr hg hdb), fun H0 F0 σ H F env D r h => ?_⟩
  have h : GoS XE F0 H0 c [.exv c []] := h
  exact hW c _ σ F H none (h σ F H r.ext) ⟨[], rfl, .inl ⟨rfl, rfl⟩⟩
/-- the slots behind an except clause that keeps what it caught -/
theorem SR.caught {H0 H : Hp} {F0 F : Addr → Prop} {env : Ev} {σ : St} {b : Addr} {c : Nat} {d : Option Addr} {flds : List (Str × Int)} {j j2 : Nat} (r : SR T Γ H0 F0 F H env σ) (hb : H b = none) (hd : XFld H F d flds) (hj : j ≠ j2) (hl : j2 < Γ.length) :
    ∃ F', (∀ a, F a → F' a) ∧ SR T ((Γ.set j .frz).set j2 .frz) H0 F0 F' (upd H b (excO b (.ref (T.cl c)) d)) (((env.set j (some (.exv c flds))).set j2 (some (.exv c flds))).set j none) (((σ.set j (some (.ref b))).set j2 (some (.ref b))).set j none) := by
  have x : Ext F H (fun a => F a ∨ a = b) (upd H b (excO b (.ref (T.cl c)) d)) := Ext.laidF hb
  have r1 := ((r.ext' x).drop j .frz).drop j2 .frz
  have hm : ((Γ.set j .frz).set j2 .frz)[j2]? = some .frz := List.getElem?_set_self (by rw [List.length_set]; exact hl)
  have rp : Rep T (upd H b (excO b (.ref (T.cl c)) d)) (fun a => F a ∨ a = b) (.ref b) (.exv c flds) := .exv (.inr rfl) upd_same (hd.mono x.sub fun a o _ => x.keep a o)
  have r2 := r1.setF j2 rp (.of hm)
  refine ⟨_, x.sub, ?_⟩
  have e1 : ((env.set j (some (.exv c flds))).set j2 (some (.exv c flds))).set j none = ((env.set j none).set j2 none).set j2 (some (.exv c flds)) := by
    rw [List.set_set, List.set_comm _ _ hj.symm, List.set_set]
  have e2 : ((σ.set j (some (V.ref b))).set j2 (some (V.ref b))).set j none = ((σ.set j none).set j2 none).set j2 (some (V.ref b)) := by
    rw [List.set_set, List.set_comm _ _ hj.symm, List.set_set]
  rw [e1, e2]
  exact r2
/-- try: x = e / except C as n: y = n -/
theorem ds_tryA {n y z : Str} {C : Addr} {i j j2 : Nat} {np yp np2 apos pos' zp zpos : Pos} {ve : Expr} {hd : List D → Option D} {fx : Ev → R D} {Γe : List Mo} (hK : X.K = T.K) (hs : X.stack = X.env :: X.outer) (hf : X.env.frame = some X.env.locals) (hex : X.ex = []) (hN : X.N.Nodup)
    (hj : X.N[j]? = some n) (hln : X.env.kindOf n = some .local) (hj2 : X.N[j2]? = some y) (hly : X.env.kindOf y = some .local) (hij : j ≠ j2) (hl2 : j2 < Γ.length) (hc : Names X x (.ref C))
    (hdn : (n == ("__debug__" : Str)) = false) (hcn : (n == ("__classdict__" : Str)) = false) (hsw : swapsWith (.Name n np2) (some (.Name y yp)) apos.line X.env = pure false)
    (hi : X.N[i]? = some z) (hlz : X.env.kindOf z = some .local) (hli : i < Γ.length) (hsz : swapsWith ve (some (.Name z zp)) zpos.line X.env = pure false) (hq : q ≠ .dirty)
    (hh : ∀ c fs, hd [.exv c fs] = some (.bl true) → PySem.W.exmOne T.K (.ref (T.cl c)) (.ref C) = some true)
    (hmx : ∀ pn xe XE, TakesX (X.tr pn xe) T XE → PassesOwn (model X.prog X.w) X.A X.env xe → DE (X.tr pn xe) T Γ XE q ve fx)
    (hw1 : wkM (Γ.set i (moQ q)) Γe = true) (hw2 : wkM ((Γ.set j .frz).set j2 .frz) Γe = true) :
    DS X T Γ Γe Γb XE qb (.Try [.Assign [.Name z zp] ve zpos] [.ExceptHandler (some (.Name x np)) (some n) [.Assign [.Name y yp] (.Name n np2) apos] pos'] [] [] pos)
      fun env => tryD (fx env) (fun d => .ok (env.set i (some d), .nx)) fun c fs => catchD hd c fs fun d => .ok (((env.set j (some d)).set j2 (some d)).set j none, .nx) := by
  refine ⟨_, ps_try_own (pre := fun W D σ H => ∃ H0 F0 F env, SR T Γ H0 F0 F H env σ ∧ wpR (fx env) (fun d => ∀ F' H' v, Ext F H F' H' → ResOk T q H F' H' v d → D.nx (σ.set i (some v)) H') (fun c fs => ∀ F' H' d, Ext F H F' H' → XD T H' F' c fs d → W (.ref (T.cl c)) d σ H'))
    hs hf hex hN hj hln hj2 hly hc hdn hcn hsw (fun W pn xe tk pa => ?_), fun H0 F0 σ H F env D r h => ?_⟩
  · obtain ⟨t, pt, st⟩ := hmx pn xe (fun c fs σ F H => ∀ d, XD T H F c fs d → W (.ref (T.cl c)) d σ H) ⟨W, tk, fun c fs σ F H d g xd => g d xd⟩ pa
    refine ⟨_, pss_cons (ps_set (X := X.tr pn xe) hN hi (.inl hlz) pt hsz (.inr hlz)) pss_nil, fun D σ H ⟨H0, F0, F, env, r, h⟩ => ?_⟩
    exact st H0 F0 σ H F env _ r (wpR_mono h (fun d g F' H' v x rv => g F' H' v x rv) fun c fs g F' H' x d xd => g F' H' d x xd)
  · refine ⟨H0, F0, F, env, r, ?_⟩
    unfold tryD at h
    dsimp only at h
    cases e : fx env with
    | bad => rw [e] at h; exact h.elim
    | ok d =>
      rw [e] at h
      intro F' H' v x1 rv
      have h : ∀ F' H' σ', Fz F H F' H' → SR T Γe H0 F0 F' H' (env.set i (some d)) σ' → D.nx σ' H' := h
      obtain ⟨F2, s2, r2⟩ := (SR.asg hli hq r (r.ext' x1) x1 rv).weak hw1
      exact h F2 H' _ (x1.fz.trans ⟨s2, fun _ _ _ z _ => z⟩) r2
    | exc c fs =>
      rw [e] at h
      intro F' H' d x1 ⟨flds, ef, xf⟩
      subst ef
      unfold catchD at h
      dsimp only at h
      split at h
      · rename_i e2
        refine ⟨hK ▸ hh c flds e2, fun b nb => ?_⟩
        have h : ∀ F' H' σ', Fz F H F' H' → SR T Γe H0 F0 F' H' (((env.set j (some (.exv c flds))).set j2 (some (.exv c flds))).set j none) σ' → D.nx σ' H' := h
        obtain ⟨F2, s2, r2⟩ := (r.ext' x1).caught (c := c) nb xf hij hl2
        obtain ⟨F3, s3, r3⟩ := r2.weak hw2
        refine h F3 _ _ (x1.fz.trans (Fz.trans (F1 := F2) ⟨s2, fun a o _ e _ => ?_⟩ ⟨s3, fun _ _ _ z _ => z⟩)) r3
        rw [upd_ne fun z => by rw [z, nb] at e; cases e]; exact e
      · exact h.elim
end
end Ev

set_option maxHeartbeats 4000000
/-! Ev: caught exceptions: isinstance, fields; try without a name -/
namespace Ev
open PySem PySem.Spec PyProof.Rows L2
variable [Tbs]
/-- what isinstance asks of an object's class -/
structure TyC (K : PySem.W.Frag) (C : Addr) : Prop where
  cl : Cls K C
  ha : PySem.W.findIn K (.ref C) "__class__" = some (some (.builtin "object.__class__"))
  hn : PySem.W.specialIn K (.builtin "object.__class__") "__get__" = some (some (.builtin "getset_descriptor.__get__"))
  ht : PySem.W.takesIn K (.builtin "object.__class__") = some true
  hm : PySem.W.mroIn K C (.type "object") = some true
/-- a class of exceptions without an own __init__ -/
structure RseC (K : PySem.W.Frag) (C : Addr) : Prop where
  ex : PySem.W.excIn K C [.type "ValueError", .type "Exception", .type "BaseException", .type "object"] "ValueError.__new__" = true
  ke : PySem.W.keepIn K (.ref C) = true
  su : PySem.W.subIn K (.ref C) (.type "BaseException") = some true
  ty : PySem.W.typeIn K (.ref C) = some (.type "type")
theorem excO_at {P : Program} {w : World} {H : Hp} {h : Heap} {a : Addr} {cls : Value} {d : Option Addr} (hok : HOk P w H h) (e : H a = some (excO a cls d)) : ∃ (o : Obj) (us : Array Value), h.get? a = some o ∧ o.cls = cls ∧ o.dict = d ∧ o.data = .fields us := (hok a _ e).1
section
variable {X : Cx}
/-- the dict of an exception -/
def XDict (H : Hp) (d : Option Addr) (fs : List (Str × V)) : Prop := (d = none ∧ fs = []) ∨ ∃ dx, d = some dx ∧ H dx = some (.xd fs)
theorem inst_of {pins : List (Addr × Obj)} {σ : L2.St} {H : Hp} {s : Shared} (I : L2.Inv X pins σ H s) {a C : Addr} {d : Option Addr} {fs : List (Str × V)} (e : H a = some (excO a (.ref C) d)) (hd : XDict H d fs) :
    ∃ (o : Obj) (od : Option Obj), PySem.W.InstAt s.heap a o C od ∧ (fs ≠ [] → ∃ (ob : Obj) (mA : Str → Option Value), od = some ob ∧ (∀ n, PySem.W.lookIn n ob = some (mA n)) ∧ ∀ f, RelO (fs.lookup f) (mA f)) := by
  obtain ⟨o, us, g, c, dd, k⟩ := excO_at I.hok e
  have nc : PySem.W.notCls o = true := by unfold PySem.W.notCls; rw [k]
  rcases hd with ⟨rfl, rfl⟩ | ⟨dx, rfl, ed⟩
  · exact ⟨o, none, ⟨g, c, nc, by rw [dd]; trivial⟩, fun z => absurd rfl z⟩
  · have hx : ObjOk X.prog X.w H s.heap dx (.xd fs) := I.hok dx _ ed
    obtain ⟨mA, hns, hr⟩ := hx
    obtain ⟨ob, ho, hl⟩ := lookIn_ns hns
    exact ⟨o, some ob, ⟨g, c, nc, by rw [dd]; exact ho⟩, fun _ => ⟨ob, mA, rfl, hl, hr⟩⟩
/-- isinstance(e, c) of a caught exception -/
def rIsX (K : PySem.W.Frag) : List V → Hp → VK → Prop := fun xs H Q => ∃ (a C : Addr) (c : V) (u : Value) (d : Option Addr) (fs : List (Str × V)) (b : Bool), xs = [.ref a, c] ∧ ClsV c u ∧ H a = some (excO a (.ref C) d) ∧ XDict H d fs ∧ ExcC K C ∧ PySem.W.kitOne K (.ref C) u = some b ∧ Q (.bl b) H
def rIsXT (K : PySem.W.Frag) : List V → Hp → VK → Prop := fun xs H Q => ∃ (a C tp : Addr) (cs : List V) (us : List Value) (d : Option Addr) (fs : List (Str × V)) (b : Bool), xs = [.ref a, .ref tp] ∧ H tp = some (.tup cs) ∧ Paired ClsV cs us ∧ H a = some (excO a (.ref C) d) ∧ XDict H d fs ∧ ExcC K C ∧ PySem.W.kitAny K (.ref C) us = some b ∧ Q (.bl b) H
theorem kit_exc {K : PySem.W.Frag} {C a : Addr} {o : Obj} {od : Option Obj} (T : ExcC K C) : PySem.W.KitX K (.ref a) (.ref C) (fun h => PySem.W.InstAt h a o C od) :=
  PySem.W.kitx_exc (by obtain ⟨cd, hc, _⟩ := PySem.W.any_some T.hd; rw [hc]; rfl) T.hg T.hk T.hs T.ha T.hn T.ht T.hm
theorem call_isX : CallR X (.builtin "isinstance") (fun xs H Q => rIsi X.K xs H Q ∨ rIsX X.K xs H Q) := by
  intro pins s σ H xs us Q I r h
  rcases h with h | ⟨a, C, c, u, d, fs, b, rfl, k, ea, xd, T, e, q⟩
  · exact call_isi pins s σ H xs us Q I r h
  · obtain ⟨u1, u2, rfl, r1, r2⟩ := vals2 r
    obtain rfl := k.eq r2
    obtain rfl : u1 = Value.ref a := r1
    obtain ⟨o, od, J, _⟩ := inst_of I ea xd
    exact PySem.W.kia_one (kit_exc T) I.kIn J e nofun fun tk => ⟨.bl b, H, I.tok tk, rfl, q⟩
theorem call_isXT : CallR X (.builtin "isinstance") (rIsXT X.K) := by
  intro pins s σ H xs us Q I r h
  obtain ⟨a, C, tp, cs, ws, d, fs, b, rfl, hT, k, ea, xd, T, e, q⟩ := h
  obtain ⟨u1, u2, rfl, r1, r2⟩ := vals2 r
  obtain rfl : u2 = Value.ref tp := r2
  obtain rfl : u1 = Value.ref a := r1
  obtain ⟨o, od, J, _⟩ := inst_of I ea xd
  obtain ⟨dd, its, rv, ob, g1, g2, n, g3⟩ := (show ObjOk X.prog X.w H s.heap tp (.tup cs) from I.hok tp _ hT)
  obtain rfl := ClsV.all k rv
  obtain ⟨oc, od2, dt, sl⟩ := ob
  simp only at g2 g3
  subst g2 g3
  exact PySem.W.kia_tup (kit_exc T) I.kIn J g1 e nofun fun tk => ⟨.bl b, H, I.tok tk, rfl, q⟩
/-- a field of a caught exception -/
def tXfA (K : PySem.W.Frag) (f : Str) (te : TE) : TE := fun σ H Q => te σ H fun x H1 => ∃ (a C : Addr) (d : Option Addr) (fs : List (Str × V)) (v : V), x = .ref a ∧ H1 a = some (excO a (.ref C) d) ∧ XDict H1 d fs ∧ XfC K C ∧ PySem.W.findIn K (.ref C) f = some none ∧ fs.lookup f = some v ∧ Q v H1
theorem pe_xfA {e : Expr} {te : TE} {pos : Pos} {n : Str} (he : PE X e te) (hb : attributeBase e n X.env (eval e X.env) = eval e X.env) : PE X (.Attribute e n pos) (tXfA X.K n te) := by
  constructor
  intro pins s σ H Q I h
  refine attr_of hb (thn (he.run pins s σ H _ I h) fun u s1 hh => ?_)
  obtain ⟨x, H1, I1, rx, a, C, d, fs, v, rfl, ea, xd, T, hno, l, q⟩ := hh
  obtain rfl : u = Value.ref a := rx
  obtain ⟨o, od, J, more⟩ := inst_of I1 ea xd
  obtain ⟨ob, mA, rfl, hl, hr⟩ := more (by rintro rfl; cases l)
  obtain ⟨u, hu, ru⟩ := RelO.some_of (v := v) (o := mA n) (by rw [← l]; exact hr n)
  exact HandSPX.exc_get I1.kIn J T.ga T.gg T.exC (PySem.W.findObj_own T.hdC hno rfl (by rw [hl, hu])) (handed_of ru) ⟨v, H1, I1.tok _, ru, q⟩
end
/-- the class that a name means: an own one, or a built-in one -/
inductive NmM (mg : Str → Option Value) (x : Str) : Value → Prop
  | own {C : Addr} (h : mg x = some (.ref C)) : NmM mg x (.ref C)
  | ty {n : String} (h : mg x = none) (b : bootBuiltins x = some (.type n)) (ne : x ≠ "__name__") : NmM mg x (.type n)
abbrev NmC (X : Cx) (x : Str) (u : Value) : Prop := NmM X.mg x u
theorem pe_nmc {X : Cx} {x : Str} {u : Value} {p : Pos} (hg : Gl X x) (hd : (x == ("__debug__" : Str)) = false) (h : NmC X x u) : ∃ c, ClsV c u ∧ PE X (.Name x p) (tC c) ∧ ∀ T H F, ∃ d, d = D.non ∨ Rep T H F c d := by
  cases h with
  | @own C h => exact ⟨.ref C, .own C, pe_glob (v := .ref C) hg h rfl hd, fun _ _ _ => ⟨.non, .inl rfl⟩⟩
  | @ty n h b ne => exact ⟨.ty n, .ty n, pe_bltn (v := .ty n) hg h b rfl ne hd, fun _ _ _ => ⟨.non, .inl rfl⟩⟩
section
variable {X : Cx} {T : Tab} {Γ Γ' Γb : List Mo} {XE : XT} {q qa qb : Qu} {a : Expr} {fa : Ev → R D} {pos p p2 : Pos} {x : Str}
/-- of what an isinstance tells: an object, or a caught exception -/
def IsOk (T : Tab) (u : Value) (y d : D) : Prop := (∃ c fs b, y = .obj c fs ∧ d = .bl b ∧ TyC T.K (T.cl c) ∧ PySem.W.kitOne T.K (.ref (T.cl c)) u = some b) ∨ ∃ c fs b, y = .exv c fs ∧ d = .bl b ∧ ExcC T.K (T.cl c) ∧ PySem.W.kitOne T.K (.ref (T.cl c)) u = some b
theorem exv_at {H : Hp} {F : Addr → Prop} {v : V} {c : Nat} {fs : List (Str × Int)} (h : Top T H F v (.exv c fs)) : ∃ a d, v = .ref a ∧ H a = some (excO a (.ref (T.cl c)) d) ∧ XDict H d (fs.map fun p => (p.1, V.int p.2)) ∧ F a := by
  rcases h with h | ⟨_, _, h⟩
  · cases h with
    | exv s e x => exact ⟨_, _, rfl, e, x.imp (fun ⟨z1, z2⟩ => ⟨z1, by rw [z2]; rfl⟩) fun ⟨dx, z1, _, z2⟩ => ⟨dx, z1, z2⟩, s⟩
  · cases h
theorem de_isX {u : Value} {gf : D → Option D} (hK : X.K = T.K) (hgl : Gl X "isinstance") (hm0 : X.mg "isinstance" = none) (hgx : Gl X x) (hdb : (x == ("__debug__" : Str)) = false) (hm : NmC X x u) (hp : plainArg a = true)
    (hG : ∀ y d, gf y = some d → IsOk T u y d) (ha : DE X T Γ XE qa a fa) :
    DE X T Γ XE .fresh (.Call (.Name "isinstance" p) [a, .Name x p2] [] pos) fun env => (fa env).bind fun y => ofO (gf y) := by
  obtain ⟨ta, pa, sa⟩ := ha
  obtain ⟨cv, cu, pc, _⟩ := pe_nmc (p := p2) hgx hdb hm
  refine ⟨_, pe_callB call_isX hgl hm0 (by decide +kernel) (pa_cons pa (pa_cons pc pa_nil (starEach_cons rfl)) (starEach_cons hp)) (by decide) (by decide) (starEach_cons hp) (backTo_none (by simp [plainArg])), fun H0 F0 σ H F env Q s h => ?_⟩
  refine sa.top s h fun d1 F1 H1 v1 x1 t1 r1 h1 => ?_
  cases e : gf d1 with
  | none => rw [e] at h1; exact h1.elim
  | some d =>
    rw [e] at h1
    rcases hG _ _ e with ⟨c, fs, b, rfl, rfl, ty, kt⟩ | ⟨c, fs, b, rfl, rfl, ty, kt⟩
    · obtain ⟨y, dx, vs, rfl, ey, _⟩ := t1.obj
      exact .inl ⟨.ref y, cv, .ref (T.cl c), u, b, rfl, cu, by rw [hK]; exact .base (.ins ey ty.cl ty.ha ty.hn ty.ht ty.hm), by rw [hK]; exact kt, Go.now (Go.back (d := .bl b) x1 h1) .bl⟩
    · obtain ⟨y, d, rfl, ey, xd, _⟩ := exv_at t1
      exact .inr ⟨y, T.cl c, cv, u, d, _, b, rfl, cu, ey, xd, by rw [hK]; exact ty, by rw [hK]; exact kt, Go.now (Go.back (d := .bl b) x1 h1) .bl⟩
/-- isinstance(e, (A, B, ..)) of a caught exception -/
def IsTOk (T : Tab) (us : List Value) (y d : D) : Prop := ∃ c fs b, y = .exv c fs ∧ d = .bl b ∧ ExcC T.K (T.cl c) ∧ PySem.W.kitAny T.K (.ref (T.cl c)) us = some b
theorem pa_cls : ∀ {ns : List (Str × Pos)} {us : List Value}, Paired (fun n u => Gl X n.1 ∧ (n.1 == ("__debug__" : Str)) = false ∧ NmC X n.1 u) ns us → ∃ cs, Paired ClsV cs us ∧ ∃ t, PA X (ns.map fun n => .Name n.1 n.2) t ∧ ∀ σ H Q, Q cs H → t σ H Q
  | _, _, .nil => ⟨[], .nil, _, pa_nil, fun _ _ _ h => h⟩
  | _, _, .cons ⟨h1, h2, h3⟩ r => by
    obtain ⟨c, cu, pc, _⟩ := pe_nmc h1 h2 h3
    obtain ⟨cs, k, t, pt, ht⟩ := pa_cls r
    exact ⟨c :: cs, .cons cu k, _, pa_cons pc pt (starEach_cons rfl), fun σ H Q h => ht σ H _ h⟩
theorem de_isXT {ns : List (Str × Pos)} {us : List Value} {gf : D → Option D} {j : Nat} (hK : X.K = T.K) (hgl : Gl X "isinstance") (hm0 : X.mg "isinstance" = none) (hns : Paired (fun n u => Gl X n.1 ∧ (n.1 == ("__debug__" : Str)) = false ∧ NmC X n.1 u) ns us) (hl : ns.length ≤ 1000) (hp : plainArg a = true)
    (hG : ∀ y d, gf y = some d → IsTOk T us y d) (ha : DE X T Γ XE qa a fa) :
    DE X T Γ XE .fresh (.Call (.Name "isinstance" p) [a, .Tuple (ns.map fun n => .Name n.1 n.2) j p2] [] pos) fun env => (fa env).bind fun y => ofO (gf y) := by
  obtain ⟨ta, pa, sa⟩ := ha
  obtain ⟨cs, k, t, pt, ht⟩ := pa_cls hns
  refine ⟨_, pe_callB call_isXT hgl hm0 (by decide +kernel) (pa_cons pa (pa_cons (pe_tup pt) pa_nil (starEach_cons rfl)) (starEach_cons hp)) (by decide) (by decide) (starEach_cons hp) (backTo_none (by simp [plainArg])), fun H0 F0 σ H F env Q s h => ?_⟩
  refine sa.top s h fun d1 F1 H1 v1 x1 t1 r1 h1 => ?_
  cases e : gf d1 with
  | none => rw [e] at h1; exact h1.elim
  | some d =>
    rw [e] at h1
    obtain ⟨c, fs, b, rfl, rfl, ty, kt⟩ := hG _ _ e
    obtain ⟨y, d, rfl, ey, xd, hy⟩ := exv_at t1
    refine ht σ H1 _ ?_
    have hlen : cs.length ≤ 1000 := by rw [Paired.length k, ← Paired.length hns]; exact hl
    refine ⟨by rw [sizeLine_eq]; omega, fun tp htp => ?_⟩
    have x2 : Ext F1 H1 F1 (upd H1 tp (.tup cs)) := Ext.laid htp
    refine ⟨y, T.cl c, tp, cs, us, d, _, b, rfl, upd_same, k, x2.keep _ _ ey rfl, xd.imp (fun z => z) fun ⟨dx, z1, z2⟩ => ⟨dx, z1, x2.keep _ _ z2 rfl⟩, by rw [hK]; exact ty, by rw [hK]; exact kt, Go.now (Go.back (d := .bl b) (x1.trans x2) h1) .bl⟩
/-- o.f, o an object or a caught exception -/
def AtOk (T : Tab) (m : Str) (x d : D) : Prop := (∃ c fs, x = .obj c fs ∧ fs.lookup m = some d ∧ Cls T.K (T.cl c) ∧ NoAttr T.K (T.cl c) m) ∨ ∃ c fs i, x = .exv c fs ∧ fs.lookup m = some i ∧ d = .int i ∧ XfC T.K (T.cl c) ∧ PySem.W.findIn T.K (.ref (T.cl c)) m = some none
theorem lookup_ints (m : Str) : ∀ (fs : List (Str × Int)) (i : Int), fs.lookup m = some i → (fs.map fun p => (p.1, V.int p.2)).lookup m = some (V.int i)
  | [], _, e => by cases e
  | (k, v) :: r, i, e => by
    rw [List.map_cons, List.lookup_cons]
    rw [List.lookup_cons] at e
    cases z : m == k with
    | true => rw [z] at e; cases e; rfl
    | false => rw [z] at e; exact lookup_ints m r i e
theorem de_attrX {m : Str} {g : List D → Option D} {o : Expr} {fo : Ev → R D} (hK : X.K = T.K) (hg : ∀ x d, g [x] = some d → AtOk T m x d)
    (ho : DE X T Γ XE qb o fo) (hx : ∀ env c fs, fo env ≠ .exc c fs) (hb : attributeBase o m X.env (eval o X.env) = eval o X.env) : DE X T Γ XE .clean (.Attribute o m pos) fun env => (fo env).bind fun x => ofO (g [x]) := by
  obtain ⟨to, po, so⟩ := ho
  refine ⟨fun σ H Q => tFld X.K to m σ H Q ∨ tXfA X.K m to σ H Q, ⟨fun pins s σ H Q I h => h.elim ((pe_fld po hb).run pins s σ H Q I) ((pe_xfA po hb).run pins s σ H Q I)⟩, fun H0 F0 σ H F env Q r h => ?_⟩
  dsimp only at h
  cases e0 : fo env with
  | bad => rw [e0] at h; exact h.elim
  | exc c fs => exact absurd e0 (hx _ _ _)
  | ok x0 =>
    rw [e0, R.bind_ok] at h
    cases e : g [x0] with
    | none => rw [e] at h; exact h.elim
    | some d =>
      rw [e] at h
      have h : Go T .clean F H Q d := h
      rcases hg _ _ e with ⟨c, fs, rfl, l, h2, h3⟩ | ⟨c, fs, i, rfl, l, rfl, h2, h3⟩
      · left
        refine so H0 F0 σ H F env _ r ?_
        rw [e0]
        intro F1 H1 v1 x1 rv
        rcases rv.top with t1 | ⟨_, _, t1⟩
        · obtain ⟨y, dx, vs, rfl, ey, fr⟩ := t1.objAt
          obtain ⟨v, lv, rv⟩ := (FReps.lookup m fr).2 d l
          rw [hK]
          exact ⟨y, _, dx, vs, v, rfl, ey, h2, h3, lv, Go.now (q := .clean) (Go.back x1 h) rv⟩
        · cases t1
      · right
        refine so H0 F0 σ H F env _ r ?_
        rw [e0]
        intro F1 H1 v1 x1 rv
        obtain ⟨y, dd, rfl, ey, xd, _⟩ := exv_at rv.top
        rw [hK]
        exact ⟨y, _, dd, _, _, rfl, ey, xd, h2, h3, lookup_ints m fs i l, Go.now (q := .clean) (Go.back x1 h) (show Rep T _ _ _ _ from .int i)⟩
/-- try: x = e (or e) / except C: y = b -/
theorem ds_tryB {y : Str} {C : Addr} {i : Option Nat} {j k : Nat} {np yp bp apos pos' : Pos} {body : Stmt} {b : Bool} {hd : List D → Option D} {fx : Ev → R D} {Γe : List Mo} (hK : X.K = T.K) (hs : X.stack = X.env :: X.outer) (hf : X.env.frame = some X.env.locals) (hN : X.N.Nodup)
    (hj : X.N[j]? = some y) (hly : X.env.kindOf y = some .local) (hlj : j < Γ.length) (hc : Names X x (.ref C))
    (hh : ∀ c fs, hd [.exv c fs] = some (.bl true) → PySem.W.exmOne T.K (.ref (T.cl c)) (.ref C) = some true)
    (hsw : swapsWith (.Constant (.bool b) k bp) (some (.Name y yp)) apos.line X.env = pure false)
    (hmx : ∀ pn xe XE, TakesX (X.tr pn xe) T XE → PassesOwn (model X.prog X.w) X.A X.env xe → ∃ t, PS (X.tr pn xe) body t ∧ ∀ H0 F0 σ H F env (D : Ends), SR T Γ H0 F0 F H env σ → wpR (fx env) (fun d => ∀ F' H' σ', Ext F H F' H' → SR T Γ' H0 F0 F' H' (setO i d env) σ' → D.nx σ' H') (GoX XE σ F H) → t D σ H)
    (hw1 : wkM Γ' Γe = true) (hw2 : wkM (Γ.set j .own) Γe = true) :
    DS X T Γ Γe Γb XE qb (.Try [body] [.ExceptHandler (some (.Name x np)) none [.Assign [.Name y yp] (.Constant (.bool b) k bp) apos] pos'] [] [] pos)
      fun env => tryD (fx env) (fun d => .ok (setO i d env, .nx)) fun c fs => catchD hd c fs fun _ => .ok (env.set j (some (.bl b)), .nx) := by
  have pre : ∀ (W : WX) (pn : List (Addr × Obj)) (xe : Value → Shared → Prop), Takes (X.tr pn xe) W → PassesOwn (model X.prog X.w) X.A X.env xe → PSs (X.tr pn xe) [body] (fun D σ H => ∃ H0 F0 F env, SR T Γ H0 F0 F H env σ ∧ wpR (fx env) (fun d => ∀ F' H' σ', Ext F H F' H' → SR T Γ' H0 F0 F' H' (setO i d env) σ' → D.nx σ' H') (fun c fs => ∀ F' H' d, Ext F H F' H' → XD T H' F' c fs d → W (.ref (T.cl c)) d σ H')) := by
    intro W pn xe tk pa
    obtain ⟨t, pt, st⟩ := hmx pn xe (fun c fs σ F H => ∀ d, XD T H F c fs d → W (.ref (T.cl c)) d σ H) ⟨W, tk, fun c fs σ F H d g xd => g d xd⟩ pa
    have run := pss_cons pt pss_nil
    refine ⟨fun pins s σ H D I ⟨H0, F0, F, env, r, h⟩ => run.run pins s σ H D I (st H0 F0 σ H F env _ r (wpR_mono h (fun d g => g) fun c fs g F' H' x d xd => g F' H' d x xd))⟩
  refine ⟨_, ps_try_only (Wout := fun _ _ _ _ => False) (b₀ := .Assign [.Name y yp] (.Constant (.bool b) k bp) apos) (suite := []) hs hf hc takes0 pre (fun a oe cls d pn _ _ => pss_cons (ps_set (X := X.suite a ((a, oe) :: pn)) hN hj (.inl hly) pe_bl hsw (.inr hly)) pss_nil), fun H0 F0 σ H F env D r h => ?_⟩
  refine ⟨H0, F0, F, env, r, ?_⟩
  unfold tryD at h
  dsimp only at h
  cases e : fx env with
  | bad => rw [e] at h; exact h.elim
  | ok d =>
    rw [e] at h
    intro F' H' σ' x1 r1
    have h : ∀ F' H' σ', Fz F H F' H' → SR T Γe H0 F0 F' H' (setO i d env) σ' → D.nx σ' H' := h
    obtain ⟨F2, s2, r2⟩ := r1.weak hw1
    exact h F2 H' _ (x1.fz.trans ⟨s2, fun _ _ _ z _ => z⟩) r2
  | exc c fs =>
    rw [e] at h
    intro F' H' d x1 ⟨flds, ef, xf⟩
    subst ef
    unfold catchD at h
    dsimp only at h
    split at h
    · rename_i e2
      refine ⟨true, hK ▸ hh c flds e2, fun _ nb _ => ?_, nofun⟩
      have h : ∀ F' H' σ', Fz F H F' H' → SR T Γe H0 F0 F' H' (env.set j (some (.bl b))) σ' → D.nx σ' H' := h
      have r1 := SR.asg (q := .fresh) (d := .bl b) (v := .bl b) hlj (by decide) r (r.ext' x1) x1 (ResOk.bl)
      obtain ⟨F2, s2, r2⟩ := r1.weak hw2
      exact h F2 H' _ (x1.fz.trans ⟨s2, fun _ _ _ z _ => z⟩) r2
    · exact h.elim
end
end Ev

set_option maxHeartbeats 4000000
/-! Ev: raise of a class whose __init__ keeps ints as fields -/
namespace Ev
open PySem PySem.Spec PyProof.Rows L2
variable [Tbs]
/-- the fields, the last one first -/
def xfs (nms : List Str) (ns : List Int) : List (Str × Int) := (nms.zip ns).reverse
def xfV (fs : List (Str × Int)) : List (Str × V) := fs.map fun p => (p.1, V.int p.2)
/-- the promise of the __init__ of the class C of exceptions -/
def spXi (C : Addr) (nms : List Str) : Sp := fun vs H Q _ => ∃ (a : Addr) (Hb : Hp) (ns : List Int), vs = .ref a :: ns.map .int ∧ ns.length = nms.length ∧ Hb a = none ∧ H = upd Hb a (exo a C none) ∧
  ∀ (H' : Hp) (d : Addr), Hb d = none → d ≠ a → H' a = some (exo a C (some d)) → H' d = some (exd d (xfV (xfs nms ns))) → (∀ b, b ≠ a → b ≠ d → H' b = Hb b) → Q .non H'
theorem spXi_len {C : Addr} {nms : List Str} {vs : List V} {H : Hp} {Q : VK} {E : XK} (h : spXi C nms vs H Q E) : vs.length = nms.length + 1 := by
  obtain ⟨a, Hb, ns, rfl, e, _⟩ := h
  rw [List.length_cons, List.length_map, e]
section
variable {X : Cx} {T : Tab} {Γ Γ' Γb : List Mo} {XE : XT} {q qb : Qu} {e : Expr} {es : List Expr} {pos pos2 p : Pos} {fs : Ev → R (List D)} {x : Str}
theorem ints_of {H : Hp} {F : Addr → Prop} : ∀ {ms : List Mo} {vs : List V} {ns : List Int}, ms.all (fun m => decide (m = .brw)) = true → ArgsOk T H F ms vs (ns.map D.int) → vs = ns.map V.int
  | [], _, [], _, .nil => rfl
  | m :: ms, _, n :: ns, hm, .cons h t => by
    rw [List.all_cons, Bool.and_eq_true, decide_eq_true_eq] at hm
    obtain ⟨rfl, hm⟩ := hm
    have h : Top T H F _ (.int n) := h
    rw [h.int, ints_of hm t]
    rfl
/-- raise C(..) -/
theorem ds_raiseI {c k : Nat} {f : Addr} {fd : FuncData} {ps nms : List Str} {ms : List Mo} {g : List D → Option D} (hc : X.calm = true) (tk : TakesX X T XE) (O : OexC X.K (T.cl c)) (iC : PySem.W.findIn X.K (.ref (T.cl c)) "__init__" = some (some (.ref f))) (tI : PySem.W.typeIn X.K (.ref f) = some (.type "function"))
    (Fn : FnOk X.prog X.w X.K X.mg X.base CX0 k f fd ps (spXi (T.cl c) nms)) (hr : Room (k + 1) X.A) (hb : Binds X.K fd ps []) (hm : X.mg x = some (.ref (T.cl c))) (hg : Gl X x) (hdb : (x == ("__debug__" : Str)) = false)
    (hms : ms.all (fun m => decide (m = .brw)) = true) (hG : ∀ l d, g l = some d → ∃ ns : List Int, l = ns.map D.int ∧ ns.length = nms.length ∧ d = .exv c (xfs nms ns)) (hl : nms.length ≤ 900)
    (hp : plainArg e = true) (hps : es.all plainArg = true) (ha : DM X T Γ XE ms (e :: es) fs) : DS X T Γ Γ' Γb XE qb (.Raise (some (.Call (.Name x p) (e :: es) [] pos2)) none pos) fun env => (fs env).bind fun ds => raiseD (g ds) := by
  obtain ⟨ta, pa, s⟩ := ha
  obtain ⟨W, tk, hW⟩ := tk
  refine ⟨_, ps_raise hc tk (pmk_oex O iC tI Fn hr hb .nil pass0 hg hm pa hdb (starEach_cons hp) (backTo_none hps)), fun H0 F0 σ H F env D r h => ?_⟩
  show tMkO (T.cl c) (spXi (T.cl c) nms) [] ta σ H fun cls d H' => W cls d σ H'
  refine s H0 F0 σ H F env _ r ?_
  dsimp only at h
  cases e0 : fs env with
  | bad => rw [e0] at h; exact h.elim
  | exc c fs' => rw [e0] at h; exact GoS.to r.ext c fs' h
  | ok ds =>
    rw [e0, R.bind_ok] at h
    intro F2 H2 vs x2 r2
    unfold raiseD at h
    split at h
    · rename_i c' fl eg
      obtain ⟨ns, rfl, hn, ed⟩ := hG _ _ eg
      cases ed
      have ev := ints_of hms r2
      subst ev
      have h : ∀ σ F' H', Ext F0 H0 F' H' → XE c [.exv c (xfs nms ns)] σ F' H' := h
      refine ⟨by rw [List.length_map]; omega, fun a na => ⟨a, H2, ns, by rw [List.append_nil], hn, na, rfl, fun H' d nd ne ea ed hb => ?_⟩⟩
      refine ⟨rfl, d, xfV (xfs nms ns), ea, ed, nd, ?_⟩
      have eH : upd (del H' a) d (.xd (xfV (xfs nms ns))) = upd H2 d (.xd (xfV (xfs nms ns))) := by
        funext b
        by_cases h1 : b = d
        · subst h1; rw [upd_same, upd_same]
        · rw [upd_ne h1, upd_ne h1]
          by_cases h2 : b = a
          · subst h2; rw [del_same, na]
          · rw [del_ne h2, hb b h2 h1]
      rw [eH]
      have x3 : Ext F2 H2 (fun b => F2 b ∨ b = d) (upd H2 d (.xd (xfV (xfs nms ns)))) := Ext.laidF nd
      exact hW c _ σ _ _ _ (h σ _ _ ((r.ext.trans x2).trans x3)) ⟨_, rfl, .inr ⟨d, rfl, .inr rfl, upd_same⟩⟩
    · exact h.elim
/-- C.__init__(self, ..), C an own class that has it from ValueError -/
theorem pe_heinit {C : Addr} {mc : Value} {ta : TA} {pl : Sem Bool} {apos : Pos} (hg : Gl X x) (hm : X.mg x = some (.ref C)) (r : ClX.CRead X.K C mc) (at_ : PySem.W.findCls X.K (.ref C) mc "__init__" = some (.val (.builtin "ValueError.__init__"))) (ha : PA X (e :: es) ta)
    (hdb : (x == ("__debug__" : Str)) = false) (hst : starEach (e :: es) X.env = (false, eval e X.env) :: starEach es X.env) (hpl : (backTo pos (starEach es X.env)).any (·.1) = false)
    (ht : eval (.Call (.Attribute (.Name x p) "__init__" apos) (e :: es) [] pos) X.env = (do
      let ov ← eval (.Name x p) X.env
      standAt apos.atName
      let (f, first) ← holding [ov] (getMethod ov "__init__" pl)
      callWith pos f first (backTo pos (starEach (e :: es) X.env)) (backToKw pos (keywordEach [] X.env)))) :
    PE X (.Call (.Attribute (.Name x p) "__init__" apos) (e :: es) [] pos) (tVeI X.K ta) := by
  constructor
  intro pins s σ H Q I h
  refine PySem.W.methodCall_KW (pl := pl) (ld_glob I hg hm ?_ hdb) ht
  refine PySem.W.method_cls I.kIn r.ga (PySem.W.cls_value I.kIn r.rd at_ (by decide +kernel) ?_)
  refine PyProof.Rows.callWith_method1 (first := []) (thn (ha.run pos pins _ σ H _ (I.tok _) h) fun us s1 way => ?_) hst hpl
  obtain ⟨vs, H1, J, rel, a, D, ws, rfl, hl, T, ea, q⟩ := way
  cases rel with
  | @cons _ u0 _ ur ra rr =>
    obtain rfl : u0 = Value.ref a := ra
    exact oinit_ok T J ea (by rw [← Paired.length rr, sizeLine_eq]; omega) fun s' I2 => ⟨.non, H1, I2, rfl, q⟩
end
end Ev

set_option maxHeartbeats 4000000
/-! Ev: the least of a list of triples -/
namespace Ev
open PySem PySem.Spec PyProof.Rows L2 PySem.W
variable [Tbs]
def trP (t : Int × Int × Int) : PyData := .tuple [.int t.1, .int t.2.1, .int t.2.2]
theorem eqv_int (i j : Int) : PyData.eqv (.int i) (.int j) = decide (i = j) := by
  unfold PyData.eqv
  by_cases h : i = j
  · subst h; simp
  · simp [h]
theorem lt_trP (t u : Int × Int × Int) : dataLt (trP t) (trP u) = ltT t u := by
  unfold trP ltT
  rw [dataLt_tuple, dataLt_cons rfl, dataLt_cons rfl, dataLt_cons rfl, eqv_int, eqv_int, eqv_int, dataLt_int, dataLt_int, dataLt_int]
  have e0 : lexLt itemOrd (keyToksAll []) (keyToksAll []) = false := lex_irrefl _
  rw [e0]
  by_cases h1 : t.1 = u.1
  · by_cases h2 : t.2.1 = u.2.1
    · by_cases h3 : t.2.2 = u.2.2
      · simp [h1, h2, h3]
      · simp [h1, h2, h3]
    · simp [h1, h2]
  · simp [h1]
theorem minD_trP : ∀ (r : List (Int × Int × Int)) (t : Int × Int × Int), minD (trP t) (r.map trP) = trP (minTr t r)
  | [], t => rfl
  | u :: r, t => by
    have ih := minD_trP r (if ltT u t then u else t)
    unfold minD at ih ⊢
    unfold minTr
    rw [List.map_cons, List.foldl_cons, ← ih, lt_trP]
    congr 1
    split <;> rfl
theorem trP_inj {t u : Int × Int × Int} (h : trP t = trP u) : t = u := by
  obtain ⟨a, b, c⟩ := t
  obtain ⟨x, y, z⟩ := u
  unfold trP at h
  simpa using h
theorem alike_trP (ts : List (Int × Int × Int)) : AlikeAll (ts.map trP) := by
  refine ⟨fun x hx y hy => ?_, fun x hx => ?_⟩
  · obtain ⟨t, _, rfl⟩ := List.mem_map.mp hx
    obtain ⟨u, _, rfl⟩ := List.mem_map.mp hy
    rfl
  · obtain ⟨t, _, rfl⟩ := List.mem_map.mp hx
    intro z; cases z
theorem depth_trP : ∀ ts : List (Int × Int × Int), PyData.depthAll (ts.map trP) ≤ 2
  | [] => by decide
  | t :: r => by
    rw [List.map_cons]
    unfold PyData.depthAll
    refine Nat.max_le.mpr ⟨?_, depth_trP r⟩
    show PyData.depth (.tuple [.int t.1, .int t.2.1, .int t.2.2]) ≤ 2
    simp [PyData.depth, PyData.depthAll]
/-- min(xs), triples of ints -/
def rMinT (K : PySem.W.Frag) : List V → Hp → VK → Prop := fun vs H Q => ∃ a ws t r, vs = [.ref a] ∧ SqL K H a ws ∧ DpAll K H ws ((t :: r).map trP) ∧ ∀ (i : Nat) y, ws[i]? = some y → (t :: r)[i]? = some (minTr t r) → Q y H
theorem vals_at : ∀ {ws : List V} {us : List Value} {i : Nat} {u : Value}, Vals ws us → us[i]? = some u → ∃ w, ws[i]? = some w ∧ RelV w u
  | _, _, _, _, .nil, e => by simp at e
  | _, _, 0, _, .cons h _, e => by simp at e; subst e; exact ⟨_, rfl, h⟩
  | _, _, i + 1, _, .cons _ t, e => by
    obtain ⟨w, h1, h2⟩ := vals_at t (by simpa using e)
    exact ⟨w, by simpa using h1, h2⟩
theorem cr_minT {X : Cx} (hc : X.calm = true) (hu : X.A.units + 65 < cLine) : CallR X (.builtin "min") (rMinT X.K) := by
  intro pins s σ H vs us Q I rel h
  obtain ⟨a, ws, t, r, rfl, hs, hd, q⟩ := h
  cases rel with
  | cons ru rn =>
    cases rn
    rename_i u0
    obtain rfl : u0 = Value.ref a := ru
    obtain ⟨its, vi, pl, _⟩ := I.list hs
    obtain ⟨as, rd⟩ := Dp.readsAll I _ ws its hd vi
    refine min_list_data (I.ok.hd hc) pl.isList rd (alike_trP (t :: r)) (by have := depth_trP (t :: r); rw [List.map_cons] at this; omega) fun i v h' tk bs ev rv kp => ?_
    have ev : its[i]? = some v := by simpa using ev
    obtain ⟨w, ew, rw_⟩ := vals_at vi ev
    obtain ⟨bs2, r2, hi, _, _⟩ := readsAll_at rd i v ev
    obtain ⟨e1, _⟩ := reads_det (fun b o z _ => kp b o z) r2 rv
    rw [minD_trP] at e1
    have hi2 : i < (t :: r).length := by simpa using hi
    rw [List.getD_eq_getElem?_getD, List.getElem?_map, List.getElem?_eq_getElem hi2] at e1
    exact ⟨w, H, I.kept kp, rw_, q i w ew (by rw [List.getElem?_eq_getElem hi2, trP_inj (show trP (minTr t r) = trP _ from e1)])⟩
section
variable {X : Cx} {T : Tab}
theorem tripsD_data : ∀ {ds : List D} {ts : List (Int × Int × Int)}, tripsD ds = some ts → ds = ts.map trD ∧ D.datas ds = some (ts.map trP)
  | [], ts, e => by unfold tripsD at e; cases e; exact ⟨rfl, rfl⟩
  | d :: ds, ts, e => by
    unfold tripsD at e
    split at e
    · rename_i t r e1 e2
      cases e
      obtain ⟨h1, h2⟩ := tripsD_data e2
      have e3 : d = trD t ∧ d.data = some (trP t) := by
        unfold tripD at e1
        split at e1
        · cases e1; exact ⟨rfl, rfl⟩
        · cases e1
      refine ⟨by rw [h1, e3.1]; rfl, ?_⟩
      unfold D.datas
      rw [e3.2, h2]
      rfl
    · cases e
theorem cal_minT (hK : X.K = T.K) : CalOk T .fresh (rMinT X.K) minTD := by
  constructor
  · intro ds c fs; exact txD_nx .min ds c fs
  · intro H F vs ds d Q tt hd e h
    unfold minTD at e
    split at e
    · obtain ⟨v, rfl, t⟩ := tt.one
      obtain ⟨ts, e1, e⟩ := bind_ok_of e
      unfold minTs at e
      split at e
      · cases e
      · rename_i t0 r
        injection e with e; subst e
        obtain ⟨a, ws, rfl, h1, h2⟩ := t.lst
        obtain ⟨e2, e3⟩ := tripsD_data (ofO_ok e1)
        refine ⟨a, ws, t0, r, rfl, SqL.of h1, hK ▸ h2.data e3, fun i y hy ht => ?_⟩
        obtain ⟨x, hx, rx⟩ := h2.getV hy
        rw [e2, List.getElem?_map, ht] at hx
        injection hx with hx
        subst hx
        exact h F H _ (Ext.refl _ _) (.sc rfl rx)
    · cases e
end
end Ev

set_option maxHeartbeats 2000000
namespace Ev
open PySem PySem.Spec PyProof.Rows L2
variable [Tbs]
/-! ### texts: find, join, split, signs -/
theorem charsD_nx (x : D) : ∀ c fs, charsD x ≠ .exc c fs := by
  intro c fs; unfold charsD; split <;> (intro z; cases z)
section
variable {X : Cx} {T : Tab} {Γ : List Mo} {XE : XT} {q qa qb : Qu} {a b : Expr} {fa fb : Ev → R D} {pos apos : Pos} {tg : Expr} {st : Bool}
theorem de_find (ha : DE X T Γ XE qa a fa) (hb : DE X T Γ XE qb b fb) (hbs : attributeBase a "find" X.env (eval a X.env) = eval a X.env) (hl : (apos.endLine == pos.line) = true) (hp : plainArg b = true) (hbx : ∀ env c fs, fb env ≠ .exc c fs) :
    DE X T Γ XE .fresh (.Call (.Attribute a "find" apos) [b] [] pos) fun env => (fa env).bind fun x => (fb env).bind fun y => txD .find [x, y] := by
  obtain ⟨ta, pa, sa⟩ := ha
  obtain ⟨tb, pb, sb⟩ := hb
  refine ⟨_, pe_m1 PySem.F.slot_str_find PySem.F.type_str_find mt_find pa pb (starEach_cons hp) hbs hl, fun H0 F0 σ H F env Q s h => ?_⟩
  refine sa.top s h fun d1 F1 H1 v1 x1 t1 r1 h1 => ?_
  cases d1 with
  | str x =>
    cases t1.str
    refine ⟨⟨x, rfl⟩, ?_⟩
    refine sb.top r1 h1 fun d2 F2 H2 v2 x2 t2 r2 h2 => ?_
    cases d2 with
    | str y =>
      cases t2.str
      have h2 : Go T .fresh F2 H2 Q (.int (Txt.find x y)) := Go.back (x1.trans x2) (show Go T .fresh F H Q (.int (Txt.find x y)) from h2)
      exact ⟨x, y, rfl, rfl, h2 F2 H2 _ (Ext.refl _ _) (.sc rfl (.int _))⟩
    | _ => exact h2.elim
  | _ =>
    exact (False.elim (by
      cases e : fb env with
      | exc c fs => exact hbx _ _ _ e
      | bad => rw [e] at h1; exact h1
      | ok y => rw [e, R.bind_ok] at h1; exact h1))
theorem strsD_ok : ∀ {ds : List D} {ys : List Str}, strsD ds = some ys → ds = ys.map D.str
  | [], ys, e => by unfold strsD at e; cases e; rfl
  | d :: ds, ys, e => by
    unfold strsD at e
    split at e
    · rename_i x r e1
      cases e
      rw [strsD_ok e1]
      rfl
    · cases e
theorem reps_strs {H : Hp} {F : Addr → Prop} : ∀ {ws : List V} {ys : List Str}, Reps T H F ws (ys.map D.str) → ws = ys.map V.str
  | _, [], .nil => rfl
  | _, _ :: ys, .cons h t => by
    cases h
    rw [reps_strs t]
    rfl
theorem reps_ofStrs {H : Hp} {F : Addr → Prop} : ∀ {ys : List Str}, Reps T H F (ys.map V.str) (ys.map D.str)
  | [] => .nil
  | _ :: _ => .cons (.str _) reps_ofStrs
theorem de_join (hK : X.K = T.K) (ha : DE X T Γ XE qa a fa) (hb : DE X T Γ XE qb b fb) (hbs : attributeBase a "join" X.env (eval a X.env) = eval a X.env) (hl : (apos.endLine == pos.line) = true) (hp : plainArg b = true) (hbx : ∀ env c fs, fb env ≠ .exc c fs) :
    DE X T Γ XE .fresh (.Call (.Attribute a "join" apos) [b] [] pos) fun env => (fa env).bind fun x => (fb env).bind fun y => txD .join [x, y] := by
  obtain ⟨ta, pa, sa⟩ := ha
  obtain ⟨tb, pb, sb⟩ := hb
  refine ⟨_, pe_join pa pb (starEach_cons hp) hbs hl, fun H0 F0 σ H F env Q s h => ?_⟩
  refine sa.top s h fun d1 F1 H1 v1 x1 t1 r1 h1 => ?_
  cases d1 with
  | str x =>
    cases t1.str
    refine ⟨⟨x, rfl⟩, ?_⟩
    refine sb.top r1 h1 fun d2 F2 H2 v2 x2 t2 r2 h2 => ?_
    cases d2 with
    | lst xs =>
      obtain ⟨p, ws, rfl, k1, k2⟩ := t2.lst
      change wpR (joinSD [.str x, .lst xs]) _ _ at h2
      unfold joinSD at h2
      dsimp only at h2
      cases e : strsD xs with
      | none => rw [e] at h2; exact h2.elim
      | some ys =>
        rw [e] at h2
        change wpR (if (ys.map (·.length)).sum + ys.length * x.length ≤ 16777216 then R.ok (D.str (Txt.join x ys)) else .bad) _ _ at h2
        split at h2
        · rename_i hsz
          have h2 : Go T .fresh F2 H2 Q (.str (Txt.join x ys)) := Go.back (x1.trans x2) (show Go T .fresh F H Q (.str (Txt.join x ys)) from h2)
          have e2 := strsD_ok e
          subst e2
          have e3 := reps_strs k2
          subst e3
          exact ⟨x, p, ys, rfl, rfl, .inl (by rw [hK]; exact SqL.of k1), hsz, h2 F2 H2 _ (Ext.refl _ _) (.sc rfl (.str _))⟩
        · exact h2.elim
    | _ => exact h2.elim
  | _ =>
    exact (False.elim (by
      cases e : fb env with
      | exc c fs => exact hbx _ _ _ e
      | bad => rw [e] at h1; exact h1
      | ok y => rw [e, R.bind_ok] at h1; exact h1))
theorem de_split (ha : DE X T Γ XE qa a fa) (hb : DE X T Γ XE qb b fb) (hbs : attributeBase a "split" X.env (eval a X.env) = eval a X.env) (hl : (apos.endLine == pos.line) = true) (hp : plainArg b = true) (hbx : ∀ env c fs, fb env ≠ .exc c fs) :
    DE X T Γ XE .fresh (.Call (.Attribute a "split" apos) [b] [] pos) fun env => (fa env).bind fun x => (fb env).bind fun y => txD .split [x, y] := by
  obtain ⟨ta, pa, sa⟩ := ha
  obtain ⟨tb, pb, sb⟩ := hb
  refine ⟨_, pe_split pa pb (starEach_cons hp) hbs hl, fun H0 F0 σ H F env Q s h => ?_⟩
  refine sa.top s h fun d1 F1 H1 v1 x1 t1 r1 h1 => ?_
  cases d1 with
  | str x =>
    cases t1.str
    refine ⟨⟨x, rfl⟩, ?_⟩
    refine sb.top r1 h1 fun d2 F2 H2 v2 x2 t2 r2 h2 => ?_
    cases d2 with
    | str y =>
      cases t2.str
      change wpR (splitSD [.str x, .str y]) _ _ at h2
      unfold splitSD at h2
      dsimp only at h2
      split at h2
      · rename_i hsz
        have h2 : Go T .fresh F2 H2 Q (.lst ((Txt.split x y).map .str)) := Go.back (x1.trans x2) (show Go T .fresh F H Q (.lst ((Txt.split x y).map .str)) from h2)
        exact ⟨x, y, rfl, rfl, hsz.1, by rw [sizeLine_eq]; exact hsz.2, fun p hp => h2 F2 _ _ (Ext.laid hp) (.newL r2.dom hp reps_ofStrs)⟩
      · exact h2.elim
    | _ => exact h2.elim
  | _ =>
    exact (False.elim (by
      cases e : fb env with
      | exc c fs => exact hbx _ _ _ e
      | bad => rw [e] at h1; exact h1
      | ok y => rw [e, R.bind_ok] at h1; exact h1))
theorem itOk_str {F1 : Addr → Prop} {P : Hp → Prop} (z : Str) : ItOk T (Its z) (z.cps.toList.map fun c => D.str ⟨#[c]⟩) F1 P := by
  have hl : (z.cps.toList.map fun c => D.str ⟨#[c]⟩).length = z.cps.size := by rw [List.length_map, Array.length_toList]
  refine ⟨fun _ => True, _, by rw [hl]; exact walk_str, fun _ _ => trivial, fun i H v H' F hi hp hF' y => ?_⟩
  obtain ⟨rfl, c, hc, rfl⟩ := y
  refine ⟨F, .str ⟨#[c]⟩, Ext.refl _ _, ?_, .str _⟩
  rw [List.getElem?_map, Array.getElem?_toList, hc]
  rfl
theorem di_chars (ha : DE X T Γ XE q a fa) : DI X T Γ XE st tg a fun env => (fa env).bind charsD := by
  obtain ⟨t, pa, sa⟩ := ha
  refine ⟨_, pi_str pa, fun H0 F0 σ H F env RR r h => ?_⟩
  refine sa.top (P := fun ds => ∀ F1 H1 J, Ext F H F1 H1 → ItOk T J ds F1 (Kp st H0 F1 H1) → RR J H1) r h fun d1 F1 H1 v1 x1 t1 r1 h1 => ?_
  cases d1 with
  | str z =>
    cases t1.str
    exact ⟨z, rfl, (show ∀ F1 H1 J, _ from h1) F1 H1 _ x1 (itOk_str z)⟩
  | _ => exact h1.elim
end
end Ev

set_option maxHeartbeats 2000000
namespace Ev
open PySem PySem.Spec PyProof.Rows L2
/-! ### an exception leaves a comprehension's block -/
theorem note_same {u : Value} {c d : Env} (h : c.frame = d.frame) : noteFrame u c = noteFrame u d := by
  unfold noteFrame PySem.frameOf
  rw [h]
theorem traced_but {h h2 B : Heap} {a C : Addr} {Z : Obj → Prop} {fl : Value} {oC : Obj} (hC : h.get? C = some oC) (hn : ∀ vs, oC.data ≠ .fields vs) (sb : ∀ b, b ≠ C → h2.get? b = h.get? b) (t : HandSPX.TracedZ h B a Z fl) : HandSPX.TracedZ h2 (B.hide C) a Z fl := by
  obtain ⟨oe, vs, T, oT, ts, t1, t2, t3, t4, t5, t6, t7, t8, t9⟩ := t
  have na : a ≠ C := fun z => by
    rw [z, hC] at t1
    injection t1 with z2
    exact hn vs (z2 ▸ t3)
  have nT : T ≠ C := fun z => by
    rw [z, hC] at t7
    injection t7 with z2
    exact hn ts (z2 ▸ t8)
  refine ⟨oe, vs, T, oT, ts, by rw [sb a na]; exact t1, t2, t3, t4, ?_, t6, by rw [sb T nT]; exact t7, t8, t9⟩
  cases q : (B.hide C).get? T with
  | none => rfl
  | some o =>
    have := Heap.of_hide q
    rw [t5] at this
    cases this
theorem held_but {h h2 B : Heap} {a C L : Addr} {Z : Obj → Prop} {l : List Env} {oC : Obj} (hC : h.get? C = some oC) (hn : ∀ vs, oC.data ≠ .fields vs) (sb : ∀ b, b ≠ C → h2.get? b = h.get? b) (hl : C ∉ frs l) (x : HandSPX.HeldZ B l a Z L h) : HandSPX.HeldZ (B.hide C) l a Z L h2 := by
  obtain ⟨x1, x2, x3, x4⟩ := x
  refine ⟨fun b o e => ?_, ?_, ?_, traced_but hC hn sb x4⟩
  · have nb : b ≠ C := fun z => by
      rw [z, Heap.hide_self] at e
      cases e
    rw [sb b nb]
    exact x1 b o (Heap.of_hide e)
  · cases q : (B.hide C).get? a with
    | none => rfl
    | some o =>
      have := Heap.of_hide q
      rw [x2] at this
      cases this
  · clear x4
    induction l with
    | nil => trivial
    | cons e r ih =>
      obtain ⟨y1, ⟨L', o, y2, y3, y4, y5⟩, y6⟩ := x3
      have hm : L' ∈ frs (e :: r) := by
        unfold frs
        rw [List.filterMap_cons, y2]
        exact List.mem_cons_self
      have nL : L' ≠ C := fun z => hl (z ▸ hm)
      refine ⟨y1, ⟨L', o, y2, ?_, by rw [sb L' nL]; exact y4, y5⟩, ih (fun z => hl ?_) y6⟩
      · cases q : (B.hide C).get? L' with
        | none => rfl
        | some o' =>
          have := Heap.of_hide q
          rw [y3] at this
          cases this
      · unfold frs at z ⊢
        rw [List.filterMap_cons, y2]
        exact List.mem_cons_of_mem _ z
/-- what a call in the block lets out goes on in the def -/
theorem comp_fail {X : Cx} {W : WX} {E : XK} {ce : Env} {pins : List (Addr × Obj)} {σ : St} {H : Hp} {s s' : Shared} {u : Value} {m : Str → Option Value} (tk : Takes X W) (hs : X.stack = X.env :: X.outer) (hf : X.env.frame = some X.env.locals)
    (hce : ce.frame = X.env.frame) (I : Inv X pins σ H s) (fc : FpOk X pins H ce.locals) (nst : ce.locals ∉ frs X.stack) (hm : s.heap.Ns ce.locals m)
    (hE : ∀ cls d H', E cls d H' → W cls d σ H') (c : L2.CX X.prog X.w X.stack H s E u s') : notedBy (model X.prog X.w) X.A ce (CompFails (model X.prog X.w) X.A X.xe ce) u s' := by
  obtain ⟨f0, f1, f2, f3, f4, f5⟩ := fc
  obtain ⟨oC, es, ep, hC, hCd, hCr⟩ := hm
  have hCn : ∀ vs, oC.data ≠ .fields vs := fun vs z => by rw [hCd] at z; cases z
  -- the call's ways
  have c0 := c
  obtain ⟨a, B, H', cls, d, rfl, fl, hok, ub, na, os, ag, hw⟩ := c
  have bC : B.get? ce.locals = some oC := ub.keep _ _ hC f0 nst
  have hC' : s'.heap.get? ce.locals = some oC := fl.1 _ _ bC
  have c1 : L2.CX X.prog X.w X.stack H s (fun cls d H' => E cls d H' ∧ H' ce.locals = none) (.ref a) s' := ⟨a, B, H', cls, d, rfl, fl, hok, ub, na, os, ag, hw, ub.free _ _ hC f0⟩
  have x := XE.of_call (W := fun cls d σ' H' => W cls d σ' H' ∧ H' ce.locals = none) I (fun cls d H' h => ⟨hE _ _ _ h.1, h.2⟩) c1
  clear fl hok ub na os ag hw c0 c1 bC
  obtain ⟨a', B', sI, pins', σ', H2, cls', d', ea, I2, nb, up, sky, na, os, ag, w1, w2⟩ := x
  injection ea with ea
  subst ea
  have hfr : X.A.frames = some (X.env :: X.outer) := by rw [I.ok.frames, hs]
  have fin : ∀ h1, HandSPX.HeldZ B' (X.env :: X.outer) a (Zc cls' d') X.env.locals h1 → s'.heap.UpToSlots h1 → CompFails (model X.prog X.w) X.A X.xe ce (.ref a) { s' with heap := h1 } := by
    intro h1 hh up1
    obtain ⟨sl, hC1⟩ := up1 _ _ hC' hCn
    have hns : s'.heap.Ns ce.locals m := ⟨oC, es, ep, hC', hCd, hCr⟩
    refine ⟨m, up1.ns hns, fun h2 m2 _ sb => ?_⟩
    have hh2 := held_but (h2 := h2) hC1 (fun vs z => hCn vs z) sb.2 (by rw [← hs]; exact nst) hh
    obtain ⟨_, _, _, oe, vs, T, oT, ts, he, hz, hd, hv, _⟩ := hh2
    have hh2 := held_but (h2 := h2) hC1 (fun vs z => hCn vs z) sb.2 (by rw [← hs]; exact nst) hh
    unfold PySem.passOn
    refine wpAny_bind (wpAny_field he hd hv ?_)
    have nn : (Value.ref T == Value.none) = false := by simp
    simp only [nn, Bool.false_eq_true, if_false]
    rw [hce, hf]
    refine wpAny_bind (HandSPX.setFlight_onZ hh2 fun h3 hh3 up3 => ?_)
    refine wpAny_throw (tk _ _ ⟨a, B'.hide ce.locals, { sI with heap := sI.heap.hide ce.locals }, [], σ', H2, cls', d', rfl, ?_, fun b o e hb => ?_, fun b o e hn => ?_, .inr (.inr (by rw [hs]; exact hh3)), na, os, ag, w1⟩)
    · exact (I2.unpinned (pins := [])).turned (t' := sI.toks) (fun b o hb e => (Heap.hide_ne _ hb).trans e) w2 f1 f3 f4 fun p hp => f5 p (by
        rcases List.mem_append.mp hp with z | z
        · exact List.mem_append_left _ z
        · cases z)
    · have nb' : b ≠ ce.locals := fun z => by
        rw [z, Heap.hide_self] at e
        cases e
      rw [Heap.hide_ne _ nb']
      exact nb b o (Heap.of_hide e) hb
    · have nb' : b ≠ ce.locals := fun z => by
        rw [z, Heap.hide_self] at e
        cases e
      obtain ⟨s1, e1⟩ := up b o (Heap.of_hide e) hn
      obtain ⟨s2, e2⟩ := up1 b _ e1 hn
      rw [← sb.2 b nb'] at e2
      obtain ⟨s3, e3⟩ := up3 b _ e2 hn
      exact ⟨s3, e3⟩
  show wpAny _ _ (noteFrame (.ref a) ce) _ _ s'
  rw [note_same hce]
  rw [hs] at sky
  rcases sky with ⟨hB, hn, hl, oe, vs, he, hz, hd, h1⟩ | fl | hh
  · exact HandSPX.look_newZ Zc.steady hfr hl hf he hB hn hd h1 hz fin
  · exact HandSPX.looks_onZ Zc.steady hfr hf fl fin
  · exact HandSPX.againZ hf hh.2.2.2 (fin s'.heap hh (Heap.UpToSlots.refl _))
end Ev

set_option maxHeartbeats 2000000
namespace Ev
open PySem PySem.Spec PyProof.Rows L2
/-! ### a comprehension whose elements may raise -/
/-- the block, with a way out -/
abbrev blkX (X : Cx) (s : Shared) (H : Hp) (scope : Scope) (ce : Env) (fp : List Addr) (xe : Value → Shared → Prop) : Cx := { X.blk s H scope ce fp with xe := xe }
theorem inv_xe {X : Cx} {xe : Value → Shared → Prop} {pl : List (Addr × Obj)} {σ : St} {H : Hp} {s : Shared} (I : Inv X pl σ H s) : Inv { X with xe := xe } pl σ H s where
  ok := { mod := I.ok.mod, kind := I.ok.kind, glob := I.ok.glob, blt := I.ok.blt, above := I.ok.above, inj := I.ok.inj, has := I.ok.has, cab := I.ok.cab, hd := I.ok.hd, frames := I.ok.frames, stk := I.ok.stk, exf := I.ok.exf, bs := I.ok.bs, bsz := I.ok.bsz, noex := I.ok.noex, exfs := I.ok.exfs, funs := I.ok.funs, frf := I.ok.frf }
  os := I.os
  bare := I.bare
  base := I.base
  loc := I.loc
  cell := I.cell
  free := I.free
  freeC := I.freeC
  pin := I.pin
  hok := I.hok
  len := I.len
def tLcX (wi : TI) (g : TG) (te : St → TE) (vs : List Nat) : TE := fun σ H Q => tLc wi g tYes (te σ) vs σ H Q
theorem pe_lcX {X : Cx} {W : WX} {elt tg iter : Expr} {scope : Scope} {own : List (Str × Nat)} {pos : Pos} {wi : TI} {g : TG} {te : St → TE} (hc : X.calm = true) (hN : X.N.Nodup) (hs : X.stack = X.env :: X.outer) (hf : X.env.frame = some X.env.locals) (tk : Takes X W)
    (hi : PI X tg iter wi) (ok : BlkOk X.N X.env.scope scope own) (hS : ∀ x, foldedSetIterable iter X.env x = pure x)
    (hg : ∀ (s : Shared) (H : Hp) (C : Addr) (cl : List (Str × Addr)) (fp : List Addr) (xe : Value → Shared → Prop), PG (blkX X s H scope (compEnvC scope cl C X.env) fp xe) tg g)
    (he : ∀ (s : Shared) (H : Hp) (C : Addr) (cl : List (Str × Addr)) (fp : List Addr) (xe : Value → Shared → Prop) (σ : St), (∀ σ', PassesAt (L2.CX X.prog X.w) (blkX X s H scope (compEnvC scope cl C X.env) fp xe) σ' fun cls d H' => W cls d σ H') → PE (blkX X s H scope (compEnvC scope cl C X.env) fp xe) elt (te σ)) :
    PE X (.ListComp elt [⟨tg, iter, [], 0⟩] scope pos) (tLcX wi g te (own.map (·.2))) := by
  refine ⟨fun pl s0 σ H Q I h => ?_⟩
  rw [eval_ListComp]
  have fr : ∀ z ∈ scope.names, z.2 = .free → ∃ c, X.env.cells.lookup z.1 = some c := fun z hz e => (ok.free z hz e).elim (fun k => I.ok.has _ (.inl k)) fun k => I.ok.has _ (.inr k)
  refine comprehension_at (use := none) rfl hS (closure_ok fr) ok.kind (fun z hz e => by rw [ok.uniq z hz, e]) (thn (hi.run pl s0 σ H _ I h) fun xv sa ha => thn ha fun itv sb hb => ?_)
  obtain ⟨it, fp, tn, J, Hb, rfl, Ib, Tn, stb, fb, q⟩ := hb
  refine wpAny_newObj_type (newEnv_comp ?_) (by show 0 ≤ sizeLine; decide)
  generalize eD : sb.heap.objs.size = D
  have freeD : Hb D = none := Ib.hok.fresh (Nat.le_of_eq eD)
  obtain ⟨Wm, ⟨m0, w0⟩, turn⟩ := q D freeD
  generalize eS : ({ sb with heap := sb.heap.push { cls := .type "list", data := .seq ([] : List Value).toArray } } : Shared) = sc
  have Ic : Inv X pl σ (upd Hb D (.lst [])) sc := by
    subst eS
    refine Ib.laid (t' := sb.toks) (fun b o e => Heap.get?_push_of_some _ e) (Nat.le_of_eq eD) ⟨Nat.zero_le _, [], 0, .nil, ?_⟩
    subst eD
    exact Heap.get?_push_size _ rfl
  have hsc : sc.heap = sb.heap.push { cls := .type "list", data := .seq ([] : List Value).toArray } := by subst eS; rfl
  have fpl : ∀ b ∈ fp, b < sb.heap.objs.size := fun b hb => by
    obtain ⟨o, e, _⟩ := Tn.obj _ _ stb b hb
    exact Heap.lt_size e
  have fc : ∀ b ∈ fp, FpOk X pl (upd Hb D (.lst [])) b ∧ b < sc.heap.objs.size := fun b hb => by
    have lt := fpl b hb
    refine ⟨⟨?_, (fb b hb).2⟩, by rw [hsc, Heap.size_push]; exact Nat.lt_succ_of_lt lt⟩
    rw [upd_ne (by rw [← eD]; exact Nat.ne_of_lt lt)]
    exact (fb b hb).1
  have stc : tn 0 sc.heap := Tn.keep _ _ _ stb fun b _ o e => by rw [hsc]; exact Heap.get?_push_of_some _ e
  have Id := block_start Ic ok hN fc
  have Id := fun xe => inv_xe (xe := xe) Id
  have hg := fun xe => hg sc (upd Hb D (.lst [])) sc.heap.objs.size (cellsFrom (sc.heap.objs.size + 1) scope.names (cloFrom X.env.cells scope.names [])) fp xe
  have he := fun xe => he sc (upd Hb D (.lst [])) sc.heap.objs.size (cellsFrom (sc.heap.objs.size + 1) scope.names (cloFrom X.env.cells scope.names [])) fp xe σ
  have nf : ∀ b ∈ fp, (upd Hb D (.lst [])) b = none := fun b hb => (fc b hb).1.1
  show codeAny _ _ (.compStart (.ListComp elt [⟨tg, iter, [], 0⟩] scope pos) 0 (.ref it) (.ref D) (compEnvC scope (cellsFrom (sc.heap.objs.size + 1) scope.names (cloFrom X.env.cells scope.names [])) sc.heap.objs.size X.env)) (compEnds (model X.prog X.w) X.A X.xe none (EP X pl σ Q) (.ref D) (compEnvC scope (cellsFrom (sc.heap.objs.size + 1) scope.names (cloFrom X.env.cells scope.names [])) sc.heap.objs.size X.env)) { sc with heap := pushCells (sc.heap.push { cls := .type "dict", data := .dict #[] }) scope.names }
  generalize ec : compEnvC scope (cellsFrom (sc.heap.objs.size + 1) scope.names (cloFrom X.env.cells scope.names [])) sc.heap.objs.size X.env = ce at Id hg he ⊢
  have eL : ce.locals = sc.heap.objs.size := by subst ec; rfl
  have eF : ce.frame = X.env.frame := by subst ec; rfl
  generalize eH : upd Hb D (.lst []) = Hc at Ic Id hg he w0 nf fc
  generalize eX : (notedBy (model X.prog X.w) X.A ce fun e s' => compEnds (model X.prog X.w) X.A X.xe none (EP X pl σ Q) (.ref D) ce (.error e) s') = xe
  have Id := Id xe
  have hg := hg xe
  have he := he xe
  generalize eS2 : ({ sc with heap := pushCells (sc.heap.push { cls := .type "dict", data := .dict #[] }) scope.names } : Shared) = sd at Id ⊢
  have std : tn 0 sd.heap := Tn.keep _ _ _ stc fun b _ o e => by subst eS2; exact pushCells_keeps _ _ _ _ (Heap.get?_push_of_some _ e)
  -- from the block back to the def
  have back : ∀ {pb : List (Addr × Obj)} {σ' : St} {Hx : Hp} {s1 : Shared}, Inv (blkX X sc Hc scope ce fp xe) pb σ' Hx s1 → Inv X pl σ Hx s1 ∧ FpOk X pl Hx ce.locals ∧ ∃ m, s1.heap.Ns ce.locals m := fun {pb σ' Hx s1} I1 => by
    obtain ⟨m, hm, _⟩ := I1.loc
    exact ⟨Ic.call' (ch := fp) I1.os I1.base I1.hok I1.bare fun b hb => ⟨(fc b hb).1.2.2.2.1, (fc b hb).1.2.1, (fc b hb).1.2.2.2.2.1, (fc b hb).1.2.2.2.2.2⟩, Ic.fpOk (Nat.le_of_eq eL.symm) I1.free, m, hm⟩
  have pass : ∀ σ', PassesAt (L2.CX X.prog X.w) (blkX X sc Hc scope ce fp xe) σ' fun cls d H' => W cls d σ H' := by
    intro σ' pb Hx s1 u s2 I1 cx
    obtain ⟨I7, f7, m, hm⟩ := back I1
    show xe u s2
    rw [← eX]
    refine comp_fail tk hs hf eF I7 f7 (fun z => ?_) hm (fun _ _ _ h => h) cx
    rw [hs] at z
    unfold frs at z
    rw [List.filterMap_cons, hf] at z
    rcases List.mem_cons.mp z with z | z
    · exact f7.2.1 z
    · exact f7.2.2.1 z
  have pe := he pass
  have still : ∀ {σ' : St} {H' : Hp} {s' : Shared}, Inv (blkX X sc Hc scope ce fp xe) [] σ' H' s' → (∀ b ∈ fp, H' b = none) → ∀ b ∈ fp, FpOk (blkX X sc Hc scope ce fp xe) [] H' b := fun {σ' H' s'} I' hn b hb =>
    ⟨hn b hb, (I'.ok.exf b hb).1, I'.ok.exfs b hb, .inl hb, fun x c e => (I'.ok.exf b hb).2 x c e, fun p hp => by cases hp⟩
  have loop : codeAny (model X.prog X.w) X.A (.compLoop (.ListComp elt [⟨tg, iter, [], 0⟩] scope pos) 0 (.ref it) (.ref D) ce) (compEnds (model X.prog X.w) X.A X.xe none (EP X pl σ Q) (.ref D) ce) sd := by
    refine compLoop_any (fun k s' => ∃ i H', Inv (blkX X sc Hc scope ce fp xe) [] (wipe σ (own.map (·.2))) H' s' ∧ tn i s'.heap ∧ (∀ b ∈ fp, H' b = none) ∧ Wm i k H') ?_ m0 ⟨0, Hc, Id, std, nf, w0⟩
    rw [eX]
    rintro k s5 ⟨i, H5, I5, st5, n5, w5⟩
    rcases turn i k H5 w5 with ⟨stop, qq⟩ | ⟨go, Nx, hNx, step⟩
    · refine thnF (Tn.done (blkX X sc Hc scope ce fp xe) rfl rfl rfl hc i [] s5 _ H5 (fun _ _ => False) I5 (still I5 n5) st5 stop) fun r s6 ⟨hr, I6⟩ => ?_
      subst hr
      obtain ⟨I7, ⟨f0, f1, f2, f3, f4, f5⟩, m, hm⟩ := back I6
      exact ⟨m, hm, fun h2 sb2 => ⟨.ref D, H5, I7.turned (t' := s6.toks) (fun b o hb e => (sb2.2 b hb).trans e) f0 f1 f3 f4 f5, rfl, qq⟩⟩
    · refine thnF (Tn.item (blkX X sc Hc scope ce fp xe) rfl rfl rfl hc i [] s5 _ H5 (fun _ _ => False) I5 (still I5 n5) st5 go) fun r s6 ⟨u, hr, h6⟩ => ?_
      subst hr
      refine thnF h6 fun _ s7 ⟨x, H7, I7, r7, y7, st7, n7⟩ => ?_
      have Ip := I7.pinned (still I7 n7) (Tn.obj _ _ st7)
      refine thn (hg.run _ s7 _ H7 x u _ Ip r7 (step x H7 y7)) fun _ s8 ⟨σ8, H8, I8, e8, q8⟩ => ?_
      refine wpAny_tests_nil ?_
      refine thn (pe.run _ s8 σ8 H8 _ I8 q8) fun z s9 ⟨yv, H9, I9, r9, acc, hD9, hz9, nx⟩ => ?_
      refine app_ok (X := blkX X sc Hc scope ce fp xe) I9 hD9 hz9 r9 fun s10 I10 => ?_
      obtain ⟨m', hm, w'⟩ := hNx _ nx
      have pin' : ∀ b ∈ fp, ∀ o, s7.heap.get? b = some o → s10.heap.get? b = some o ∧ (upd H9 D (.lst (acc ++ [yv]))) b = none := fun b hb o e =>
        have z := I10.pin (b, o) (List.mem_append_right _ (List.mem_append_right _ (mem_pinsAt hb e)))
        ⟨z.1, z.2.1⟩
      refine ⟨m', hm, i + 1, _, (I10.unpinned (pins := [])).weak (by rw [← e8, wipe_length]) (fun j v e => ?_), Tn.keep _ _ _ st7 fun b hb o e => (pin' b hb o e).1, fun b hb => ?_, w'⟩
      · rw [← e8] at e
        exact (wipe_some e).1
      · obtain ⟨o, e, _⟩ := Tn.obj _ _ st7 b hb
        exact (pin' b hb o e).2
  exact codeAny_compStart_list loop (Tn.self X.A 0 _ _ _ std loop)
variable [Tbs]
/-- what is raised, at the slots of the def -/
abbrev XBk (XE : XT) (σ0 : St) : XT := fun c fs _ F H => XE c fs σ0 F H
section
variable {X : Cx} {T : Tab} {Γ : List Mo} {XE : XT} {q : Qu} {a : Expr} {pos p : Pos} {es : List Expr} {fs : Ev → R (List D)} {x : Str} {wi : TI} {g : TG} {te : St → TE} {vs : List Nat} {t : Tg} {fI : Ev → R (List D)} {fe : Ev → R D}
theorem de_callXB {W : WX} {σ0 : St} {k : Nat} {f : Addr} {fd : FuncData} {ps : List Str} {ms : List Mo} {g : List D → Option D} (pass : ∀ σ', PassesAt (L2.CX X.prog X.w) X σ' fun cls d H' => W cls d σ0 H') (hW : ∀ c fs σ F H d, XE c fs σ F H → XD T H F c fs d → W (.ref (T.cl c)) d σ H)
    (Fn : FnOk X.prog X.w X.K X.mg X.base (L2.CX X.prog X.w) k f fd ps (spX T ms q g)) (hr : Room k X.A) (hg : Gl X x) (hm : X.mg x = some (.ref f)) (hk : PySem.W.keepIn X.K (.ref f) = true) (hb : Binds X.K fd ps [])
    (hdb : (x == ("__debug__" : Str)) = false) (hp : plainArg a = true) (hps : es.all plainArg = true) (ha : DM X T Γ (XBk XE σ0) ms (a :: es) fs) : DE X T Γ (XBk XE σ0) q (.Call (.Name x p) (a :: es) [] pos) fun env => (fs env).bind fun ds => ofX (g ds) := by
  obtain ⟨ta, pa, s⟩ := ha
  refine ⟨_, pe_callS (E := fun _ cls d H' => W cls d σ0 H') Fn hr hg hm hk hb pass pa hdb (starEach_cons hp) (backTo_none hps), fun H0 F0 σ H F env Q r h => ?_⟩
  refine s H0 F0 σ H F env _ r (wpR_mono (wpR_bind h) (fun ds hd F2 H2 vs x2 r2 => ?_) fun _ _ z => z)
  cases e : g ds with
  | none => rw [e] at hd; exact hd.elim
  | some y =>
    rw [e] at hd
    exact ⟨F2, ds, y, x2.dom r.dom, x2.tabs r.tabs, r2, e, wpR_mono hd (fun d hd => Go.back x2 hd) fun c fs he F' H' d x3 xd => hW c fs σ0 F' H' d (he F' H' (x2.trans x3)) xd⟩
theorem compX_snoc (b : D → Ev.R Ev) (f : Ev → Ev.R D) (ds da : List D) (x : D) : ((compX b f ds).bind fun r => .ok (x :: r)).bind (fun rest => Ev.R.ok (D.lst (da ++ rest))) = (compX b f ds).bind fun rest => .ok (D.lst ((da ++ [x]) ++ rest)) := by
  cases compX b f ds with
  | ok r => show Ev.R.ok (D.lst (da ++ x :: r)) = .ok (D.lst ((da ++ [x]) ++ r)); rw [List.append_assoc]; rfl
  | exc c fs => rfl
  | bad => rfl
theorem simLcX (si : SimI T Γ XE false wi fI) (sg : SimG T (setM Γ .frz vs) g t) (se : ∀ σ0, SimE T (setM Γ .frz vs) (XBk XE σ0) q (te σ0) fe) (hq : q ≠ .dirty) (hv : ∀ i ∈ tgSlots t, i ∈ vs) (hbx : ∀ d env c fs, bindT t d env ≠ .exc c fs) :
    SimE T Γ XE .fresh (tLcX wi g te vs) fun env => (fI env).bind fun ds => if ds.length ≤ 16777216 then (compX (fun d => bindT t d (wipeE env vs)) fe ds).bind fun xs => .ok (.lst xs) else .bad := by
  intro H0 F0 σ H F env Q r h
  show tLc wi g tYes (te σ) vs σ H Q
  refine si H0 F0 σ H F env _ r (wpR_mono (wpR_bind h) (fun ds hd F1 H1 J x1 it => ?_) fun _ _ z => z)
  have r1 := r.ext' x1
  by_cases hlen : ds.length ≤ 16777216
  · rw [if_pos hlen] at hd
    intro Dp hD
    obtain ⟨G, Y, w, hG, hY⟩ := it
    let Pv : Nat → Hp → Prop := fun i H' => ∃ F' acc dacc, Ext F1 H1 F' H' ∧ ¬ F' Dp ∧ H' Dp = some (.lst acc) ∧ Reps T H' F' acc dacc ∧ dacc.length ≤ i ∧ wpR ((compX (fun d => bindT t d (wipeE env vs)) fe (ds.drop i)).bind fun rest => .ok (.lst (dacc ++ rest))) (Go T .fresh F H Q) (GoX XE σ F H)
    have hnF : ¬ F1 Dp := fun z => by obtain ⟨o, eo⟩ := r1.dom _ z; rw [hD] at eo; cases eo
    refine lc_it w Pv ⟨F1, [], [], Ext.laid hD, hnF, upd_same, .nil, Nat.le_refl _, by rw [List.drop_zero]; exact hd⟩ (fun i H' _ ⟨F', acc, dacc, xx, _⟩ => hG H' ⟨fun a o _ h n => xx.keep a o h n, fun a o h n => xx.keep a o (r1.ext.keep a o h n) n, fun _ => xx.keep⟩) ?_ ?_
    · intro i x H' H'' hi ⟨F', acc, dacc, xx, hnD, eD, rp, el, hw⟩ y
      obtain ⟨F'', d, x2, ed, rd⟩ := hY i H' x H'' F' hi ⟨fun a o _ h n => xx.keep a o h n, fun a o h n => xx.keep a o (r1.ext.keep a o h n) n, fun _ => xx.keep⟩ xx.sub y
      have edr : ds.drop i = d :: ds.drop (i + 1) := by
        rw [List.drop_eq_getElem_cons hi]
        rw [List.getElem?_eq_getElem hi] at ed
        rw [Option.some.inj ed]
      rw [edr] at hw
      unfold compX at hw
      cases eb : bindT t d (wipeE env vs) with
      | exc c fs => exact absurd eb (hbx _ _ _ _)
      | bad => rw [eb] at hw; exact hw.elim
      | ok env' =>
        rw [eb, Ev.R.bind_ok] at hw
        have rw1 := ((r1.ext' xx).ext' x2).wipe .frz vs
        have hnD2 : ¬ F'' Dp := fun z => by
          rcases x2.new _ z with z | ⟨z, _⟩
          · exact hnD z
          · exact z.no eD (fun _ q => nomatch q)
        have eD2 := x2.keep _ _ eD rfl
        have rp2 := rp.ext x2
        refine sg H0 F0 _ H'' F'' _ x d env' _ rw1 rd eb fun σ2 r2 hw2 => ?_
        refine ⟨?_, ?_⟩
        · rw [hw2 vs (by cases t <;> exact hv)]
          have : ∀ ws : List Nat, (∀ i ∈ ws, i ∈ vs) → L2.wipe (L2.wipe σ ws) vs = L2.wipe σ vs := by
            intro ws
            induction ws with
            | nil => intro _; rfl
            | cons w ws ih =>
              intro hw
              show L2.wipe ((L2.wipe σ ws).set w none) vs = _
              rw [wipe_set (hw w (by simp)), ih fun i hi => hw i (by simp [hi])]
          exact this vs fun _ h => h
        · unfold tYes
          simp only [if_true]
          have hw3 : wpR ((fe env').bind fun xv => ((compX (fun d => bindT t d (wipeE env vs)) fe (ds.drop (i + 1))).bind fun r => .ok (xv :: r)).bind fun rest => .ok (.lst (dacc ++ rest))) (Go T .fresh F H Q) (GoX XE σ F H) := by
            cases e9 : fe env' with
            | ok xv => rw [e9] at hw; exact hw
            | exc c fs => rw [e9] at hw; exact hw
            | bad => rw [e9] at hw; exact hw
          refine se σ H0 F0 σ2 H'' F'' env' _ r2 (wpR_mono (wpR_bind hw3) (fun xv hx F4 H4 v4 x4 rv4 => ?_) fun c fs he F4 H4 x4 => he F4 H4 (((x1.trans xx).trans x2).trans x4))
          rw [compX_snoc] at hx
          obtain ⟨F5, x5, _, rp5⟩ := rv4.rep x4 hq
          have hnD5 : ¬ F5 Dp := fun z => by
            rcases x5.new _ z with z | ⟨z, _⟩
            · exact hnD2 z
            · exact z.no eD2 (fun _ q => nomatch q)
          have eD5 := x5.keep _ _ eD2 rfl
          have rpa := rp2.ext x5
          have keepF : ∀ a o, F5 a → H4 a = some o → isT o = false → upd H4 Dp (.lst (acc ++ [v4])) a = some o := fun a o ha ho _ => by
            rw [upd_ne (fun z => hnD5 (by rw [← z]; exact ha))]
            exact ho
          refine ⟨acc, eD5, ?_, F5, acc ++ [v4], dacc ++ [xv], ?_, hnD5, upd_same, ?_, ?_, hx⟩
          · rw [sizeLine_eq, rp.length]
            omega
          · have xx5 := (xx.trans x2).trans x5
            exact xx5.over hD hnD5 eD5 rfl (fun _ z => nomatch z)
          · exact (rpa.mono (fun _ h => h) keepF).append (.cons (rp5.mono (fun _ h => h) keepF) .nil)
          · rw [List.length_append]
            simp
            exact el
    · intro H' ⟨F', acc, dacc, xx, hnD, eD, rp, el, hw⟩
      rw [List.drop_length] at hw
      unfold compX at hw
      have hw : Go T .fresh F H Q (.lst (dacc ++ [])) := hw
      rw [List.append_nil] at hw
      refine hw F' H' _ (x1.trans xx) ?_
      unfold ResOk
      simp only
      rw [if_pos (show (D.lst dacc).cell = true from rfl)]
      refine ⟨Dp, rfl, ?_, hnD, .lst eD rp⟩
      exact x1.non _ hD
  · rw [if_neg hlen] at hd
    exact hd.elim
end
end Ev

set_option maxHeartbeats 2000000
/-! Ev: the checker of the small language against a program's text -/
namespace Ev
open PySem PySem.Spec PyProof.Rows L2
variable [Tbs]
inductive FK where
  | fn | meth | make | attr | isc | fnX | exc | rse | isT (cs : List Str) | rsi
  deriving DecidableEq
/-- what is known of a called thing: its name, how its arguments are handed over, what comes back -/
structure FI where
  kind : FK
  nm : Str
  ms : List Mo
  q : Qu
structure Gt where
  fns : List FI
  gss : List (Str × Str)
  blts : List Str
def FOk (X : Cx) (T : Tab) (Φ : Nat → List D → Option D) (i : Nat) (fi : FI) : Prop := match fi.kind with
  | .fn => ∃ k f fd ps ds dvs dd g, FnOk X.prog X.w X.K X.mg X.base CX0 k f fd ps (spN T (fi.ms ++ dvs.map fun _ => .frz) fi.q g) ∧ Room k X.A ∧ X.mg fi.nm = some (.ref f) ∧ PySem.W.keepIn X.K (.ref f) = true ∧ Binds X.K fd ps ds ∧ Vals dvs ds ∧ Dfl dvs dd ∧ ∀ l, Φ i l = g (l ++ dd)
  | .meth => ∃ cs : List Nat, (∀ c ∈ cs, MethOk X T fi.q fi.ms fi.nm (Φ i) c) ∧ ∀ x ds d, Φ i (x :: ds) = some d → ∃ c ∈ cs, ∃ fs, x = .obj c fs ∧ fs.lookup fi.nm = none
  | .make => fi.q = .fresh ∧ ∃ k C f fd ps ds dvs dd g, Mk X.K C f ∧ FnOk X.prog X.w X.K X.mg X.base CX0 k f fd ps (spMk T C (fi.ms ++ dvs.map fun _ => .frz) g) ∧ Room (k + 1) X.A ∧ X.mg fi.nm = some (.ref C) ∧ Binds X.K fd ps ds ∧ Vals dvs ds ∧ Dfl dvs dd ∧ (∀ l, Φ i l = g (l ++ dd)) ∧ ∀ l d, g l = some d → d.cell = false
  | .attr => ∀ x d, Φ i [x] = some d → AtOk T fi.nm x d
  | .isc => fi.q = .fresh ∧ ∃ u, NmC X fi.nm u ∧ ∀ x d, Φ i [x] = some d → IsOk T u x d
  | .isT cs => fi.q = .fresh ∧ ∃ us, Paired (NmC X) cs us ∧ ∀ x d, Φ i [x] = some d → IsTOk T us x d
  | .fnX => ∃ k f fd ps, FnOk X.prog X.w X.K X.mg X.base (L2.CX X.prog X.w) k f fd ps (spX T fi.ms fi.q (Φ i)) ∧ Room k X.A ∧ X.mg fi.nm = some (.ref f) ∧ PySem.W.keepIn X.K (.ref f) = true ∧ Binds X.K fd ps []
  | .exc => ∃ C, X.mg fi.nm = some (.ref C) ∧ ∀ c fs, Φ i [.exv c fs] = some (.bl true) → PySem.W.exmOne T.K (.ref (T.cl c)) (.ref C) = some true
  | .rse => ∃ c, RseC X.K (T.cl c) ∧ X.mg fi.nm = some (.ref (T.cl c)) ∧ ∀ l d, Φ i l = some d → l = [] ∧ d = .exv c []
  | .rsi => ∃ c k f fd ps nms, OexC X.K (T.cl c) ∧ PySem.W.findIn X.K (.ref (T.cl c)) "__init__" = some (some (.ref f)) ∧ PySem.W.typeIn X.K (.ref f) = some (.type "function") ∧ FnOk X.prog X.w X.K X.mg X.base CX0 k f fd ps (spXi (T.cl c) nms) ∧ Room (k + 1) X.A ∧ Binds X.K fd ps [] ∧ X.mg fi.nm = some (.ref (T.cl c)) ∧
    fi.ms.all (fun m => decide (m = .brw)) = true ∧ nms.length ≤ 900 ∧ ∀ l d, Φ i l = some d → ∃ ns : List Int, l = ns.map D.int ∧ ns.length = nms.length ∧ d = .exv c (xfs nms ns)
structure Good (X : Cx) (T : Tab) (Φ : Nat → List D → Option D) (G : Gt) (N : List Str) (sc : Scope) : Prop where
  eK : X.K = T.K
  eN : X.N = N
  nd : N.Nodup
  eS : X.env.scope = sc
  kind : sc.kind = .function
  calm : X.calm = true
  room : Room 0 X.A
  fns : ∀ i fi, G.fns[i]? = some fi → FOk X T Φ i fi
  gss : ∀ x z, G.gss.lookup x = some z → ∃ u, X.mg x = some u ∧ RelV (.str z) u
  blts : ∀ x, x ∈ G.blts → X.mg x = none
  lam : ("<lambda>" : Str) ∈ G.blts → LamG X.base X.mg X.env.code X.env.qual

def visB (sc : Scope) (x : Str) : Bool := match sc.names.lookup x with
  | some .local => true
  | some .cell => true
  | some .free => true
  | _ => false
def glB (sc : Scope) (x : Str) : Bool := match sc.names.lookup x with
  | some .globalImplicit => true
  | _ => false
def okN (x : Str) : Bool := (x == ("__debug__" : Str)) == false && (x == ("__classdict__" : Str)) == false
def binB : Operator → Bool
  | .Add => true | .Sub => true | .Mult => true | .FloorDiv => true | .Mod => true | .Pow => true | .LShift => true | .RShift => true | .BitAnd => true | .BitOr => true | .BitXor => true
  | _ => false
def cmpB : CmpOp → Bool
  | .Eq => true | .NotEq => true | .Lt => true | .LtE => true | .Gt => true | .GtE => true | .In => true | .NotIn => true
  | _ => false
/-- sorted(range(..), key=lambda thing: (-w[thing], thing)) -/
def keyP : Expr → Option (Str × Str × Expr × Str × Str × Scope × Str × Str × Str)
  | .Call (.Name x _) [.Call (.Name y _) [ea] [] _] [⟨some kw, .Lambda ⟨[], [⟨t0, none, _⟩], none, [], [], none, []⟩ (.Tuple [.UnaryOp .USub (.Subscript (.Name wn _) (.Name t1 _) _) _, .Name t2 _] _ _) lsc _, _⟩] _ => if kw = "key" then some (x, y, ea, wn, t0, lsc, t1, t2, kw) else none
  | _ => none
def keyS (wn : Str) (lsc : Scope) : Bool := decide (lsc.kind = .function) && !lsc.isCoroutine && !lsc.isGenerator && lsc.names.all (fun y => decide (y.2 ≠ .cell) && (decide (y.2 ≠ .free) || y.1 == wn)) && decide (lsc.names.lookup ("thing" : Str) = some NameKind.local) && decide (lsc.names.lookup wn = some NameKind.free)
theorem keyP_ok {e : Expr} {x y wn t0 t1 t2 kw : Str} {ea : Expr} {lsc : Scope} (h : keyP e = some (x, y, ea, wn, t0, lsc, t1, t2, kw)) : ∃ (q1 q2 q3 kp lp pa p1 p2 p3 p4 p5 p6 pos : Pos) (k : Nat), kw = "key" ∧ e = .Call (.Name x q1) [.Call (.Name y q2) [ea] [] q3] [⟨some kw, .Lambda (lamPar t0 pa) (.Tuple [.UnaryOp .USub (.Subscript (.Name wn p1) (.Name t1 p2) p3) p4, .Name t2 p5] k p6) lsc lp, kp⟩] pos := by
  unfold keyP at h
  split at h
  · split at h
    · rename_i hk
      cases h
      exact ⟨_, _, _, _, _, _, _, _, _, _, _, _, _, _, hk, rfl⟩
    · cases h
  · cases h
def attrB : Expr → Bool
  | .Call (.Name _ _) [] [] _ => false
  | _ => true
def noIf : Expr → Bool
  | .IfExp _ _ _ _ => false
  | _ => true
def notSet : Expr → Bool
  | .Set _ _ _ => false
  | _ => true
def joinQ : Qu → Qu → Qu
  | .fresh, .fresh => .fresh
  | .dirty, _ => .dirty
  | _, .dirty => .dirty
  | _, _ => .clean
section
variable (G : Gt) (N : List Str)
def qF (i : Nat) : Qu := match G.fns[i]? with
  | some fi => fi.q
  | none => .dirty
def qE (Γ : List Mo) : ME → Qu
  | .var i => if Γ[i]? = some .frz then .clean else .dirty
  | .sub _ _ => .clean
  | .subL _ _ => .dirty
  | .attr _ _ => .clean
  | .call f _ => qF G f
  | .meth f _ _ => qF G f
  | .ife _ a b => joinQ (qE Γ a) (qE Γ b)
  | .orv a b => joinQ (qE Γ a) (qE Γ b)
  | _ => .fresh
def bfN : BF → Str
  | .len => "len" | .list => "list" | .int_ => "int" | .max2 => "max" | .min2 => "min" | .sum => "sum" | .maxL => "max" | .minL => "min" | .sorted => "sorted" | .any => "any" | .all => "all"
def bfA : BF → Nat
  | .max2 => 2 | .min2 => 2 | _ => 1
def tyN : Str → Option String := fun x => if x = "int" then some "int" else if x = "bool" then some "bool" else if x = "str" then some "str" else if x = "list" then some "list" else if x = "tuple" then some "tuple" else none
def chkFn (f : Nat) (k : FK) (x : Str) (n : Nat) : Bool := match G.fns[f]? with
  | some fi => decide (fi.kind = k) && fi.nm == x && fi.ms.length == n
  | none => false
def msF (f : Nat) : List Mo := match G.fns[f]? with
  | some fi => fi.ms
  | none => []
def chkT1 (st : Bool) (sc : Scope) (Γ : List Mo) (i : Nat) : Expr → Bool
  | .Name x _ => N[i]? == some x && (match sc.names.lookup x with
    | some .local => true
    | some .cell => st
    | _ => false) && Γ[i]? != some .own && Γ[i]? != some .lol
  | _ => false
def chkTs (st : Bool) (sc : Scope) (Γ : List Mo) : List Nat → List Expr → Bool
  | [], [] => true
  | i :: is, e :: es => chkT1 N st sc Γ i e && chkTs st sc Γ is es
  | _, _ => false
def chkT (st : Bool) (sc : Scope) (Γ : List Mo) : Tg → Expr → Bool
  | .one i, e => chkT1 N st sc Γ i e
  | .many is, .Tuple es _ _ => chkTs N st sc Γ is es
  | _, _ => false
def isTupE : Expr → Bool
  | .Tuple _ _ _ => true
  | _ => false
def srcB (st : Bool) (Γ : List Mo) (a : ME) : Bool := !st || decide (qE G Γ a ≠ .dirty) || (match a with
    | .var i => decide (Γ[i]? ≠ some .own) && decide (Γ[i]? ≠ some .lol)
    | _ => false)
def clsArg : List Expr → Option (Expr × Str)
  | [ea, .Name c _] => some (ea, c)
  | _ => none
theorem clsArg_ok {xs : List Expr} {ea : Expr} {c : Str} (h : clsArg xs = some (ea, c)) : ∃ p, xs = [ea, .Name c p] := by
  unfold clsArg at h
  split at h
  · cases h; exact ⟨_, rfl⟩
  · cases h
def nmsOf : List Expr → Option (List (Str × Pos))
  | [] => some []
  | .Name x p :: r => (nmsOf r).map ((x, p) :: ·)
  | _ => none
theorem nmsOf_ok : ∀ {es : List Expr} {ns : List (Str × Pos)}, nmsOf es = some ns → es = ns.map fun n => .Name n.1 n.2
  | [], _, e => by unfold nmsOf at e; cases e; rfl
  | e :: r, ns, h => by
    unfold nmsOf at h
    split at h
    · rename_i z; cases z
    · rename_i x p r' z
      cases z
      obtain ⟨l, e1, e2⟩ := Option.map_eq_some_iff.mp h
      rw [nmsOf_ok e1, ← e2]
      rfl
    · cases h
/-- isinstance(e, (A, B, ..)) -/
def clsArgT : List Expr → Option (Expr × List (Str × Pos))
  | [ea, .Tuple es _ _] => (nmsOf es).map fun ns => (ea, ns)
  | _ => none
theorem clsArgT_ok {xs : List Expr} {ea : Expr} {ns : List (Str × Pos)} (h : clsArgT xs = some (ea, ns)) : ∃ j p, xs = [ea, .Tuple (ns.map fun n => .Name n.1 n.2) j p] := by
  unfold clsArgT at h
  split at h
  · obtain ⟨l, e1, e2⟩ := Option.map_eq_some_iff.mp h
    cases e2
    rw [nmsOf_ok e1]
    exact ⟨_, _, rfl⟩
  · cases h
def isTB (sc : Scope) (f : Nat) (ns : List (Str × Pos)) : Bool := match G.fns[f]? with
  | some fi => decide (fi.kind = .isT (ns.map (·.1))) && ns.all (fun n => glB sc n.1 && okN n.1) && decide (ns.length ≤ 1000)
  | none => false
mutual
def chkE : ME → Scope → List Mo → Expr → Bool
  | .var i, sc, Γ, e => match e with
    | .Name x _ => N[i]? == some x && visB sc x && okN x && decide (i < Γ.length) && decide (Γ[i]? ≠ some .lol)
    | _ => false
  | .int i, _, _, e => match e with
    | .Constant (.int j) _ _ => i == j
    | _ => false
  | .bl i, _, _, e => match e with
    | .Constant (.bool j) _ _ => i == j
    | _ => false
  | .non, _, _, e => match e with
    | .Constant .none _ _ => true
    | _ => false
  | .str i, _, _, e => match e with
    | .Constant (.str j) _ _ => i == j
    | _ => false
  | .gstr n z, sc, _, e => match e with
    | .Name x _ => n == x && glB sc x && okN x && G.gss.lookup x == some z
    | _ => false
  | .bin op a b, sc, Γ, e => match e with
    | .BinOp ea op' eb _ => decide (op = op') && binB op && chkE a sc Γ ea && chkE b sc Γ eb
    | _ => false
  | .neg a, sc, Γ, e => match e with
    | .UnaryOp .USub ea _ => chkE a sc Γ ea
    | _ => false
  | .inv a, sc, Γ, e => match e with
    | .UnaryOp .Invert ea _ => chkE a sc Γ ea
    | _ => false
  | .cmp op a b, sc, Γ, e => match e with
    | .Compare ea [op'] [eb] _ => decide (op = op') && cmpB op && behindInMarks op' eb == false && chkE a sc Γ ea && chkE b sc Γ eb
    | _ => false
  | .chain op1 op2 a b c, sc, Γ, e => match e with
    | .Compare ea [o1, o2] [eb, ec] _ => decide (op1 = o1) && decide (op2 = o2) && cmpB op1 && cmpB op2 && lastMarks [o1, o2] [eb, ec] == false && chkE a sc Γ ea && chkE b sc Γ eb && chkE c sc Γ ec
    | _ => false
  | .isN a, sc, Γ, e => match e with
    | .Compare ea [.Is] [.Constant .none _ _] _ => chkE a sc Γ ea
    | _ => false
  | .notN a, sc, Γ, e => match e with
    | .Compare ea [.IsNot] [.Constant .none _ _] _ => chkE a sc Γ ea
    | _ => false
  | .and_ a b, sc, Γ, e => match e with
    | .BoolOp .And (ea :: eb :: rest) pos => noIf ea && noIf eb && chkE a sc Γ ea && (match rest with
      | [] => chkE b sc Γ eb
      | r :: rest => chkE b sc Γ (.BoolOp .And (eb :: r :: rest) pos))
    | _ => false
  | .or_ a b, sc, Γ, e => match e with
    | .BoolOp .Or (ea :: eb :: rest) pos => noIf ea && noIf eb && chkE a sc Γ ea && (match rest with
      | [] => chkE b sc Γ eb
      | r :: rest => chkE b sc Γ (.BoolOp .Or (eb :: r :: rest) pos))
    | _ => false
  | .orv a b, sc, Γ, e => match e with
    | .BoolOp .Or [ea, eb] _ => noIf ea && noIf eb && chkE a sc Γ ea && chkE b sc Γ eb
    | _ => false
  | .not_ a, sc, Γ, e => match e with
    | .UnaryOp .Not ea _ => noIf ea && chkE a sc Γ ea
    | _ => false
  | .ife c a b, sc, Γ, e => match e with
    | .IfExp ec ea eb _ => noIf ec && chkE c sc Γ ec && chkE a sc Γ ea && chkE b sc Γ eb
    | _ => false
  | .subL i b, sc, Γ, e => match e with
    | .Subscript (.Name x _) eb _ => notSlice eb && (N[i]? == some x && visB sc x && okN x && decide (Γ[i]? = some .lol)) && chkE b sc Γ eb
    | _ => false
  | .sub a b, sc, Γ, e => match e with
    | .Subscript ea eb _ => notSlice eb && chkE a sc Γ ea && chkE b sc Γ eb
    | _ => false
  | .slice a lo hi, sc, Γ, e => match e with
    | .Subscript ea (.Slice el eh none _) _ => chkE a sc Γ ea && chkO lo sc Γ el && chkO hi sc Γ eh
    | _ => false
  | .rev a, sc, Γ, e => match e with
    | .Subscript ea (.Slice none none (some (.UnaryOp .USub (.Constant (.int 1) _ _) _)) _) _ => chkE a sc Γ ea
    | _ => false
  | .stp a lo st, sc, Γ, e => match e with
    | .Subscript ea (.Slice el none (some es) _) _ => chkE a sc Γ ea && chkO lo sc Γ el && chkO st sc Γ (some es)
    | _ => false
  | .tup es, sc, Γ, e => match e with
    | .Tuple xs _ _ => chkM es (List.replicate xs.length .frz) sc Γ xs
    | _ => false
  | .lst es, sc, Γ, e => match e with
    | .List xs _ => chkM es (List.replicate xs.length .frz) sc Γ xs
    | _ => false
  | .dct0, _, _, e => match e with
    | .Dict [] [] _ => true
    | _ => false
  | .call f es, sc, Γ, e => match e with
    | .Call (.Name x _) xs [] _ => (glB sc x && okN x && chkFn G f .fn x xs.length && chkM es (msF G f) sc Γ xs) || (x == ("isinstance" : Str) && glB sc x && G.blts.contains x && (match clsArg xs with
      | some (ea, c) => glB sc c && okN c && chkFn G f .isc c 0 && plainArg ea && (match es with
        | .cons a .nil => chkE a sc Γ ea
        | _ => false)
      | none => false)) || (x == ("isinstance" : Str) && glB sc x && G.blts.contains x && (match clsArgT xs with
      | some (ea, ns) => isTB G sc f ns && plainArg ea && (match es with
        | .cons a .nil => chkE a sc Γ ea
        | _ => false)
      | none => false))
    | _ => false
  | .bf f es, sc, Γ, e => match e with
    | .Call (.Name x _) xs [] _ => glB sc x && x == bfN f && G.blts.contains x && xs.length == bfA f && chkM es (List.replicate xs.length .brw) sc Γ xs
    | _ => false
  | .bm m o es, sc, Γ, e => match e with
    | .Call (.Attribute eo nm apos) xs [] pos => attrB eo && apos.endLine == pos.line && chkE o sc Γ eo && (match m, es, xs with
      | .bitLength, .nil, [] => nm == ("bit_length" : Str)
      | .index, .cons e .nil, [ex] => nm == ("index" : Str) && plainArg ex && chkE e sc Γ ex
      | _, _, _ => false)
    | _ => false
  | .meth m o es, sc, Γ, e => match e with
    | .Call (.Attribute eo nm apos) xs [] pos => attrB eo && apos.endLine == pos.line && decide (xs.length < 29) && chkE o sc Γ eo && chkFn G m .meth nm xs.length && chkM es (msF G m) sc Γ xs
    | _ => false
  | .make f es, sc, Γ, e => match e with
    | .Call (.Name x _) xs [] _ => glB sc x && okN x && chkFn G f .make x xs.length && decide (xs ≠ []) && chkM es (msF G f) sc Γ xs
    | _ => false
  | .attr o f, sc, Γ, e => match e with
    | .Attribute eo nm _ => attrB eo && chkE o sc Γ eo && (match G.fns[f]? with
      | some fi => decide (fi.kind = .attr) && fi.nm == nm
      | none => false)
    | _ => false
  | .lrng a, sc, Γ, e => match e with
    | .Call (.Name x _) [.Call (.Name y _) [ea] [] _] [] _ => x == ("list" : Str) && glB sc x && G.blts.contains x && y == ("range" : Str) && glB sc y && G.blts.contains y && plainArg ea && chkE a sc Γ ea
    | _ => false
  | .sset a, sc, Γ, e => match e with
    | .Call (.Name x _) [.Call (.Name y _) [ea] [] _] [] _ => x == ("sorted" : Str) && glB sc x && G.blts.contains x && y == ("set" : Str) && glB sc y && G.blts.contains y && plainArg ea && chkE a sc Γ ea
    | _ => false
  | .keyed i a, sc, Γ, e => match keyP e with
    | some (x, y, ea, wn, t0, lsc, t1, t2, _) => x == ("sorted" : Str) && glB sc x && G.blts.contains x && y == ("range" : Str) && glB sc y && G.blts.contains y && G.blts.contains ("<lambda>" : Str) && plainArg ea && chkE a sc Γ ea && N[i]? == some wn && okN wn && decide (sc.names.lookup wn = some .cell) && t0 == ("thing" : Str) && t1 == ("thing" : Str) && t2 == ("thing" : Str) && keyS wn lsc && decide (Γ.getD i .brw ≠ .lol)
    | none => false
  | .tx op es, sc, Γ, e => match op with
    | .new => match es, e with
      | .nil, .Dict [] [] _ => true
      | _, _ => false
    | .one => match es, e with
      | .cons k (.cons v .nil), .Dict [some ke] [ve] _ => chkE k sc Γ ke && chkE v sc Γ ve
      | _, _ => false
    | .get => match es, e with
      | .cons o (.cons k (.cons d .nil)), .Call (.Attribute eo nm apos) [ke, de] [] pos => nm == ("get" : Str) && attrB eo && apos.endLine == pos.line && plainArg ke && plainArg de && chkE o sc Γ eo && chkE k sc Γ ke && chkE d sc Γ de
      | _, _ => false
    | .copy => match es, e with
      | .cons o .nil, .Call (.Attribute eo nm apos) [] [] pos => nm == ("copy" : Str) && attrB eo && apos.endLine == pos.line && chkE o sc Γ eo
      | _, _ => false
    | .list => match es, e with
      | .cons a .nil, .Call (.Name x _) [ea] [] _ => x == ("list" : Str) && glB sc x && G.blts.contains x && plainArg ea && chkE a sc Γ ea
      | _, _ => false
    | .sub => match es, e with
      | .cons a (.cons b .nil), .Subscript ea eb _ => notSlice eb && chkE a sc Γ ea && chkE b sc Γ eb
      | _, _ => false
    | .sort => match es, e with
      | .cons a .nil, .Call (.Name x _) [ea] [] _ => x == ("sorted" : Str) && glB sc x && G.blts.contains x && plainArg ea && chkE a sc Γ ea
      | _, _ => false
    | .min => match es, e with
      | .cons a .nil, .Call (.Name x _) [ea] [] _ => x == ("min" : Str) && glB sc x && G.blts.contains x && plainArg ea && chkE a sc Γ ea
      | _, _ => false
    | .find => match es, e with
      | .cons a (.cons b .nil), .Call (.Attribute eo nm apos) [eb] [] pos => nm == ("find" : Str) && attrB eo && apos.endLine == pos.line && plainArg eb && chkE a sc Γ eo && chkE b sc Γ eb
      | _, _ => false
    | .join => match es, e with
      | .cons a (.cons b .nil), .Call (.Attribute eo nm apos) [eb] [] pos => nm == ("join" : Str) && attrB eo && apos.endLine == pos.line && plainArg eb && chkE a sc Γ eo && chkE b sc Γ eb
      | _, _ => false
    | .split => match es, e with
      | .cons a (.cons b .nil), .Call (.Attribute eo nm apos) [eb] [] pos => nm == ("split" : Str) && attrB eo && apos.endLine == pos.line && plainArg eb && chkE a sc Γ eo && chkE b sc Γ eb
      | _, _ => false
    | .le => match es, e with
      | .cons a (.cons b .nil), .Compare ea [.LtE] [eb] _ => behindInMarks .LtE eb == false && chkE a sc Γ ea && chkE b sc Γ eb
      | _, _ => false
  | .isi a ty, sc, Γ, e => match e with
    | .Call (.Name f _) [ea, .Name x _] [] _ => f == ("isinstance" : Str) && glB sc f && G.blts.contains f && glB sc x && G.blts.contains x && tyN x == some ty && plainArg ea && chkE a sc Γ ea
    | _ => false
  | .comp elt own t src cond, sc, Γ, e => match e with
    | .ListComp ee [⟨tg, it, ifs, 0⟩] scope _ => blkC N sc scope own && notSet it && chkI src false sc Γ tg it && chkT N true scope (setM Γ .frz (own.map (·.2))) t tg && chkC cond (relS scope sc) (setM Γ .frz (own.map (·.2))) ifs &&
      chkE elt (relS scope sc) (setM Γ .frz (own.map (·.2))) ee && decide (qE G (setM Γ .frz (own.map (·.2))) elt ≠ .dirty) && (tgSlots t).all (fun i => (own.map (·.2)).contains i)
    | _ => false
def chkO : Option ME → Scope → List Mo → Option Expr → Bool
  | none, _, _, none => true
  | some m, sc, Γ, some e => chkE m sc Γ e
  | _, _, _, _ => false
def chkC : Option ME → Scope → List Mo → List Expr → Bool
  | none, _, _, [] => true
  | some m, sc, Γ, [e] => noIf e && chkE m sc Γ e
  | _, _, _, _ => false
def chkM : MEs → List Mo → Scope → List Mo → List Expr → Bool
  | .nil, [], _, _, [] => true
  | .cons e es, m :: ms, sc, Γ, x :: xs => plainArg x && decide (m = .frz → qE G Γ e ≠ .dirty) && chkE e sc Γ x && chkM es ms sc Γ xs
  | _, _, _, _, _ => false
def chkI : MI → Bool → Scope → List Mo → Expr → Expr → Bool
  | .plain a, st, sc, Γ, _, e => chkE a sc Γ e && srcB G st Γ a
  | .range1 a, _, sc, Γ, _, e => match e with
    | .Call (.Name x _) [ea] [] _ => x == ("range" : Str) && glB sc x && G.blts.contains x && plainArg ea && chkE a sc Γ ea
    | _ => false
  | .range2 a b, _, sc, Γ, _, e => match e with
    | .Call (.Name x _) [ea, eb] [] _ => x == ("range" : Str) && glB sc x && G.blts.contains x && plainArg ea && plainArg eb && chkE a sc Γ ea && chkE b sc Γ eb
    | _ => false
  | .chars a, _, sc, Γ, _, e => chkE a sc Γ e
  | .rev1 a, _, sc, Γ, _, e => match e with
    | .Call (.Name y _) [.Call (.Name x _) [ea] [] _] [] _ => y == ("reversed" : Str) && glB sc y && G.blts.contains y && x == ("range" : Str) && glB sc x && G.blts.contains x && plainArg ea && chkE a sc Γ ea
    | _ => false
  | .revL a, st, sc, Γ, _, e => match e with
    | .Call (.Name x _) [ea] [] _ => x == ("reversed" : Str) && glB sc x && G.blts.contains x && plainArg ea && chkE a sc Γ ea && srcB G st Γ a
    | _ => false
  | .enum a, st, sc, Γ, tg, e => match e with
    | .Call (.Name x _) [ea] [] _ => x == ("enumerate" : Str) && glB sc x && G.blts.contains x && plainArg ea && chkE a sc Γ ea && srcB G st Γ a && isTupE tg
    | _ => false
  | .items _, _, _, _, _, _ => false
end
end
/-! ### nothing raises yet -/
section
variable (Φ : Nat → List D → Option D)
theorem binD_nx (op : Operator) (a b : D) : ∀ c fs, binD op a b ≠ .exc c fs := by
  intro c fs
  unfold binD
  cases op <;> dsimp only
  · unfold addD; split <;> first | (intro z; cases z; done) | (split <;> (intro z; cases z))
  · unfold subID; split <;> (intro z; cases z)
  · unfold mulD; split <;> first | (intro z; cases z; done) | (split <;> (intro z; cases z))
  · intro z; cases z
  · intro z; cases z
  · unfold modD; split <;> first | (intro z; cases z; done) | (split <;> (intro z; cases z))
  · unfold powD; split <;> first | (intro z; cases z; done) | (split <;> (intro z; cases z))
  · unfold shlD; split <;> first | (intro z; cases z; done) | (split <;> (intro z; cases z))
  · unfold shrD; split <;> first | (intro z; cases z; done) | (split <;> (intro z; cases z))
  · unfold orD; split <;> (intro z; cases z)
  · unfold xorD; split <;> (intro z; cases z)
  · unfold andD; split <;> (intro z; cases z)
  · unfold fdivD; split <;> first | (intro z; cases z; done) | (split <;> first | (intro z; cases z; done) | (split <;> (intro z; cases z)))
theorem cmpD_nx (op : CmpOp) (a b : D) : ∀ c fs, cmpD op a b ≠ .exc c fs := by
  intro c fs
  unfold cmpD
  cases op <;> dsimp only
  · exact eqD_nx a b c fs
  · unfold neD; exact bind_nx (eqD_nx a b) (fun _ => ok_nx _) c fs
  · unfold ltD; split <;> (intro z; cases z)
  · unfold leD; split <;> (intro z; cases z)
  · unfold gtD; split <;> (intro z; cases z)
  · unfold geD; split <;> (intro z; cases z)
  · intro z; cases z
  · intro z; cases z
  · exact inD_nx _ a b c fs
  · exact inD_nx _ a b c fs
theorem getV_nx (env : Ev) (i : Nat) : ∀ c fs, getV env i ≠ .exc c fs := by
  intro c fs; unfold getV; split <;> (intro z; cases z)
theorem sliceD_nx' (l h : Option Int) (a : D) : ∀ c fs, sliceD l h a ≠ .exc c fs := by
  intro c fs
  unfold sliceD
  split <;> first | (intro z; cases z; done) | (split <;> (intro z; cases z))
theorem stepD_nx' (l i : Option Int) (a : D) : ∀ c fs, stepD l i a ≠ .exc c fs := by
  intro c fs; unfold stepD; split
  · split <;> (intro z; cases z)
  · intro z; cases z
theorem revD_nx' (a : D) : ∀ c fs, revD a ≠ .exc c fs := by
  intro c fs; unfold revD; split <;> (intro z; cases z)
theorem bmD_nx' (m : BM) (a : D) (ds : List D) : ∀ c fs, bmD m a ds ≠ .exc c fs := by
  intro c fs; unfold bmD; split
  · intro z; cases z
  · exact bind_nx (allI_nx _) (fun ns => bind_nx (ofO_nx _) fun _ => ok_nx _) c fs
  · intro z; cases z
theorem isiD_nx' (d : D) (ty : String) : ∀ c fs, isiD d ty ≠ .exc c fs := by
  intro c fs; unfold isiD; exact ofO_nx _ c fs
theorem bfD_nx' (f : BF) (ds : List D) : ∀ c fs, bfD f ds ≠ .exc c fs := by
  intro c fs
  unfold bfD
  cases f <;> dsimp only
  · unfold lenD; split
    · split <;> (intro z; cases z)
    · exact bind_nx (ofO_nx _) (fun _ => ok_nx _) c fs
    · intro z; cases z
  · unfold listD; split
    · intro z; cases z
    · exact bind_nx (ofO_nx _) (fun _ => ok_nx _) c fs
    · intro z; cases z
  · unfold intD; split <;> (intro z; cases z)
  · unfold min2D; split <;> (intro z; cases z)
  · unfold max2D; split <;> (intro z; cases z)
  · unfold minLD; split
    · exact bind_nx (allI_nx _) (fun ns c fs => by split <;> (intro z; cases z)) c fs
    · intro z; cases z
  · unfold maxLD; split
    · exact bind_nx (allI_nx _) (fun ns c fs => by split <;> (intro z; cases z)) c fs
    · intro z; cases z
  · unfold sumD; split
    · exact bind_nx (allI_nx _) (fun _ => ok_nx _) c fs
    · intro z; cases z
  · unfold sortedD; split
    · exact bind_nx (allI_nx _) (fun _ => ok_nx _) c fs
    · intro z; cases z
  · unfold anyD; split
    · exact bind_nx (allB_nx _) (fun _ => ok_nx _) c fs
    · intro z; cases z
  · unfold allD; split
    · exact bind_nx (allB_nx _) (fun _ => ok_nx _) c fs
    · intro z; cases z
mutual
theorem ev_nx : ∀ (me : ME) (env : Ev) (c : Nat) (fs : List D), ev Φ me env ≠ .exc c fs
  | .var i, env => by unfold ev; exact getV_nx env i
  | .int i, env => by unfold ev; exact ok_nx _
  | .bl i, env => by unfold ev; exact ok_nx _
  | .non, env => by unfold ev; exact ok_nx _
  | .str i, env => by unfold ev; exact ok_nx _
  | .gstr n z, env => by unfold ev; exact ok_nx _
  | .bin op a b, env => by unfold ev; exact bind_nx (ev_nx a env) fun x => bind_nx (ev_nx b env) fun y => binD_nx op x y
  | .neg a, env => by unfold ev; exact bind_nx (ev_nx a env) fun x => bind_nx (asI_nx x) fun _ => ok_nx _
  | .inv a, env => by unfold ev; exact bind_nx (ev_nx a env) fun x => bind_nx (asI_nx x) fun _ => ok_nx _
  | .cmp op a b, env => by unfold ev; exact bind_nx (ev_nx a env) fun x => bind_nx (ev_nx b env) fun y => bind_nx (cmpD_nx op x y) fun _ => ok_nx _
  | .chain op op' a b c, env => by
    unfold ev; exact bind_nx (ev_nx a env) fun x => bind_nx (ev_nx b env) fun y => bind_nx (cmpD_nx op x y) fun k => by
      cases k with
      | false => exact ok_nx _
      | true => exact bind_nx (ev_nx c env) fun z => bind_nx (cmpD_nx op' y z) fun _ => ok_nx _
  | .isN a, env => by unfold ev; exact bind_nx (ev_nx a env) fun x => ok_nx _
  | .notN a, env => by unfold ev; exact bind_nx (ev_nx a env) fun x => ok_nx _
  | .and_ a b, env => by
    unfold ev; exact bind_nx (ev_nx a env) fun x => bind_nx (asB_nx x) fun k => by
      cases k with
      | false => exact ok_nx _
      | true => exact bind_nx (ev_nx b env) fun y => bind_nx (asB_nx y) fun _ => ok_nx _
  | .or_ a b, env => by
    unfold ev; exact bind_nx (ev_nx a env) fun x => bind_nx (asB_nx x) fun k => by
      cases k with
      | true => exact ok_nx _
      | false => exact bind_nx (ev_nx b env) fun y => bind_nx (asB_nx y) fun _ => ok_nx _
  | .orv a b, env => by
    unfold ev; exact bind_nx (ev_nx a env) fun x => bind_nx (truthD_nx x) fun k => by
      cases k with
      | true => exact ok_nx _
      | false => exact ev_nx b env
  | .not_ a, env => by unfold ev; exact bind_nx (ev_nx a env) fun x => bind_nx (asB_nx x) fun _ => ok_nx _
  | .ife c a b, env => by
    unfold ev; exact bind_nx (ev_nx c env) fun x => bind_nx (truthD_nx x) fun k => by
      cases k with
      | true => exact ev_nx a env
      | false => exact ev_nx b env
  | .subL i b, env => by unfold ev; exact bind_nx (fun c fs z => by unfold getV at z; split at z <;> cases z) fun x => bind_nx (ev_nx b env) fun y => subD_nx x y
  | .sub a b, env => by unfold ev; exact bind_nx (ev_nx a env) fun x => bind_nx (ev_nx b env) fun y => subD_nx x y
  | .slice a lo hi, env => by unfold ev; exact bind_nx (ev_nx a env) fun x => bind_nx (evO_nx lo env) fun l => bind_nx (evO_nx hi env) fun h => sliceD_nx' l h x
  | .rev a, env => by unfold ev; exact bind_nx (ev_nx a env) fun x => revD_nx' x
  | .stp a lo st, env => by unfold ev; exact bind_nx (ev_nx a env) fun x => bind_nx (evO_nx lo env) fun l => bind_nx (evO_nx st env) fun i => stepD_nx' l i x
  | .tup es, env => by unfold ev; exact bind_nx (evs_nx es env) fun ds c fs => by split <;> (intro z; cases z)
  | .lst es, env => by unfold ev; exact bind_nx (evs_nx es env) fun ds c fs => by split <;> (intro z; cases z)
  | .dct0, env => by unfold ev; exact ok_nx _
  | .call f es, env => by unfold ev; exact bind_nx (evs_nx es env) fun ds => ofO_nx _
  | .bf f es, env => by unfold ev; exact bind_nx (evs_nx es env) fun ds => bfD_nx' f ds
  | .bm m o es, env => by unfold ev; exact bind_nx (ev_nx o env) fun x => bind_nx (evs_nx es env) fun ds => bmD_nx' m x ds
  | .meth m o es, env => by unfold ev; exact bind_nx (ev_nx o env) fun x => bind_nx (evs_nx es env) fun ds => ofO_nx _
  | .make f es, env => by unfold ev; exact bind_nx (evs_nx es env) fun ds => ofO_nx _
  | .attr o f, env => by unfold ev; exact bind_nx (ev_nx o env) fun x => ofO_nx _
  | .lrng a, env => by unfold ev; exact bind_nx (ev_nx a env) fun x => bind_nx (asI_nx x) fun n => bind_nx (rangeD_nx _ _) fun ds c fs => by split <;> (intro z; cases z)
  | .sset a, env => by unfold ev; exact bind_nx (ev_nx a env) fun x => ssetD_nx x
  | .keyed i a, env => by unfold ev; exact bind_nx (ev_nx a env) fun x => bind_nx (fun c fs z => by unfold getV at z; split at z <;> cases z) fun w => keyedD_nx x w
  | .tx op es, env => by unfold ev; exact bind_nx (evs_nx es env) fun ds => txD_nx op ds
  | .isi a ty, env => by unfold ev; exact bind_nx (ev_nx a env) fun x => bind_nx (isiD_nx' x ty) fun _ => ok_nx _
  | .comp elt own t src cond, env => by unfold ev; exact bind_nx (evI_nx src env) fun ds => noExc_nx _
theorem evO_nx : ∀ (o : Option ME) (env : Ev) (c : Nat) (fs : List D), evO Φ o env ≠ .exc c fs
  | none, env => by unfold evO; exact ok_nx _
  | some e, env => by unfold evO; exact bind_nx (ev_nx e env) fun x => bind_nx (asI_nx x) fun _ => ok_nx _
theorem evs_nx : ∀ (es : MEs) (env : Ev) (c : Nat) (fs : List D), evs Φ es env ≠ .exc c fs
  | .nil, env => by unfold evs; exact ok_nx _
  | .cons e es, env => by unfold evs; exact bind_nx (ev_nx e env) fun x => bind_nx (evs_nx es env) fun _ => ok_nx _
theorem evI_nx : ∀ (s : MI) (env : Ev) (c : Nat) (fs : List D), evI Φ s env ≠ .exc c fs
  | .plain a, env => by unfold evI; exact bind_nx (ev_nx a env) fun x => ofO_nx _
  | .range1 a, env => by unfold evI; exact bind_nx (ev_nx a env) fun x => bind_nx (asI_nx x) fun n => rangeD_nx _ _
  | .range2 a b, env => by unfold evI; exact bind_nx (ev_nx a env) fun x => bind_nx (ev_nx b env) fun y => bind_nx (asI_nx x) fun n => bind_nx (asI_nx y) fun m => rangeD_nx _ _
  | .chars a, env => by unfold evI; exact bind_nx (ev_nx a env) fun x => charsD_nx x
  | .rev1 a, env => by unfold evI; exact bind_nx (ev_nx a env) fun x => bind_nx (asI_nx x) fun n => bind_nx (rangeD_nx _ _) fun _ => ok_nx _
  | .revL a, env => by unfold evI; exact bind_nx (ev_nx a env) fun x => bind_nx (ofO_nx _) fun _ => ok_nx _
  | .enum a, env => by unfold evI; exact bind_nx (ev_nx a env) fun x => bind_nx (ofO_nx _) fun _ => ok_nx _
  | .items a, env => by unfold evI; exact bind_nx (ev_nx a env) fun x c fs => by split <;> (intro z; cases z)
end
end
end Ev

set_option maxHeartbeats 4000000
/-! Ev: what the checker passes is sound -/
namespace Ev
open PySem PySem.Spec PyProof.Rows L2
variable [Tbs]
section
variable {X : Cx} {T : Tab} {Γ : List Mo} {XE : XT} {q q' qa qb qc : Qu} {a b c : Expr} {fa fb fc : Ev → R D} {pos : Pos} {es : List Expr} {fs : Ev → R (List D)} {Φ : Nat → List D → Option D} {G : Gt} {N : List Str} {sc : Scope}
theorem okN_ok {x : Str} (h : okN x = true) : (x == ("__debug__" : Str)) = false ∧ (x == ("__classdict__" : Str)) = false := by
  unfold okN at h
  simp only [Bool.and_eq_true, beq_iff_eq] at h
  exact h
theorem visB_ok {x : Str} (g : Good X T Φ G N sc) (h : visB sc x = true) : Vis X.env.scope x := by
  rw [g.eS]
  unfold visB at h
  unfold Vis
  split at h
  · exact .inl (by assumption)
  · exact .inr (.inl (by assumption))
  · exact .inr (.inr (by assumption))
  · cases h
theorem glB_ok {x : Str} (g : Good X T Φ G N sc) (h : glB sc x = true) : Gl X x := by
  unfold Gl Env.kindOf
  rw [g.eS]
  unfold glB at h
  split at h
  · assumption
  · cases h
theorem attrB_ok {e : Expr} {f : Str} {env : Env} (h : attrB e = true) : attributeBase e f env (eval e env) = eval e env := by
  refine attrBase fun id p p2 z => ?_
  subst z
  cases h
theorem notSet_ok {e : Expr} {env : Env} (h : notSet e = true) : ∀ x, foldedSetIterable e env x = pure x := by
  intro x
  cases e <;> first | rfl | cases h
theorem Good.hu (g : Good X T Φ G N sc) : X.A.units + 65 < cLine := by have := g.room.un; omega
theorem FOk.blk {i : Nat} {fi : FI} {s : Shared} {H : Hp} {scope : Scope} {cenv : Env} {fp : List Addr} (h : FOk X T Φ i fi) : FOk (X.blk s H scope cenv fp) T Φ i fi := by
  revert h
  unfold FOk
  cases fi.kind <;> intro h
  · exact h
  · obtain ⟨cs, h1, h2⟩ := h
    exact ⟨cs, fun c hc => ⟨(h1 c hc).ex⟩, h2⟩
  · exact h
  · exact h
  · exact h
  · exact h
  · exact h
  · exact h
  · exact h
  · exact h
theorem Good.blk (g : Good X T Φ G N sc) {s : Shared} {H : Hp} {scope : Scope} {cl : List (Str × Addr)} {C : Addr} {fp : List Addr} (hk : scope.kind = .function) : Good (X.blk s H scope (compEnvC scope cl C X.env) fp) T Φ G N (relS scope sc) where
  eK := g.eK
  eN := g.eN
  nd := g.nd
  eS := by rw [← g.eS]; rfl
  kind := hk
  calm := g.calm
  room := g.room
  fns := fun i fi h => (g.fns i fi h).blk
  gss := g.gss
  blts := g.blts
  lam := g.lam
theorem de_to (h : DE X T Γ XE q a fa) (q' : Qu) : DE X T Γ XE (joinQ q q') a fa := by
  cases q with
  | fresh => cases q' with
    | fresh => exact h
    | clean => exact de_clean h
    | dirty => exact de_dirty h
  | clean => cases q' with
    | fresh => exact h
    | clean => exact h
    | dirty => exact de_dirty h
  | dirty => exact de_dirty h
theorem joinQ_comm (q q' : Qu) : joinQ q q' = joinQ q' q := by cases q <;> cases q' <;> rfl
theorem DM.da {n : Nat} : ∀ {n : Nat}, DM X T Γ XE (List.replicate n .brw) es fs → DA X T Γ XE es fs := by
  intro n ⟨t, p, s⟩
  refine ⟨t, p, fun H0 F0 σ H F env Q r h => s H0 F0 σ H F env Q r (wpR_mono h (fun ds hd F' H' vs x a => hd F' H' vs x ?_) fun _ _ z => z)⟩
  clear h
  have : ∀ (n : Nat) (vs : List V) (ds : List D), ArgsOk T H' F' (List.replicate n .brw) vs ds → Tops T H' F' vs ds := by
    intro n
    induction n with
    | zero => intro vs ds a; cases a; exact .nil
    | succ n ih => intro vs ds a; cases a with
      | cons h t => exact .cons h (ih _ _ t)
  exact this _ _ _ a
theorem DM.dc {n : Nat} : ∀ {n : Nat}, DM X T Γ XE (List.replicate n .frz) es fs → DC X T Γ XE es fs := by
  intro n ⟨t, p, s⟩
  refine ⟨t, p, fun H0 F0 σ H F env Q r h => s H0 F0 σ H F env Q r (wpR_mono h (fun ds hd F' H' vs x a => hd F' H' vs x ?_) fun _ _ z => z)⟩
  clear h
  have : ∀ (n : Nat) (vs : List V) (ds : List D), ArgsOk T H' F' (List.replicate n .frz) vs ds → Reps T H' F' vs ds := by
    intro n
    induction n with
    | zero => intro vs ds a; cases a; exact .nil
    | succ n ih => intro vs ds a; cases a with
      | cons h t => exact .cons h (ih _ _ t)
  exact this _ _ _ a
theorem cmpOk_of {op : CmpOp} (g : Good X T Φ G N sc) (h : cmpB op = true) : CmpOk X T op (cmpD op) := by
  cases op <;> first | cases h | skip
  · exact cmp_eq g.eK g.hu
  · exact cmp_ne g.eK g.hu
  · exact cmp_lt
  · exact cmp_le
  · exact cmp_gt
  · exact cmp_ge
  · exact cmp_in g.eK g.hu
  · exact cmp_notin g.eK g.hu
theorem de_bin {op : Operator} (h : binB op = true) (ha : DE X T Γ XE qa a fa) (hb : DE X T Γ XE qb b fb) : DE X T Γ XE .fresh (.BinOp a op b pos) fun env => (fa env).bind fun x => (fb env).bind fun y => binD op x y := by
  cases op <;> first | cases h | skip
  · exact de_add ha hb
  · exact de_bsub ha hb
  · exact de_mul ha hb
  · exact de_mod ha hb
  · exact de_pow ha hb
  · exact de_shl ha hb
  · exact de_shr ha hb
  · exact de_bor ha hb
  · exact de_bxor ha hb
  · exact de_band ha hb
  · exact de_fdiv ha hb
theorem boot_ok {x : Str} {ty : String} (h : tyN x = some ty) : bootBuiltins x = some (.type ty) ∧ x ≠ "__name__" ∧ (x == ("__debug__" : Str)) = false := by
  unfold tyN at h
  split at h
  · rename_i e; cases h; subst e; exact ⟨by decide +kernel, by decide +kernel, by decide +kernel⟩
  · split at h
    · rename_i e; cases h; subst e; exact ⟨by decide +kernel, by decide +kernel, by decide +kernel⟩
    · split at h
      · rename_i e; cases h; subst e; exact ⟨by decide +kernel, by decide +kernel, by decide +kernel⟩
      · split at h
        · rename_i e; cases h; subst e; exact ⟨by decide +kernel, by decide +kernel, by decide +kernel⟩
        · split at h
          · rename_i e; cases h; subst e; exact ⟨by decide +kernel, by decide +kernel, by decide +kernel⟩
          · cases h
theorem de_bf {f : BF} {x : Str} {p : Pos} (g : Good X T Φ G N sc) (hg : glB sc x = true) (hx : x = bfN f) (hb : G.blts.contains x = true) (hp : plainArg a = true) (hps : es.all plainArg = true) (ha : DA X T Γ XE (a :: es) fs) : DE X T Γ XE .fresh (.Call (.Name x p) (a :: es) [] pos) fun env => (fs env).bind fun ds => bfD f ds := by
  have hm : X.mg x = none := g.blts x (by simpa using hb)
  have hgl := glB_ok g hg
  subst hx
  have hn := backTo_none (env := X.env) (pos := pos) hps
  cases f
  · exact de_callB call_len (cal_len g.eK) hgl hm (by decide +kernel) (by decide) (by decide) hp hn ha
  · exact de_callTy (CallR.or call_list_of (call_listD g.calm)) (cal_list g.eK) hgl hm (by decide +kernel) (by decide) (by decide) hp hn ha
  · exact de_callTy call_int1 cal_int hgl hm (by decide +kernel) (by decide) (by decide) hp hn ha
  · exact de_callB (call_min2 g.calm) cal_min2 hgl hm (by decide +kernel) (by decide) (by decide) hp hn ha
  · exact de_callB (call_max2 g.calm) cal_max2 hgl hm (by decide +kernel) (by decide) (by decide) hp hn ha
  · exact de_callB (cr_min g.calm) (cal_minL g.eK) hgl hm (by decide +kernel) (by decide) (by decide) hp hn ha
  · exact de_callB (cr_max g.calm) (cal_maxL g.eK) hgl hm (by decide +kernel) (by decide) (by decide) hp hn ha
  · exact de_callB (cr_sum g.calm) (cal_sum g.eK) hgl hm (by decide +kernel) (by decide) (by decide) hp hn ha
  · exact de_callB cr_sortedI (cal_sorted g.eK) hgl hm (by decide +kernel) (by decide) (by decide) hp hn ha
  · exact de_callB (cr_any g.calm) (cal_any g.eK) hgl hm (by decide +kernel) (by decide) (by decide) hp hn ha
  · exact de_callB (cr_all g.calm) (cal_all g.eK) hgl hm (by decide +kernel) (by decide) (by decide) hp hn ha
theorem isT_names {ns : List (Str × Pos)} {us : List Value} (g : Good X T Φ G N sc) (h : ns.all (fun n => glB sc n.1 && okN n.1) = true) (p : Paired (NmC X) (ns.map (·.1)) us) : Paired (fun n u => Gl X n.1 ∧ (n.1 == ("__debug__" : Str)) = false ∧ NmC X n.1 u) ns us := by
  induction ns generalizing us with
  | nil => cases p; exact .nil
  | cons n r ih =>
    rw [List.all_cons, Bool.and_eq_true, Bool.and_eq_true] at h
    cases p with
    | cons h1 h2 => exact .cons ⟨glB_ok g h.1.1, (okN_ok h.1.2).1, h1⟩ (ih h.2 h2)
/-! ### targets -/
theorem relS_own (scope sc : Scope) (x : Str) (k : NameKind) (hk : k = .local ∨ k = .cell) (h : scope.names.lookup x = some k) : (relS scope sc).names.lookup x = some k := by
  unfold relS
  dsimp only
  generalize scope.names = l at h
  induction l with
  | nil => cases h
  | cons y l ih =>
    obtain ⟨n, j⟩ := y
    rw [List.map_cons]
    by_cases e : (x == n) = true
    · rw [List.lookup_cons, e] at h
      have hj : j = k := Option.some.inj h
      subst hj
      have nf : (j == NameKind.free) = false := by rcases hk with rfl | rfl <;> rfl
      simp only [nf, Bool.false_and, Bool.false_eq_true, if_false]
      rw [List.lookup_cons, e]
    · have e : (x == n) = false := by simpa using e
      rw [List.lookup_cons, e] at h
      have ih := ih h
      split <;> (rw [List.lookup_cons, e]; exact ih)
theorem pg_one {st : Bool} {i : Nat} {e : Expr} {sc' : Scope} (g : Good X T Φ G N sc) (hu : ∀ x k, (k = NameKind.local ∨ k = .cell) → sc'.names.lookup x = some k → sc.names.lookup x = some k) (hf : st = true → ∀ x, sc'.names.lookup x = some .cell → X.fn x = true) (h : chkT1 N st sc' Γ i e = true) : PG X e (gName i) ∧ NoO Γ i ∧ ∃ x p, e = .Name x p := by
  unfold chkT1 at h
  split at h
  · rename_i x p
    simp only [Bool.and_eq_true, beq_iff_eq, bne_iff_ne] at h
    obtain ⟨⟨⟨h1, h2⟩, h3⟩, h3'⟩ := h
    refine ⟨?_, ⟨h3, h3'⟩, x, p, rfl⟩
    have hi : X.N[i]? = some x := by rw [g.eN]; exact h1
    split at h2
    · rename_i e1
      exact pg_name (by rw [g.eN]; exact g.nd) hi (.inl (by rw [g.eS]; exact hu _ _ (.inl rfl) e1)) (.inr (by rw [g.eS]; exact hu _ _ (.inl rfl) e1))
    · rename_i e1
      exact pg_name (by rw [g.eN]; exact g.nd) hi (.inr (by rw [g.eS]; exact hu _ _ (.inr rfl) e1)) (.inl (hf h2 x e1))
    · cases h2
  · cases h
theorem pgs_of {st : Bool} {sc' : Scope} (g : Good X T Φ G N sc) (hu : ∀ x k, (k = NameKind.local ∨ k = .cell) → sc'.names.lookup x = some k → sc.names.lookup x = some k) (hf : st = true → ∀ x, sc'.names.lookup x = some .cell → X.fn x = true) : ∀ {is : List Nat} {es : List Expr}, chkTs N st sc' Γ is es = true →
    PGs X es (is.foldr (fun i t => gCons (gName i) t) gNil) ∧ (∀ i ∈ is, NoO Γ i) ∧ (assignEach es X.env).length = is.length ∧ (assignEach es X.env).findIdx? (·.1) = none
  | [], [], _ => ⟨pgs_nil, (fun _ h => by cases h), rfl, rfl⟩
  | [], _ :: _, h => by cases h
  | _ :: _, [], h => by cases h
  | i :: is, e :: es, h => by
    unfold chkTs at h
    rw [Bool.and_eq_true] at h
    obtain ⟨p1, m1, x, p, rfl⟩ := pg_one g hu hf h.1
    obtain ⟨p2, m2, l2, f2⟩ := pgs_of g hu hf h.2
    refine ⟨pgs_cons p1 p2, fun j hj => ?_, ?_, ?_⟩
    · rcases List.mem_cons.mp hj with rfl | hj
      · exact m1
      · exact m2 j hj
    · show (assignEach es X.env).length + 1 = is.length + 1
      rw [l2]
    · show List.findIdx? (·.1) ((false, _) :: assignEach es X.env) = none
      rw [List.findIdx?_cons]
      simp only [Bool.false_eq_true, if_false, f2]
      rfl
theorem dg_of {st : Bool} {t : Tg} {e : Expr} {sc' : Scope} (g : Good X T Φ G N sc) (hu : ∀ x k, (k = NameKind.local ∨ k = .cell) → sc'.names.lookup x = some k → sc.names.lookup x = some k) (hf : st = true → ∀ x, sc'.names.lookup x = some .cell → X.fn x = true) (h : chkT N st sc' Γ t e = true) : DG X T Γ e t := by
  unfold chkT at h
  split at h
  · obtain ⟨p, m, _⟩ := pg_one g hu hf h
    exact ⟨_, p, simG_one m⟩
  · obtain ⟨p, m, l, f⟩ := pgs_of g hu hf h
    exact ⟨_, pg_tl g.calm p l f, by rw [g.eK]; exact simG_many m fun ds env env' => bindMany_len _ ds env env'⟩
  · cases h
end
section
variable (T : Tab) (Φ : Nat → List D → Option D) (G : Gt) (N : List Str)
structure SndE (me : ME) : Prop where
  de : ∀ X sc Γ e, Good X T Φ G N sc → chkE G N me sc Γ e = true → DE X T Γ NoXE (qE G Γ me) e (ev Φ me)
  dt : ∀ X sc Γ e, Good X T Φ G N sc → chkE G N me sc Γ e = true → noIf e = true → DT X T Γ NoXE e (ev Φ me)
  dw : ∀ X sc Γ op vs pos, Good X T Φ G N sc → chkE G N me sc Γ (.BoolOp op vs pos) = true → DW X T Γ NoXE (.BoolOp op vs pos) (ev Φ me)
def SndO (o : Option ME) : Prop := ∀ X sc Γ e, Good X T Φ G N sc → chkO G N o sc Γ e = true → DO X T Γ NoXE e (evO Φ o)
def SndC (o : Option ME) : Prop := ∀ (ι : Type) (X : ι → Cx) sc Γ e, (∀ i, Good (X i) T Φ G N sc) → chkC G N o sc Γ e = true → ∃ tt, (∀ i, PTs (X i) e tt) ∧ SimT T Γ NoXE tt fun env => (evC Φ o env).bind truthD
def SndM (es : MEs) : Prop := ∀ X sc Γ ms xs, Good X T Φ G N sc → chkM G N es ms sc Γ xs = true → DM X T Γ NoXE ms xs (evs Φ es) ∧ xs.all plainArg = true ∧ ms.length = xs.length
def SndI (s : MI) : Prop := ∀ X sc Γ st tg e, Good X T Φ G N sc → chkI G N s st sc Γ tg e = true → DI X T Γ NoXE st tg e (evI Φ s)
variable {T Φ G N}
theorem SndE.of {me : ME} (h : ∀ X sc Γ e, Good X T Φ G N sc → chkE G N me sc Γ e = true → DE X T Γ NoXE (qE G Γ me) e (ev Φ me) ∧ testE e = true) : SndE T Φ G N me where
  de := fun X sc Γ e g hc => (h X sc Γ e g hc).1
  dt := fun X sc Γ e g hc _ => dt_of g.eK (h X sc Γ e g hc).2 (h X sc Γ e g hc).1
  dw := fun X sc Γ op vs pos g hc => by have := (h X sc Γ _ g hc).2; cases this
theorem SndE.of2 {me : ME} (h : ∀ X sc Γ e, Good X T Φ G N sc → chkE G N me sc Γ e = true → DE X T Γ NoXE (qE G Γ me) e (ev Φ me) ∧ DT X T Γ NoXE e (ev Φ me) ∧ ∀ op vs pos, e ≠ .BoolOp op vs pos) : SndE T Φ G N me where
  de := fun X sc Γ e g hc => (h X sc Γ e g hc).1
  dt := fun X sc Γ e g hc _ => (h X sc Γ e g hc).2.1
  dw := fun X sc Γ op vs pos g hc => absurd rfl ((h X sc Γ _ g hc).2.2 op vs pos)
theorem src_hs {X : Cx} {sc : Scope} {Γ : List Mo} {st : Bool} {a : ME} {ea : Expr} (sa : SndE T Φ G N a) (g : Good X T Φ G N sc) (h : chkE G N a sc Γ ea = true) (hs : srcB G st Γ a = true) : ∃ t, PE X ea t ∧ HsSrc T Γ st (fun env => ev Φ a env) t := by
  unfold srcB at hs
  simp only [Bool.or_eq_true, Bool.not_eq_true', decide_eq_true_eq] at hs
  rcases hs with (rfl | hs) | hs
  · obtain ⟨t, p, s⟩ := sa.de X sc Γ ea g h
    exact ⟨t, p, src_any s⟩
  · obtain ⟨t, p, s⟩ := sa.de X sc Γ ea g h
    exact ⟨t, p, src_rep hs s⟩
  · split at hs
    · rename_i i
      rw [Bool.and_eq_true, decide_eq_true_eq, decide_eq_true_eq] at hs
      unfold chkE at h
      split at h
      · simp only [Bool.and_eq_true, beq_iff_eq, decide_eq_true_eq] at h
        obtain ⟨⟨⟨⟨h1, h2⟩, h3⟩, h4⟩, _⟩ := h
        refine ⟨_, pe_var (by rw [g.eN]; exact h1) (visB_ok g h2) (okN_ok h3).1 (okN_ok h3).2, ?_⟩
        have := src_brw (T := T) (st := st) hs
        intro H0 F0 σ H F env d ds Q r e
        exact this H0 F0 σ H F env d ds Q r (by unfold ev at e; exact e)
      · cases h
    · cases hs
theorem chkM_nilr {e : ME} {es : MEs} {ms : List Mo} {sc : Scope} {Γ : List Mo} : chkM G N (.cons e es) ms sc Γ [] = false := by cases ms <;> (unfold chkM; rfl)
theorem comp_parts {elt : ME} {own : List (Str × Nat)} {t : Tg} {src : MI} {cond : Option ME} {X : Cx} {sc : Scope} {Γ : List Mo} {ee tg it : Expr} {ifs : List Expr} {scope : Scope} {p : Pos} (se : SndE T Φ G N elt) (si : SndI T Φ G N src) (sC : SndC T Φ G N cond) (g : Good X T Φ G N sc)
    (h : chkE G N (.comp elt own t src cond) sc Γ (.ListComp ee [⟨tg, it, ifs, 0⟩] scope p) = true) : ∃ wi gg tt te, PI X tg it wi ∧ BlkOk X.N X.env.scope scope own ∧ (∀ (s : Shared) (H : Hp) (C : Addr) (cl : List (Str × Addr)) (fp : List Addr), PG (X.blk s H scope (compEnvC scope cl C X.env) fp) tg gg) ∧
      (∀ (s : Shared) (H : Hp) (C : Addr) (cl : List (Str × Addr)) (fp : List Addr), PTs (X.blk s H scope (compEnvC scope cl C X.env) fp) ifs tt) ∧ (∀ (s : Shared) (H : Hp) (C : Addr) (cl : List (Str × Addr)) (fp : List Addr), PE (X.blk s H scope (compEnvC scope cl C X.env) fp) ee te) ∧
      (∀ x, foldedSetIterable it X.env x = pure x) ∧ SimE T Γ NoXE .fresh (tLc wi gg tt te (own.map (·.2))) (ev Φ (.comp elt own t src cond)) := by
  unfold chkE at h
  simp only [Bool.and_eq_true, decide_eq_true_eq] at h
  obtain ⟨⟨⟨⟨⟨⟨⟨h1, h2⟩, h3⟩, h4⟩, h5⟩, h6⟩, h7⟩, h8⟩ := h
  have ok : BlkOk X.N X.env.scope scope own := by rw [g.eN, g.eS]; exact blkOk_by h1
  let Xf : Shared × Hp × Addr × List (Str × Addr) × List Addr → Cx := fun i => X.blk i.1 i.2.1 scope (compEnvC scope i.2.2.2.1 i.2.2.1 X.env) i.2.2.2.2
  have gi : ∀ i, Good (Xf i) T Φ G N (relS scope sc) := fun i => g.blk ok.kind
  obtain ⟨wi, pi, swi⟩ := si X sc Γ false tg it g h3
  obtain ⟨gg, pg, sg⟩ := dg_unif fun i => dg_of (st := true) (gi i) (relS_own scope sc) (fun _ x e => by show (scope.names.lookup x == some .cell) = true; rw [e]; rfl) h4
  obtain ⟨tt, pt, st⟩ := sC _ Xf _ _ _ gi h5
  obtain ⟨te, pe, ste⟩ := de_unif fun i => se.de (Xf i) _ _ _ (gi i) h6
  have hv : ∀ i ∈ tgSlots t, i ∈ own.map (·.2) := fun i hi => by
    rw [List.all_eq_true] at h8
    simpa using h8 i hi
  exact ⟨wi, gg, tt, te, pi, ok, fun s H C cl fp => pg (s, H, C, cl, fp), fun s H C cl fp => pt (s, H, C, cl, fp), fun s H C cl fp => pe (s, H, C, cl, fp), notSet_ok h2, simLc swi sg st ste h7 hv⟩
theorem comp_partsF {elt : ME} {own : List (Str × Nat)} {t : Tg} {src : MI} {cond : Option ME} {X : Cx} {sc : Scope} {Γ : List Mo} {ee tg it : Expr} {ifs : List Expr} {scope : Scope} {p : Pos} (se : SndE T Φ G N elt) (si : SndI T Φ G N src) (sC : SndC T Φ G N cond) (g : Good X T Φ G N sc) (hfr : qE G (setM Γ .frz (own.map (·.2))) elt = .fresh)
    (h : chkE G N (.comp elt own t src cond) sc Γ (.ListComp ee [⟨tg, it, ifs, 0⟩] scope p) = true) : ∃ wi gg tt te, PI X tg it wi ∧ BlkOk X.N X.env.scope scope own ∧ (∀ (s : Shared) (H : Hp) (C : Addr) (cl : List (Str × Addr)) (fp : List Addr), PG (X.blk s H scope (compEnvC scope cl C X.env) fp) tg gg) ∧
      (∀ (s : Shared) (H : Hp) (C : Addr) (cl : List (Str × Addr)) (fp : List Addr), PTs (X.blk s H scope (compEnvC scope cl C X.env) fp) ifs tt) ∧ (∀ (s : Shared) (H : Hp) (C : Addr) (cl : List (Str × Addr)) (fp : List Addr), PE (X.blk s H scope (compEnvC scope cl C X.env) fp) ee te) ∧
      (∀ x, foldedSetIterable it X.env x = pure x) ∧ SimLF T Γ (tLc wi gg tt te (own.map (·.2))) (ev Φ (.comp elt own t src cond)) := by
  unfold chkE at h
  simp only [Bool.and_eq_true, decide_eq_true_eq] at h
  obtain ⟨⟨⟨⟨⟨⟨⟨h1, h2⟩, h3⟩, h4⟩, h5⟩, h6⟩, h7⟩, h8⟩ := h
  have ok : BlkOk X.N X.env.scope scope own := by rw [g.eN, g.eS]; exact blkOk_by h1
  let Xf : Shared × Hp × Addr × List (Str × Addr) × List Addr → Cx := fun i => X.blk i.1 i.2.1 scope (compEnvC scope i.2.2.2.1 i.2.2.1 X.env) i.2.2.2.2
  have gi : ∀ i, Good (Xf i) T Φ G N (relS scope sc) := fun i => g.blk ok.kind
  obtain ⟨wi, pi, swi⟩ := si X sc Γ false tg it g h3
  obtain ⟨gg, pg, sg⟩ := dg_unif fun i => dg_of (st := true) (gi i) (relS_own scope sc) (fun _ x e => by show (scope.names.lookup x == some .cell) = true; rw [e]; rfl) h4
  obtain ⟨tt, pt, st⟩ := sC _ Xf _ _ _ gi h5
  obtain ⟨te, pe, ste⟩ := de_unif fun i => se.de (Xf i) _ _ _ (gi i) h6
  have hv : ∀ i ∈ tgSlots t, i ∈ own.map (·.2) := fun i hi => by
    rw [List.all_eq_true] at h8
    simpa using h8 i hi
  exact ⟨wi, gg, tt, te, pi, ok, fun s H C cl fp => pg (s, H, C, cl, fp), fun s H C cl fp => pt (s, H, C, cl, fp), fun s H C cl fp => pe (s, H, C, cl, fp), notSet_ok h2, simLcF swi sg st (by rw [hfr] at ste; exact ste) hv⟩
mutual
theorem sndE : ∀ me : ME, SndE T Φ G N me
  | .var i => .of fun X sc Γ e g h => by
    unfold chkE at h
    split at h
    · simp only [Bool.and_eq_true, beq_iff_eq, decide_eq_true_eq] at h
      obtain ⟨⟨⟨⟨h1, h2⟩, h3⟩, h4⟩, hl⟩ := h
      refine ⟨?_, rfl⟩
      show DE X T Γ NoXE _ _ fun env => getV env i
      refine de_var (m := Γ[i]) (fun z => hl (by rw [List.getElem?_eq_getElem h4, z])) (List.getElem?_eq_getElem h4) ?_ (by rw [g.eN]; exact h1) (visB_ok g h2) (okN_ok h3).1 (okN_ok h3).2
      unfold qE
      rw [List.getElem?_eq_getElem h4]
      by_cases z : Γ[i] = .frz
      · rw [if_pos z, z]; rfl
      · rw [if_neg z, if_neg (fun y => z (Option.some.inj y))]
    · cases h
  | .int i => .of fun X sc Γ e g h => by
    unfold chkE at h
    split at h
    · rw [beq_iff_eq] at h; subst h
      exact ⟨de_const pe_int (fun _ _ => .int _) rfl, rfl⟩
    · cases h
  | .bl i => .of fun X sc Γ e g h => by
    unfold chkE at h
    split at h
    · rw [beq_iff_eq] at h; subst h
      exact ⟨de_const pe_bl (fun _ _ => .bl _) rfl, rfl⟩
    · cases h
  | .non => .of fun X sc Γ e g h => by
    unfold chkE at h
    split at h
    · exact ⟨de_const pe_non (fun _ _ => .non) rfl, rfl⟩
    · cases h
  | .str i => .of fun X sc Γ e g h => by
    unfold chkE at h
    split at h
    · rw [beq_iff_eq] at h; subst h
      exact ⟨de_const pe_str (fun _ _ => .str _) rfl, rfl⟩
    · cases h
  | .gstr n z => .of fun X sc Γ e g h => by
    unfold chkE at h
    split at h
    · simp only [Bool.and_eq_true, beq_iff_eq] at h
      obtain ⟨⟨⟨h1, h2⟩, h3⟩, h4⟩ := h
      obtain ⟨u, hu, hr⟩ := g.gss _ _ h4
      exact ⟨de_const (pe_glob (glB_ok g h2) hu hr (okN_ok h3).1) (fun _ _ => .str _) rfl, rfl⟩
    · cases h
  | .bin op a b => .of fun X sc Γ e g h => by
    have sa := sndE a
    have sb := sndE b
    unfold chkE at h
    split at h
    · simp only [Bool.and_eq_true, decide_eq_true_eq] at h
      obtain ⟨⟨⟨rfl, h2⟩, h3⟩, h4⟩ := h
      exact ⟨de_bin h2 (sa.de _ _ _ _ g h3) (sb.de _ _ _ _ g h4), rfl⟩
    · cases h
  | .neg a => .of fun X sc Γ e g h => by
    have sa := sndE a
    unfold chkE at h
    split at h
    · exact ⟨de_un (g := fun i => -i) un_neg (sa.de _ _ _ _ g h), rfl⟩
    · cases h
  | .inv a => .of fun X sc Γ e g h => by
    have sa := sndE a
    unfold chkE at h
    split at h
    · exact ⟨de_un (g := fun i => Builtin.bitNot i) un_inv (sa.de _ _ _ _ g h), rfl⟩
    · cases h
  | .cmp op a b => .of2 fun X sc Γ e g h => by
    have sa := sndE a
    have sb := sndE b
    unfold chkE at h
    split at h
    · simp only [Bool.and_eq_true, decide_eq_true_eq, beq_iff_eq] at h
      obtain ⟨⟨⟨⟨rfl, h2⟩, h3⟩, h4⟩, h5⟩ := h
      have := de_cmp (pos := by assumption) (cmpOk_of g h2) (sa.de _ _ _ _ g h4) (sb.de _ _ _ _ g h5) h3
      exact ⟨this.1, this.2, fun _ _ _ z => by cases z⟩
    · cases h
  | .chain op1 op2 a b c => .of2 fun X sc Γ e g h => by
    have sa := sndE a
    have sb := sndE b
    have sc' := sndE c
    unfold chkE at h
    split at h
    · simp only [Bool.and_eq_true, decide_eq_true_eq, beq_iff_eq] at h
      obtain ⟨⟨⟨⟨⟨⟨⟨rfl, rfl⟩, h1⟩, h2⟩, h3⟩, h4⟩, h5⟩, h6⟩ := h
      exact ⟨de_chain (cmpOk_of g h1) (cmpOk_of g h2) (sa.de _ _ _ _ g h4) (sb.de _ _ _ _ g h5) (sc'.de _ _ _ _ g h6) (fun ho ho' pa pb pc => pe_chain ho ho' pa pb pc h3),
        dt_chain (cmpOk_of g h1) (cmpOk_of g h2) (sa.de _ _ _ _ g h4) (sb.de _ _ _ _ g h5) (sc'.de _ _ _ _ g h6) (fun ho ho' pa pb pc => pt_chain ho ho' pa pb pc h3), fun _ _ _ z => by cases z⟩
    · cases h
  | .isN a => .of2 fun X sc Γ e g h => by
    have sa := sndE a
    unfold chkE at h
    split at h
    · exact ⟨de_isN (sa.de _ _ _ _ g h), dt_isN (sa.de _ _ _ _ g h), fun _ _ _ z => by cases z⟩
    · cases h
  | .notN a => .of2 fun X sc Γ e g h => by
    have sa := sndE a
    unfold chkE at h
    split at h
    · exact ⟨de_notN (sa.de _ _ _ _ g h), dt_notN (sa.de _ _ _ _ g h), fun _ _ _ z => by cases z⟩
    · cases h
  | .and_ a b => by
    have sa := sndE a
    have sb := sndE b
    have main : ∀ X sc Γ e, Good X T Φ G N sc → chkE G N (.and_ a b) sc Γ e = true → DE X T Γ NoXE .fresh e (ev Φ (.and_ a b)) ∧ DW X T Γ NoXE e (ev Φ (.and_ a b)) := by
      intro X sc Γ e g h
      unfold chkE at h
      split at h
      · rename_i ea eb rest pos
        simp only [Bool.and_eq_true] at h
        obtain ⟨⟨⟨h1, h2⟩, h3⟩, h4⟩ := h
        cases rest with
        | nil => exact ⟨de_and (sa.de _ _ _ _ g h3) (de_one (sb.de _ _ _ _ g h4)), dw_and (sa.dt _ _ _ _ g h3 h1) (dw_one_and (sb.dt _ _ _ _ g h4 h2))⟩
        | cons r rest => exact ⟨de_and (sa.de _ _ _ _ g h3) (sb.de _ _ _ _ g h4), dw_and (sa.dt _ _ _ _ g h3 h1) (sb.dw _ _ _ _ _ _ g h4)⟩
      · cases h
    refine ⟨fun X sc Γ e g h => (main X sc Γ e g h).1, fun X sc Γ e g h hn => ?_, fun X sc Γ op vs pos g h => (main X sc Γ _ g h).2⟩
    have := (main X sc Γ e g h).2
    unfold chkE at h
    split at h
    · exact this.dt
    · cases h
  | .or_ a b => by
    have sa := sndE a
    have sb := sndE b
    have main : ∀ X sc Γ e, Good X T Φ G N sc → chkE G N (.or_ a b) sc Γ e = true → DE X T Γ NoXE .fresh e (ev Φ (.or_ a b)) ∧ DW X T Γ NoXE e (ev Φ (.or_ a b)) := by
      intro X sc Γ e g h
      unfold chkE at h
      split at h
      · rename_i ea eb rest pos
        simp only [Bool.and_eq_true] at h
        obtain ⟨⟨⟨h1, h2⟩, h3⟩, h4⟩ := h
        cases rest with
        | nil => exact ⟨de_or (sa.de _ _ _ _ g h3) (de_one (sb.de _ _ _ _ g h4)), dw_or (sa.dt _ _ _ _ g h3 h1) (dw_one_or (sb.dt _ _ _ _ g h4 h2))⟩
        | cons r rest => exact ⟨de_or (sa.de _ _ _ _ g h3) (sb.de _ _ _ _ g h4), dw_or (sa.dt _ _ _ _ g h3 h1) (sb.dw _ _ _ _ _ _ g h4)⟩
      · cases h
    refine ⟨fun X sc Γ e g h => (main X sc Γ e g h).1, fun X sc Γ e g h hn => ?_, fun X sc Γ op vs pos g h => (main X sc Γ _ g h).2⟩
    have := (main X sc Γ e g h).2
    unfold chkE at h
    split at h
    · exact this.dt
    · cases h
  | .orv a b => by
    have sa := sndE a
    have sb := sndE b
    have main : ∀ X sc Γ e, Good X T Φ G N sc → chkE G N (.orv a b) sc Γ e = true → DE X T Γ NoXE (joinQ (qE G Γ a) (qE G Γ b)) e (ev Φ (.orv a b)) ∧ DW X T Γ NoXE e (ev Φ (.orv a b)) := by
      intro X sc Γ e g h
      unfold chkE at h
      split at h
      · simp only [Bool.and_eq_true] at h
        obtain ⟨⟨⟨h1, h2⟩, h3⟩, h4⟩ := h
        have hb := de_to (sb.de _ _ _ _ g h4) (qE G Γ a)
        rw [joinQ_comm] at hb
        exact ⟨de_orv g.eK (de_to (sa.de _ _ _ _ g h3) _) (de_one hb), dw_orv (sa.dt _ _ _ _ g h3 h1) (dw_one_or (sb.dt _ _ _ _ g h4 h2))⟩
      · cases h
    refine ⟨fun X sc Γ e g h => (main X sc Γ e g h).1, fun X sc Γ e g h hn => ?_, fun X sc Γ op vs pos g h => (main X sc Γ _ g h).2⟩
    have := (main X sc Γ e g h).2
    unfold chkE at h
    split at h
    · exact this.dt
    · cases h
  | .not_ a => .of2 fun X sc Γ e g h => by
    have sa := sndE a
    unfold chkE at h
    split at h
    · rw [Bool.and_eq_true] at h
      exact ⟨de_not (sa.de _ _ _ _ g h.2), dt_not (sa.dt _ _ _ _ g h.2 h.1), fun _ _ _ z => by cases z⟩
    · cases h
  | .ife c a b => by
    have sc' := sndE c
    have sa := sndE a
    have sb := sndE b
    refine ⟨fun X sc Γ e g h => ?_, fun X sc Γ e g h hn => ?_, fun X sc Γ op vs pos g h => ?_⟩
    · unfold chkE at h
      split at h
      · simp only [Bool.and_eq_true] at h
        obtain ⟨⟨⟨h1, h2⟩, h3⟩, h4⟩ := h
        show DE X T Γ NoXE (joinQ (qE G Γ a) (qE G Γ b)) _ _
        have hb := de_to (sb.de _ _ _ _ g h4) (qE G Γ a)
        rw [joinQ_comm] at hb
        exact de_ife (sc'.dt _ _ _ _ g h2 h1) (de_to (sa.de _ _ _ _ g h3) _) hb
      · cases h
    · unfold chkE at h
      split at h
      · cases hn
      · cases h
    · unfold chkE at h
      cases h
  | .subL i b => .of fun X sc Γ e g h => by
    have sb := sndE b
    unfold chkE at h
    split at h
    · simp only [Bool.and_eq_true, beq_iff_eq, decide_eq_true_eq] at h
      obtain ⟨⟨h0, ⟨⟨h1, h2⟩, h3⟩, h4⟩, h5⟩ := h
      refine ⟨?_, rfl⟩
      show DE X T Γ NoXE .dirty _ fun env => (getV env i).bind fun x => (ev Φ b env).bind fun y => subD x y
      exact de_subL g.eK g.hu h4 (by rw [g.eN]; exact h1) (visB_ok g h2) (okN_ok h3).1 (okN_ok h3).2 (sb.de _ _ _ _ g h5) (plainIx h0)
    · cases h
  | .sub a b => .of fun X sc Γ e g h => by
    have sa := sndE a
    have sb := sndE b
    unfold chkE at h
    split at h
    · simp only [Bool.and_eq_true] at h
      exact ⟨de_sub g.eK g.hu (sa.de _ _ _ _ g h.1.2) (sb.de _ _ _ _ g h.2) (plainIx h.1.1), rfl⟩
    · cases h
  | .slice a lo hi => .of fun X sc Γ e g h => by
    have sa := sndE a
    have sl := sndO lo
    have sh := sndO hi
    unfold chkE at h
    split at h
    · simp only [Bool.and_eq_true] at h
      exact ⟨de_slice g.eK (sa.de _ _ _ _ g h.1.1) (sl _ _ _ _ g h.1.2) (sh _ _ _ _ g h.2), rfl⟩
    · cases h
  | .rev a => .of fun X sc Γ e g h => by
    have sa := sndE a
    unfold chkE at h
    split at h
    · exact ⟨de_rev g.eK (sa.de _ _ _ _ g h), rfl⟩
    · cases h
  | .stp a lo st => .of fun X sc Γ e g h => by
    have sa := sndE a
    have sl := sndO lo
    have sh := sndO st
    unfold chkE at h
    split at h
    · simp only [Bool.and_eq_true] at h
      exact ⟨de_stp g.eK (sa.de _ _ _ _ g h.1.1) (sl _ _ _ _ g h.1.2) (sh _ _ _ _ g h.2), rfl⟩
    · cases h
  | .tup es => .of fun X sc Γ e g h => by
    have ss := sndM es
    unfold chkE at h
    split at h
    · exact ⟨de_tup (DM.dc (n := 0) (ss _ _ _ _ _ g h).1), rfl⟩
    · cases h
  | .lst es => .of fun X sc Γ e g h => by
    have ss := sndM es
    unfold chkE at h
    split at h
    · exact ⟨de_lst (DM.dc (n := 0) (ss _ _ _ _ _ g h).1), rfl⟩
    · cases h
  | .lrng a => .of fun X sc Γ e g h => by
    have sa := sndE a
    unfold chkE at h
    split at h
    · simp only [Bool.and_eq_true, beq_iff_eq] at h
      obtain ⟨⟨⟨⟨⟨⟨⟨rfl, h1⟩, h2⟩, rfl⟩, h3⟩, h4⟩, h5⟩, h6⟩ := h
      exact ⟨de_lrng g.calm (glB_ok g h1) (g.blts _ (by simpa using h2)) (glB_ok g h3) (g.blts _ (by simpa using h4)) h5 (sa.de _ _ _ _ g h6), rfl⟩
    · cases h
  | .sset a => .of fun X sc Γ e g h => by
    have sa := sndE a
    unfold chkE at h
    split at h
    · simp only [Bool.and_eq_true, beq_iff_eq] at h
      obtain ⟨⟨⟨⟨⟨⟨⟨rfl, h1⟩, h2⟩, rfl⟩, h3⟩, h4⟩, h5⟩, h6⟩ := h
      exact ⟨de_sset g.calm g.eK (glB_ok g h1) (g.blts _ (by simpa using h2)) (glB_ok g h3) (g.blts _ (by simpa using h4)) h5 (sa.de _ _ _ _ g h6), rfl⟩
    · cases h
  | .keyed i a => .of fun X sc Γ e g h => by
    have sa := sndE a
    unfold chkE at h
    split at h
    · rename_i x y ea wn t0 lsc t1 t2 kw hk
      simp only [Bool.and_eq_true, beq_iff_eq, decide_eq_true_eq] at h
      obtain ⟨⟨⟨⟨⟨⟨⟨⟨⟨⟨⟨⟨⟨⟨⟨⟨rfl, h1⟩, h2⟩, rfl⟩, h3⟩, h4⟩, h5⟩, h6⟩, h7⟩, h8⟩, h9⟩, h10⟩, rfl⟩, rfl⟩, rfl⟩, h11⟩, h12⟩ := h
      obtain ⟨q1, q2, q3, kp, lp, pa, p1, p2, p3, p4, p5, p6, pos, k, rfl, rfl⟩ := keyP_ok hk
      unfold keyS at h11
      simp only [Bool.and_eq_true, decide_eq_true_eq, Bool.not_eq_true', List.all_eq_true, Bool.or_eq_true, beq_iff_eq] at h11
      obtain ⟨⟨⟨⟨⟨k1, k2⟩, k3⟩, k4⟩, k5⟩, k6⟩ := h11
      have kx : KeyX X i wn "thing" lsc := {
        tab := g.lam (by simpa using h5)
        hN := by rw [g.eN]; exact h8
        vis := .inr (.inl (by rw [g.eS]; exact h10))
        cell := by rw [g.eS]; exact h10
        kind := k1
        co := k2
        gen := k3
        nc := fun y hy => (k4 y hy).1
        loc := k5
        free := k6
        one := fun y hy e => ((k4 y hy).2).elim (fun z => absurd e z) fun z => z
        d1 := (okN_ok h9).1
        d2 := by decide +kernel
        d3 := (okN_ok h9).2
        bind := fun q pa body cl pm cv ctv u => lam_bind q wn pa body lsc cl pm cv ctv u }
      exact ⟨de_keyed g.calm g.eK kx h12 rfl (by have := g.room.dp; omega) (by have := g.hu; omega) (glB_ok g h1) (g.blts _ (by simpa using h2)) (glB_ok g h3) (g.blts _ (by simpa using h4)) h6 (sa.de _ _ _ _ g h7), rfl⟩
    · cases h
  | .tx op es => .of2 fun X sc Γ e g h => by
    have tt : ∀ {a : Expr} {q : Qu} {fa : Ev → R D}, testE a = true → DE X T Γ NoXE q a fa → (∀ op vs pos, a ≠ .BoolOp op vs pos) → DE X T Γ NoXE q a fa ∧ DT X T Γ NoXE a fa ∧ ∀ op vs pos, a ≠ .BoolOp op vs pos := fun ht hd hb => ⟨hd, dt_of g.eK ht hd, hb⟩
    have e1 : ∀ a : ME, ev Φ (.tx op (.cons a .nil)) = fun env => (ev Φ a env).bind fun x => txD op [x] := fun a => by
      funext env
      show ((ev Φ a env).bind fun x => (R.ok ([] : List D)).bind fun r => .ok (x :: r)).bind (fun ds => txD op ds) = _
      rw [R.bind_assoc]
      rfl
    have e2 : ∀ a b : ME, ev Φ (.tx op (.cons a (.cons b .nil))) = fun env => (ev Φ a env).bind fun x => (ev Φ b env).bind fun y => txD op [x, y] := fun a b => by
      funext env
      show ((ev Φ a env).bind fun x => ((ev Φ b env).bind fun y => (R.ok ([] : List D)).bind fun r => .ok (y :: r)).bind fun r => .ok (x :: r)).bind (fun ds => txD op ds) = _
      rw [R.bind_assoc]
      congr 1
      funext x
      rw [R.bind_assoc, R.bind_assoc]
      rfl
    have e3 : ∀ a b c : ME, ev Φ (.tx op (.cons a (.cons b (.cons c .nil)))) = fun env => (ev Φ a env).bind fun x => (ev Φ b env).bind fun y => (ev Φ c env).bind fun z => txD op [x, y, z] := fun a b c => by
      funext env
      show ((ev Φ a env).bind fun x => ((ev Φ b env).bind fun y => ((ev Φ c env).bind fun z => (R.ok ([] : List D)).bind fun r => .ok (z :: r)).bind fun r => .ok (y :: r)).bind fun r => .ok (x :: r)).bind (fun ds => txD op ds) = _
      rw [R.bind_assoc]
      congr 1
      funext x
      rw [R.bind_assoc, R.bind_assoc]
      congr 1
      funext y
      rw [R.bind_assoc, R.bind_assoc]
      rfl
    unfold chkE at h
    cases op with
    | new =>
      dsimp only at h
      split at h
      · exact tt rfl de_newT (fun _ _ _ z => by cases z)
      · cases h
    | one =>
      dsimp only at h
      split at h
      · rename_i k v ke ve pos
        have sk := sndE k
        have sv := sndE v
        rw [Bool.and_eq_true] at h
        rw [e2]
        exact tt rfl (de_oneT g.hu (sk.de _ _ _ _ g h.1) (sv.de _ _ _ _ g h.2) (ev_nx Φ v) (ev_nx Φ k)) (fun _ _ _ z => by cases z)
      · cases h
    | get =>
      dsimp only at h
      split at h
      · rename_i o k d eo nm apos ke de pos
        have so := sndE o
        have sk := sndE k
        have sd := sndE d
        simp only [Bool.and_eq_true, beq_iff_eq] at h
        obtain ⟨⟨⟨⟨⟨⟨⟨rfl, h1⟩, h2⟩, h3⟩, h4⟩, h5⟩, h6⟩, h7⟩ := h
        have hl : (apos.endLine == pos.line) = true := by rw [beq_iff_eq]; exact h2
        rw [e3]
        refine tt rfl (de_getT g.hu (so.de _ _ _ _ g h5) (sk.de _ _ _ _ g h6) (sd.de _ _ _ _ g h7) (ev_nx Φ k) (ev_nx Φ d) ⟨attrB_ok h1, methForm (by rw [List.all_cons, h3, List.all_cons, h4]; rfl) (by show 2 < 29; decide), hl, ?_⟩) (fun _ _ _ z => by cases z)
        rw [starEach_cons h3, starEach_cons h4]
        rfl
      · cases h
    | find =>
      dsimp only at h
      split at h
      · rename_i a b eo nm apos eb pos
        have sa := sndE a
        have sb := sndE b
        simp only [Bool.and_eq_true, beq_iff_eq] at h
        obtain ⟨⟨⟨⟨⟨rfl, h1⟩, h2⟩, h3⟩, h4⟩, h5⟩ := h
        have hl : (apos.endLine == pos.line) = true := by rw [beq_iff_eq]; exact h2
        rw [e2]
        exact tt rfl (de_find (sa.de _ _ _ _ g h4) (sb.de _ _ _ _ g h5) (attrB_ok h1) hl h3 (ev_nx Φ b)) (fun _ _ _ z => by cases z)
      · cases h
    | join =>
      dsimp only at h
      split at h
      · rename_i a b eo nm apos eb pos
        have sa := sndE a
        have sb := sndE b
        simp only [Bool.and_eq_true, beq_iff_eq] at h
        obtain ⟨⟨⟨⟨⟨rfl, h1⟩, h2⟩, h3⟩, h4⟩, h5⟩ := h
        have hl : (apos.endLine == pos.line) = true := by rw [beq_iff_eq]; exact h2
        rw [e2]
        exact tt rfl (de_join g.eK (sa.de _ _ _ _ g h4) (sb.de _ _ _ _ g h5) (attrB_ok h1) hl h3 (ev_nx Φ b)) (fun _ _ _ z => by cases z)
      · cases h
    | split =>
      dsimp only at h
      split at h
      · rename_i a b eo nm apos eb pos
        have sa := sndE a
        have sb := sndE b
        simp only [Bool.and_eq_true, beq_iff_eq] at h
        obtain ⟨⟨⟨⟨⟨rfl, h1⟩, h2⟩, h3⟩, h4⟩, h5⟩ := h
        have hl : (apos.endLine == pos.line) = true := by rw [beq_iff_eq]; exact h2
        rw [e2]
        exact tt rfl (de_split (sa.de _ _ _ _ g h4) (sb.de _ _ _ _ g h5) (attrB_ok h1) hl h3 (ev_nx Φ b)) (fun _ _ _ z => by cases z)
      · cases h
    | copy =>
      dsimp only at h
      split at h
      · rename_i o eo nm apos pos
        have so := sndE o
        simp only [Bool.and_eq_true, beq_iff_eq] at h
        obtain ⟨⟨⟨rfl, h1⟩, h2⟩, h3⟩ := h
        have hl : (apos.endLine == pos.line) = true := by rw [beq_iff_eq]; exact h2
        rw [e1]
        exact tt rfl (de_copyT (so.de _ _ _ _ g h3) (attrB_ok h1) hl) (fun _ _ _ z => by cases z)
      · cases h
    | list =>
      dsimp only at h
      split at h
      · rename_i a x p ea pos
        have sa := sndE a
        simp only [Bool.and_eq_true, beq_iff_eq] at h
        obtain ⟨⟨⟨⟨rfl, h1⟩, h2⟩, h3⟩, h4⟩ := h
        exact tt rfl (de_callTy (call_list_dT g.calm) cal_listT (glB_ok g h1) (g.blts _ (by simpa using h2)) (by decide +kernel) (by decide) (by decide) h3 (backTo_none rfl) (da_cons h3 (sa.de _ _ _ _ g h4) da_nil)) (fun _ _ _ z => by cases z)
      · cases h
    | sub =>
      dsimp only at h
      split at h
      · rename_i a b ea eb pos
        have sa := sndE a
        have sb := sndE b
        rw [Bool.and_eq_true, Bool.and_eq_true] at h
        rw [e2]
        exact tt rfl (de_subT g.hu (sa.de _ _ _ _ g h.1.2) (sb.de _ _ _ _ g h.2) (plainIx h.1.1)) (fun _ _ _ z => by cases z)
      · cases h
    | sort =>
      dsimp only at h
      split at h
      · rename_i a x p ea pos
        have sa := sndE a
        simp only [Bool.and_eq_true, beq_iff_eq] at h
        obtain ⟨⟨⟨⟨rfl, h1⟩, h2⟩, h3⟩, h4⟩ := h
        exact tt rfl (de_callB cr_sortB (cal_sortT g.eK) (glB_ok g h1) (g.blts _ (by simpa using h2)) (by decide +kernel) (by decide) (by decide) h3 (backTo_none rfl) (da_cons h3 (sa.de _ _ _ _ g h4) da_nil)) (fun _ _ _ z => by cases z)
      · cases h
    | min =>
      dsimp only at h
      split at h
      · rename_i a x p ea pos
        have sa := sndE a
        simp only [Bool.and_eq_true, beq_iff_eq] at h
        obtain ⟨⟨⟨⟨rfl, h1⟩, h2⟩, h3⟩, h4⟩ := h
        exact tt rfl (de_callB (cr_minT g.calm g.hu) (cal_minT g.eK) (glB_ok g h1) (g.blts _ (by simpa using h2)) (by decide +kernel) (by decide) (by decide) h3 (backTo_none rfl) (da_cons h3 (sa.de _ _ _ _ g h4) da_nil)) (fun _ _ _ z => by cases z)
      · cases h
    | le =>
      dsimp only at h
      split at h
      · rename_i a b ea eb pos
        have sa := sndE a
        have sb := sndE b
        simp only [Bool.and_eq_true, beq_iff_eq] at h
        rw [e2]
        have := de_cmp (pos := pos) (cmp_leT g.eK g.hu) (sa.de _ _ _ _ g h.1.2) (sb.de _ _ _ _ g h.2) h.1.1
        exact ⟨this.1, this.2, fun _ _ _ z => by cases z⟩
      · cases h
  | .dct0 => .of fun X sc Γ e g h => by
    unfold chkE at h
    split at h
    · exact ⟨de_dct0, rfl⟩
    · cases h
  | .call f es => .of fun X sc Γ e g h => by
    have ss := sndM es
    unfold chkE at h
    split at h
    · rename_i x p xs pos
      simp only [Bool.or_eq_true, Bool.and_eq_true] at h
      refine ⟨?_, rfl⟩
      rcases h with (h | h) | h
      obtain ⟨⟨⟨h1, h2⟩, h3⟩, h4⟩ := h
      unfold chkFn at h3
      split at h3
      · rename_i fi ef
        simp only [Bool.and_eq_true, decide_eq_true_eq, beq_iff_eq] at h3
        obtain ⟨⟨k1, rfl⟩, k3⟩ := h3
        have ems : msF G f = fi.ms := by unfold msF; rw [ef]
        have eq : qE G Γ (.call f es) = fi.q := by unfold qE qF; rw [ef]
        rw [ems] at h4
        rw [eq]
        obtain ⟨dm, hp, hl⟩ := ss _ _ _ _ _ g h4
        have fo := g.fns f fi ef
        unfold FOk at fo
        rw [k1] at fo
        obtain ⟨k, fa, fd, ps, ds, dvs, dd, gg, Fn, rm, hm, hk, hb, hv, hdd, hΦ⟩ := fo
        have eΦ : ev Φ (.call f es) = fun env => (evs Φ es env).bind fun ds => ofO (gg (ds ++ dd)) := by
          funext env
          show (evs Φ es env).bind (fun ds => ofO (Φ f ds)) = _
          congr 1
          funext ds
          rw [hΦ]
        rw [eΦ]
        cases xs with
        | nil =>
          cases es with
          | nil =>
            have e0 : fi.ms = [] := by
              cases e1 : fi.ms with
              | nil => rfl
              | cons a l => rw [e1] at k3; cases k3
            rw [e0, List.nil_append] at Fn
            exact de_call0 Fn rm (glB_ok g h1) hm hk hb hv hdd (okN_ok h2).1
          | cons _ _ => rw [chkM_nilr] at h4; cases h4
        | cons x1 xs =>
          rw [List.all_cons, Bool.and_eq_true] at hp
          exact de_call Fn rm (glB_ok g h1) hm hk hb hv hdd (okN_ok h2).1 hp.1 hp.2 dm
      · cases h3
      obtain ⟨⟨⟨h1, h2⟩, h3⟩, h4⟩ := h
      rw [beq_iff_eq] at h1
      subst h1
      split at h4
      · rename_i ea c ec
        obtain ⟨p2, rfl⟩ := clsArg_ok ec
        simp only [Bool.and_eq_true] at h4
        obtain ⟨⟨⟨⟨h5, h6⟩, h7⟩, h8⟩, h9⟩ := h4
        unfold chkFn at h7
        split at h7
        · rename_i fi ef
          simp only [Bool.and_eq_true, decide_eq_true_eq, beq_iff_eq] at h7
          obtain ⟨⟨k1, rfl⟩, _⟩ := h7
          have fo := g.fns f fi ef
          unfold FOk at fo
          rw [k1] at fo
          obtain ⟨hq, u, hm, hG⟩ := fo
          have eq : qE G Γ (.call f es) = .fresh := by unfold qE qF; rw [ef]; exact hq
          rw [eq]
          split at h9
          · rename_i a
            have sa := sndE a
            have eΦ : ev Φ (.call f (.cons a .nil)) = fun env => (ev Φ a env).bind fun y => ofO (Φ f [y]) := by
              funext env
              show ((ev Φ a env).bind fun x => (R.ok ([] : List D)).bind fun r => .ok (x :: r)).bind (fun ds => ofO (Φ f ds)) = _
              rw [R.bind_assoc]
              rfl
            rw [eΦ]
            exact de_isX (gf := fun y => Φ f [y]) g.eK (glB_ok g h2) (g.blts _ (by simpa using h3)) (glB_ok g h5) (okN_ok h6).1 hm h8 hG (sa.de _ _ _ _ g h9)
          · cases h9
        · cases h7
      · cases h4
      obtain ⟨⟨⟨h1, h2⟩, h3⟩, h4⟩ := h
      rw [beq_iff_eq] at h1
      subst h1
      split at h4
      · rename_i ea ns ec
        obtain ⟨j, p2, rfl⟩ := clsArgT_ok ec
        simp only [Bool.and_eq_true] at h4
        obtain ⟨⟨h7, h8⟩, h9⟩ := h4
        unfold isTB at h7
        split at h7
        · rename_i fi ef
          simp only [Bool.and_eq_true, decide_eq_true_eq] at h7
          obtain ⟨⟨k1, k2⟩, k3⟩ := h7
          have fo := g.fns f fi ef
          unfold FOk at fo
          rw [k1] at fo
          obtain ⟨hq, us, hm, hG⟩ := fo
          have eq : qE G Γ (.call f es) = .fresh := by unfold qE qF; rw [ef]; exact hq
          rw [eq]
          split at h9
          · rename_i a
            have sa := sndE a
            have eΦ : ev Φ (.call f (.cons a .nil)) = fun env => (ev Φ a env).bind fun y => ofO (Φ f [y]) := by
              funext env
              show ((ev Φ a env).bind fun x => (R.ok ([] : List D)).bind fun r => .ok (x :: r)).bind (fun ds => ofO (Φ f ds)) = _
              rw [R.bind_assoc]
              rfl
            rw [eΦ]
            exact de_isXT (gf := fun y => Φ f [y]) g.eK (glB_ok g h2) (g.blts _ (by simpa using h3)) (isT_names g k2 hm) k3 h8 hG (sa.de _ _ _ _ g h9)
          · cases h9
        · cases h7
      · cases h4
    · cases h
  | .bf f es => .of fun X sc Γ e g h => by
    have ss := sndM es
    unfold chkE at h
    split at h
    · rename_i x p xs pos
      simp only [Bool.and_eq_true, beq_iff_eq] at h
      obtain ⟨⟨⟨⟨h1, h2⟩, h3⟩, h4⟩, h5⟩ := h
      refine ⟨?_, rfl⟩
      obtain ⟨dm, hp, hl⟩ := ss _ _ _ _ _ g h5
      cases xs with
      | nil => cases f <;> cases h4
      | cons x1 xs =>
        rw [List.all_cons, Bool.and_eq_true] at hp
        exact de_bf g h1 h2 h3 hp.1 hp.2 (DM.da (n := 0) dm)
    · cases h
  | .bm m o es => .of fun X sc Γ e g h => by
    have so := sndE o
    unfold chkE at h
    split at h
    · rename_i eo nm apos xs pos
      rw [Bool.and_eq_true, Bool.and_eq_true, Bool.and_eq_true] at h
      obtain ⟨⟨⟨h3, h4⟩, h5⟩, h6⟩ := h
      split at h6
      · rw [beq_iff_eq] at h6
        subst h6
        exact ⟨de_bits (so.de _ _ _ _ g h5) (attrB_ok h3) h4, rfl⟩
      · rename_i e ex
        simp only [Bool.and_eq_true] at h6
        obtain ⟨⟨h6, h7⟩, h8⟩ := h6
        rw [beq_iff_eq] at h6
        subst h6
        have se := sndE e
        refine ⟨?_, rfl⟩
        have eΦ : ev Φ (.bm .index o (.cons e .nil)) = fun env => (ev Φ o env).bind fun x => (ev Φ e env).bind fun y => bmD .index x [y] := by
          funext env
          show (ev Φ o env).bind (fun x => ((ev Φ e env).bind fun y => (R.ok ([] : List D)).bind fun r => .ok (y :: r)).bind fun ds => bmD .index x ds) = _
          congr 1
          funext x
          rw [R.bind_assoc]
          rfl
        rw [eΦ]
        exact de_index g.eK (so.de _ _ _ _ g h5) (se.de _ _ _ _ g h8) (attrB_ok h3) h4 h7 (ev_nx Φ e)
      · cases h6
    · cases h
  | .meth m o es => .of fun X sc Γ e g h => by
    have so := sndE o
    have ss := sndM es
    unfold chkE at h
    split at h
    · rename_i eo nm apos xs pos
      simp only [Bool.and_eq_true, decide_eq_true_eq] at h
      obtain ⟨⟨⟨⟨⟨h1, h2⟩, h3⟩, h4⟩, h5⟩, h6⟩ := h
      refine ⟨?_, rfl⟩
      unfold chkFn at h5
      split at h5
      · rename_i fi ef
        simp only [Bool.and_eq_true, decide_eq_true_eq, beq_iff_eq] at h5
        obtain ⟨⟨k1, rfl⟩, k3⟩ := h5
        have ems : msF G m = fi.ms := by unfold msF; rw [ef]
        have eq : qE G Γ (.meth m o es) = fi.q := by unfold qE qF; rw [ef]
        rw [ems] at h6
        rw [eq]
        obtain ⟨dm, hp, hl⟩ := ss _ _ _ _ _ g h6
        have fo := g.fns m fi ef
        unfold FOk at fo
        rw [k1] at fo
        obtain ⟨cs, hM, hg⟩ := fo
        cases xs with
        | nil =>
          cases es with
          | nil =>
            have e0 : fi.ms = [] := by
              cases e1 : fi.ms with
              | nil => rfl
              | cons a l => rw [e1] at k3; cases k3
            rw [e0] at hM
            exact de_meth0 hM hg (so.de _ _ _ _ g h4) (ev_nx Φ o) (attrB_ok h1) h2
          | cons _ _ => rw [chkM_nilr] at h6; cases h6
        | cons x1 xs =>
          rw [List.all_cons, Bool.and_eq_true] at hp
          exact de_meth hM hg (so.de _ _ _ _ g h4) (ev_nx Φ o) (evs_nx Φ es) (attrB_ok h1) h2 (by rw [List.length_cons] at h3; omega) hp.1 hp.2 dm
      · cases h5
    · cases h
  | .make f es => .of fun X sc Γ e g h => by
    have ss := sndM es
    unfold chkE at h
    split at h
    · rename_i x p xs pos
      simp only [Bool.and_eq_true, decide_eq_true_eq] at h
      obtain ⟨⟨⟨⟨h1, h2⟩, h3⟩, hne⟩, h4⟩ := h
      refine ⟨?_, rfl⟩
      unfold chkFn at h3
      split at h3
      · rename_i fi ef
        simp only [Bool.and_eq_true, decide_eq_true_eq, beq_iff_eq] at h3
        obtain ⟨⟨k1, rfl⟩, k3⟩ := h3
        have ems : msF G f = fi.ms := by unfold msF; rw [ef]
        rw [ems] at h4
        obtain ⟨dm, hp, hl⟩ := ss _ _ _ _ _ g h4
        have fo := g.fns f fi ef
        unfold FOk at fo
        rw [k1] at fo
        obtain ⟨_, k, C, fa, fd, ps, ds, dvs, dd, gg, M, Fn, rm, hm, hb, hv, hdd, hΦ, hc⟩ := fo
        have eΦ : ev Φ (.make f es) = fun env => (evs Φ es env).bind fun ds => ofO (gg (ds ++ dd)) := by
          funext env
          show (evs Φ es env).bind (fun ds => ofO (Φ f ds)) = _
          congr 1
          funext ds
          rw [hΦ]
        rw [eΦ]
        cases xs with
        | nil => exact absurd rfl hne
        | cons x1 xs =>
          rw [List.all_cons, Bool.and_eq_true] at hp
          exact de_make M Fn rm (glB_ok g h1) hm hb hv hdd (okN_ok h2).1 hp.1 hp.2 dm hc
      · cases h3
    · cases h
  | .attr o f => .of fun X sc Γ e g h => by
    have so := sndE o
    unfold chkE at h
    split at h
    · simp only [Bool.and_eq_true] at h
      obtain ⟨⟨h1, h2⟩, h3⟩ := h
      refine ⟨?_, rfl⟩
      split at h3
      · rename_i fi ef
        simp only [Bool.and_eq_true, decide_eq_true_eq, beq_iff_eq] at h3
        obtain ⟨k1, rfl⟩ := h3
        have fo := g.fns f fi ef
        unfold FOk at fo
        rw [k1] at fo
        exact de_attrX g.eK fo (so.de _ _ _ _ g h2) (ev_nx Φ o) (attrB_ok h1)
      · cases h3
    · cases h
  | .isi a ty => .of fun X sc Γ e g h => by
    have sa := sndE a
    unfold chkE at h
    split at h
    · simp only [Bool.and_eq_true, beq_iff_eq] at h
      obtain ⟨⟨⟨⟨⟨⟨⟨rfl, h2⟩, h3⟩, h4⟩, h5⟩, h6⟩, h7⟩, h8⟩ := h
      obtain ⟨b1, b2, b3⟩ := boot_ok h6
      exact ⟨de_isi g.eK (glB_ok g h2) (g.blts _ (by simpa using h3)) (by decide +kernel) (glB_ok g h4) (g.blts _ (by simpa using h5)) b1 b2 b3 h7 (sa.de _ _ _ _ g h8), rfl⟩
    · cases h
  | .comp elt own t src cond => .of fun X sc Γ e g h => by
    have se := sndE elt
    have si := sndI src
    have sC := sndC cond
    have h' := h
    unfold chkE at h
    split at h
    · obtain ⟨wi, gg, tt, te, pi, ok, pg, pt, pe, hs, sim⟩ := comp_parts se si sC g h'
      exact ⟨⟨_, pe_lc g.calm (by rw [g.eN]; exact g.nd) pi ok pg pt pe hs, sim⟩, rfl⟩
    · cases h
theorem sndO : ∀ o : Option ME, SndO T Φ G N o
  | none => fun X sc Γ e g h => by
    cases e with
    | none => exact do_none
    | some e => unfold chkO at h; cases h
  | some m => fun X sc Γ e g h => by
    have sm := sndE m
    cases e with
    | none => unfold chkO at h; cases h
    | some e => unfold chkO at h; exact do_some (sm.de _ _ _ _ g h)
theorem sndC : ∀ o : Option ME, SndC T Φ G N o
  | none => fun ι X sc Γ e g h => by
    cases e with
    | nil => exact ⟨tYes, fun i => pts_nil, fun H0 F0 σ H F env Q r h => h F H (Ext.refl _ _)⟩
    | cons _ _ => unfold chkC at h; cases h
  | some m => fun ι X sc Γ e g h => by
    have sm := sndE m
    match e, h with
    | [], h => unfold chkC at h; cases h
    | [e], h =>
      unfold chkC at h
      rw [Bool.and_eq_true] at h
      obtain ⟨t, p, s⟩ := dt_unif fun i => sm.dt (X i) sc Γ e (g i) h.2 h.1
      exact ⟨t, fun i => pts_one (p i), s⟩
    | _ :: _ :: _, h => unfold chkC at h; cases h
theorem sndM : ∀ es : MEs, SndM T Φ G N es
  | .nil => fun X sc Γ ms xs g h => by
    cases ms with
    | nil => cases xs with
      | nil => exact ⟨dm_nil, rfl, rfl⟩
      | cons _ _ => unfold chkM at h; cases h
    | cons _ _ => cases xs <;> (unfold chkM at h; cases h)
  | .cons e es => fun X sc Γ ms xs g h => by
    have se := sndE e
    have ss := sndM es
    cases ms with
    | nil => cases xs <;> (unfold chkM at h; cases h)
    | cons m ms => cases xs with
      | nil => unfold chkM at h; cases h
      | cons x xs =>
        unfold chkM at h
        simp only [Bool.and_eq_true, decide_eq_true_eq] at h
        obtain ⟨⟨⟨h1, h2⟩, h3⟩, h4⟩ := h
        obtain ⟨d, p, l⟩ := ss _ _ _ _ _ g h4
        exact ⟨dm_cons h1 h2 (se.de _ _ _ _ g h3) d, by rw [List.all_cons, h1, p]; rfl, by rw [List.length_cons, List.length_cons, l]⟩
theorem sndI : ∀ s : MI, SndI T Φ G N s
  | .plain a => fun X sc Γ st tg e g h => by
    have sa := sndE a
    unfold chkI at h
    rw [Bool.and_eq_true] at h
    obtain ⟨t, p, s⟩ := src_hs sa g h.1 h.2
    exact di_src g.eK p s (ev_nx Φ a)
  | .range1 a => fun X sc Γ st tg e g h => by
    have sa := sndE a
    unfold chkI at h
    split at h
    · simp only [Bool.and_eq_true, beq_iff_eq] at h
      obtain ⟨⟨⟨⟨rfl, h2⟩, h3⟩, h4⟩, h5⟩ := h
      exact di_range1 (glB_ok g h2) (g.blts _ (by simpa using h3)) h4 (sa.de _ _ _ _ g h5)
    · cases h
  | .range2 a b => fun X sc Γ st tg e g h => by
    have sa := sndE a
    have sb := sndE b
    unfold chkI at h
    split at h
    · simp only [Bool.and_eq_true, beq_iff_eq] at h
      obtain ⟨⟨⟨⟨⟨⟨rfl, h2⟩, h3⟩, h4⟩, h4'⟩, h5⟩, h6⟩ := h
      exact di_range2 (glB_ok g h2) (g.blts _ (by simpa using h3)) h4 h4' (sa.de _ _ _ _ g h5) (sb.de _ _ _ _ g h6)
    · cases h
  | .chars a => fun X sc Γ st tg e g h => by
    have sa := sndE a
    unfold chkI at h
    exact di_chars (sa.de _ _ _ _ g h)
  | .rev1 a => fun X sc Γ st tg e g h => by
    have sa := sndE a
    unfold chkI at h
    split at h
    · simp only [Bool.and_eq_true, beq_iff_eq] at h
      obtain ⟨⟨⟨⟨⟨⟨⟨rfl, h2⟩, h3⟩, rfl⟩, h5⟩, h6⟩, h7⟩, h8⟩ := h
      exact di_rev1 (glB_ok g h2) (g.blts _ (by simpa using h3)) (glB_ok g h5) (g.blts _ (by simpa using h6)) h7 (sa.de _ _ _ _ g h8)
    · cases h
  | .revL a => fun X sc Γ st tg e g h => by
    have sa := sndE a
    unfold chkI at h
    split at h
    · simp only [Bool.and_eq_true, beq_iff_eq] at h
      obtain ⟨⟨⟨⟨⟨rfl, h2⟩, h3⟩, h4⟩, h5⟩, h6⟩ := h
      obtain ⟨t, p, s⟩ := src_hs sa g h5 h6
      exact di_revL g.eK (glB_ok g h2) (g.blts _ (by simpa using h3)) h4 p s (ev_nx Φ a)
    · cases h
  | .enum a => fun X sc Γ st tg e g h => by
    have sa := sndE a
    unfold chkI at h
    split at h
    · simp only [Bool.and_eq_true, beq_iff_eq] at h
      obtain ⟨⟨⟨⟨⟨⟨rfl, h2⟩, h3⟩, h4⟩, h5⟩, h6⟩, h7⟩ := h
      obtain ⟨t, p, s⟩ := src_hs sa g h5 h6
      cases tg <;> first | (unfold isTupE at h7; cases h7; done) | skip
      exact di_enum g.eK (glB_ok g h2) (g.blts _ (by simpa using h3)) h4 p s (ev_nx Φ a)
    · cases h
  | .items a => fun X sc Γ st tg e g h => by unfold chkI at h; cases h
end
end
/-! ### what raises nothing may stand where something may be raised -/
section
variable {T : Tab} {Γ : List Mo} {XE : XT} {q : Qu}
theorem SimE.lift {t : TE} {f : Ev → R D} (s : SimE T Γ NoXE q t f) (hx : ∀ env c fs, f env ≠ .exc c fs) : SimE T Γ XE q t f := fun H0 F0 σ H F env Q r h => by
  refine s H0 F0 σ H F env Q r ?_
  cases e : f env with
  | ok d => rw [e] at h; exact h
  | exc c fs => exact absurd e (hx _ _ _)
  | bad => rw [e] at h; exact h.elim
theorem SimT.lift {t : TT} {f : Ev → R Bool} (s : SimT T Γ NoXE t f) (hx : ∀ env c fs, f env ≠ .exc c fs) : SimT T Γ XE t f := fun H0 F0 σ H F env Q r h => by
  refine s H0 F0 σ H F env Q r ?_
  cases e : f env with
  | ok d => rw [e] at h; exact h
  | exc c fs => exact absurd e (hx _ _ _)
  | bad => rw [e] at h; exact h.elim
theorem SimM.lift {t : TA} {ms : List Mo} {f : Ev → R (List D)} (s : SimM T Γ NoXE ms t f) (hx : ∀ env c fs, f env ≠ .exc c fs) : SimM T Γ XE ms t f := fun H0 F0 σ H F env Q r h => by
  refine s H0 F0 σ H F env Q r ?_
  cases e : f env with
  | ok d => rw [e] at h; exact h
  | exc c fs => exact absurd e (hx _ _ _)
  | bad => rw [e] at h; exact h.elim
theorem SimI.lift {st : Bool} {wi : TI} {f : Ev → R (List D)} (s : SimI T Γ NoXE st wi f) (hx : ∀ env c fs, f env ≠ .exc c fs) : SimI T Γ XE st wi f := fun H0 F0 σ H F env RR r h => by
  refine s H0 F0 σ H F env RR r ?_
  cases e : f env with
  | ok d => rw [e] at h; exact h
  | exc c fs => exact absurd e (hx _ _ _)
  | bad => rw [e] at h; exact h.elim
end
section
variable {T : Tab} {Φ : Nat → List D → Option D} {G : Gt} {N : List Str}
variable (T Φ G N) in
structure SndEx (me : ME) : Prop where
  de : ∀ {XE : XT} X sc Γ e, Good X T Φ G N sc → chkE G N me sc Γ e = true → DE X T Γ XE (qE G Γ me) e (ev Φ me)
  dt : ∀ {XE : XT} X sc Γ e, Good X T Φ G N sc → chkE G N me sc Γ e = true → noIf e = true → DT X T Γ XE e (ev Φ me)
theorem sndEx (me : ME) : SndEx T Φ G N me where
  de := fun X sc Γ e g h => by
    obtain ⟨t, p, s⟩ := (sndE me).de X sc Γ e g h
    exact ⟨t, p, s.lift (ev_nx Φ me)⟩
  dt := fun X sc Γ e g h n => by
    obtain ⟨t, p, s⟩ := (sndE me).dt X sc Γ e g h n
    exact ⟨t, p, s.lift fun env => bind_nx (ev_nx Φ me env) truthD_nx⟩
theorem sndMx {XE : XT} (es : MEs) : ∀ X sc Γ ms xs, Good X T Φ G N sc → chkM G N es ms sc Γ xs = true → DM X T Γ XE ms xs (evs Φ es) ∧ xs.all plainArg = true ∧ ms.length = xs.length := fun X sc Γ ms xs g h => by
  obtain ⟨⟨t, p, s⟩, r⟩ := sndM es X sc Γ ms xs g h
  exact ⟨⟨t, p, s.lift (evs_nx Φ es)⟩, r⟩
theorem sndIx {XE : XT} (src : MI) : ∀ X sc Γ st tg e, Good X T Φ G N sc → chkI G N src st sc Γ tg e = true → DI X T Γ XE st tg e (evI Φ src) := fun X sc Γ st tg e g h => by
  obtain ⟨t, p, s⟩ := sndI src X sc Γ st tg e g h
  exact ⟨t, p, s.lift (evI_nx Φ src)⟩
end
end Ev

set_option maxHeartbeats 4000000
/-! Ev: expressions that may raise: their checker, and that it is sound -/
namespace Ev
open PySem PySem.Spec PyProof.Rows L2
variable [Tbs]
section
variable (G : Gt) (N : List Str)
def qX (Γ : List Mo) : MX → Qu
  | .pl e => qE G Γ e
  | .call f _ => qF G f
  | _ => .fresh
def isCallX : MX → Bool
  | .call _ _ => true
  | _ => false
mutual
def chkX : MX → Scope → List Mo → Expr → Bool
  | .pl me, sc, Γ, e => chkE G N me sc Γ e
  | .call f es, sc, Γ, e => match e with
    | .Call (.Name x _) xs [] _ => glB sc x && okN x && chkFn G f .fnX x xs.length && decide (xs ≠ []) && chkM G N es (msF G f) sc Γ xs
    | _ => false
  | .tup es, sc, Γ, e => match e with
    | .Tuple xs _ _ => chkXs es sc Γ xs
    | _ => false
  | .comp elt own t src, sc, Γ, e => match e with
    | .ListComp ee [⟨tg, it, [], 0⟩] scope _ => isCallX elt && blkC N sc scope own && notSet it && chkI G N src false sc Γ tg it && chkT N true scope (setM Γ .frz (own.map (·.2))) t tg && chkX elt (relS scope sc) (setM Γ .frz (own.map (·.2))) ee && decide (qX G (setM Γ .frz (own.map (·.2))) elt ≠ .dirty) && (tgSlots t).all (fun i => (own.map (·.2)).contains i)
    | _ => false
def chkXs : MXs → Scope → List Mo → List Expr → Bool
  | .nil, _, _, [] => true
  | .cons e es, sc, Γ, x :: xs => plainArg x && decide (qX G Γ e ≠ .dirty) && chkX e sc Γ x && chkXs es sc Γ xs
  | _, _, _, _ => false
end
end
theorem FOk.xe {X : Cx} {T : Tab} {Φ : Nat → List D → Option D} {i : Nat} {fi : FI} {xe : Value → Shared → Prop} (h : FOk X T Φ i fi) : FOk { X with xe := xe } T Φ i fi := by
  revert h
  unfold FOk
  cases fi.kind <;> intro h
  · exact h
  · obtain ⟨cs, h1, h2⟩ := h
    exact ⟨cs, fun c hc => ⟨(h1 c hc).ex⟩, h2⟩
  · exact h
  · exact h
  · exact h
  · exact h
  · exact h
  · exact h
  · exact h
  · exact h
theorem Good.xe {X : Cx} {T : Tab} {Φ : Nat → List D → Option D} {G : Gt} {N : List Str} {sc : Scope} (g : Good X T Φ G N sc) (xe : Value → Shared → Prop) : Good { X with xe := xe } T Φ G N sc :=
  ⟨g.eK, g.eN, g.nd, g.eS, g.kind, g.calm, g.room, fun i fi h => (g.fns i fi h).xe, g.gss, g.blts, g.lam⟩
section
variable {T : Tab} {Φ : Nat → List D → Option D} {G : Gt} {N : List Str} {XE : XT}
/-- a call that may raise, in a comprehension's block -/
theorem callX_blk {X : Cx} {W : WX} {σ0 : St} {f : Nat} {es : MEs} {sc : Scope} {Γ : List Mo} {e : Expr} (g : Good X T Φ G N sc) (pass : ∀ σ', PassesAt (L2.CX X.prog X.w) X σ' fun cls d H' => W cls d σ0 H') (hW : ∀ c fs σ F H d, XE c fs σ F H → XD T H F c fs d → W (.ref (T.cl c)) d σ H)
    (h : chkX G N (.call f es) sc Γ e = true) : DE X T Γ (XBk XE σ0) (qX G Γ (.call f es)) e (evX Φ (.call f es)) := by
  unfold chkX at h
  split at h
  · rename_i x p xs pos
    simp only [Bool.and_eq_true, decide_eq_true_eq] at h
    obtain ⟨⟨⟨⟨h1, h2⟩, h3⟩, h4⟩, h5⟩ := h
    unfold chkFn at h3
    split at h3
    · rename_i fi ef
      simp only [Bool.and_eq_true, decide_eq_true_eq, beq_iff_eq] at h3
      obtain ⟨⟨k1, rfl⟩, k3⟩ := h3
      have ems : msF G f = fi.ms := by unfold msF; rw [ef]
      have eq : qX G Γ (.call f es) = fi.q := by
        show qF G f = fi.q
        unfold qF; rw [ef]
      rw [ems] at h5
      rw [eq]
      obtain ⟨dm, hp, _⟩ := sndMx (XE := XBk XE σ0) (Φ := Φ) (T := T) es X sc Γ _ _ g h5
      have fo := g.fns f fi ef
      unfold FOk at fo
      rw [k1] at fo
      obtain ⟨k, fa, fd, ps, Fn, rm, hm, hk, hb⟩ := fo
      cases xs with
      | nil => exact absurd rfl h4
      | cons a as =>
        rw [List.all_cons, Bool.and_eq_true] at hp
        exact de_callXB pass hW Fn rm (glB_ok g h1) hm hk hb (okN_ok h2).1 hp.1 hp.2 dm
    · cases h3
  · cases h
mutual
theorem sndX : ∀ (mx : MX) (X : Cx) (sc : Scope) (Γ : List Mo) (e : Expr), Good X T Φ G N sc → X.stack = X.env :: X.outer → X.env.frame = some X.env.locals → TakesX X T XE → chkX G N mx sc Γ e = true → DE X T Γ XE (qX G Γ mx) e (evX Φ mx)
  | .pl me, X, sc, Γ, e, g, hs, hf, tk, h => by
    unfold chkX at h
    exact (sndEx me).de X sc Γ e g h
  | .call f es, X, sc, Γ, e, g, hs, hf, tk, h => by
    unfold chkX at h
    split at h
    · rename_i x p xs pos
      simp only [Bool.and_eq_true, decide_eq_true_eq] at h
      obtain ⟨⟨⟨⟨h1, h2⟩, h3⟩, h4⟩, h5⟩ := h
      unfold chkFn at h3
      split at h3
      · rename_i fi ef
        simp only [Bool.and_eq_true, decide_eq_true_eq, beq_iff_eq] at h3
        obtain ⟨⟨k1, rfl⟩, k3⟩ := h3
        have ems : msF G f = fi.ms := by unfold msF; rw [ef]
        have eq : qX G Γ (.call f es) = fi.q := by
          show qF G f = fi.q
          unfold qF; rw [ef]
        rw [ems] at h5
        rw [eq]
        obtain ⟨dm, hp, _⟩ := sndMx (XE := XE) (Φ := Φ) (T := T) es X sc Γ _ _ g h5
        have fo := g.fns f fi ef
        unfold FOk at fo
        rw [k1] at fo
        obtain ⟨k, fa, fd, ps, Fn, rm, hm, hk, hb⟩ := fo
        cases xs with
        | nil => exact absurd rfl h4
        | cons a as =>
          rw [List.all_cons, Bool.and_eq_true] at hp
          exact de_callX tk Fn rm (glB_ok g h1) hm hk hb (okN_ok h2).1 hp.1 hp.2 dm
      · cases h3
    · cases h
  | .tup es, X, sc, Γ, e, g, hs, hf, tk, h => by
    unfold chkX at h
    split at h
    · exact de_tup (sndXs es X sc Γ _ g hs hf tk h)
    · cases h
  | .comp elt own t src, X, sc, Γ, e, g, hs, hf, tk, h => by
    unfold chkX at h
    split at h
    · rename_i ee tg it scope pos
      simp only [Bool.and_eq_true, decide_eq_true_eq] at h
      obtain ⟨⟨⟨⟨⟨⟨⟨h0, h1⟩, h2⟩, h3⟩, h4⟩, h6⟩, h7⟩, h8⟩ := h
      have ok : BlkOk X.N X.env.scope scope own := by rw [g.eN, g.eS]; exact blkOk_by h1
      let Xf : Shared × Hp × Addr × List (Str × Addr) × List Addr × (Value → Shared → Prop) → Cx := fun i => blkX X i.1 i.2.1 scope (compEnvC scope i.2.2.2.1 i.2.2.1 X.env) i.2.2.2.2.1 i.2.2.2.2.2
      have gi : ∀ i, Good (Xf i) T Φ G N (relS scope sc) := fun i => Good.xe (X := X.blk i.1 i.2.1 scope (compEnvC scope i.2.2.2.1 i.2.2.1 X.env) i.2.2.2.2.1) (g.blk ok.kind) i.2.2.2.2.2
      obtain ⟨wi, pi, swi⟩ := sndIx (XE := XE) src X sc Γ false tg it g h3
      obtain ⟨gg, pg, sg⟩ := dg_unif fun i => dg_of (st := true) (gi i) (relS_own scope sc) (fun _ x e => by show (scope.names.lookup x == some .cell) = true; rw [e]; rfl) h4
      obtain ⟨W, tkW, hW⟩ := tk
      cases elt with
      | call f es =>
        have el : ∀ σ0, ∃ te, (∀ i : { i // ∀ σ', PassesAt (L2.CX X.prog X.w) (Xf i) σ' fun cls d H' => W cls d σ0 H' }, PE (Xf i.1) ee te) ∧ SimE T (setM Γ .frz (own.map (·.2))) (XBk XE σ0) (qX G (setM Γ .frz (own.map (·.2))) (.call f es)) te (evX Φ (.call f es)) := fun σ0 => de_unif fun i => callX_blk (gi i.1) i.2 hW h6
        have hv : ∀ i ∈ tgSlots t, i ∈ own.map (·.2) := fun i hi => by
          rw [List.all_eq_true] at h8
          simpa using h8 i hi
        exact ⟨_, pe_lcX (te := fun σ0 => (el σ0).choose) g.calm (by rw [g.eN]; exact g.nd) hs hf tkW pi ok (notSet_ok h2) (fun s H C cl fp xe => pg (s, H, C, cl, fp, xe)) (fun s H C cl fp xe σ hp => (el σ).choose_spec.1 ⟨(s, H, C, cl, fp, xe), hp⟩), simLcX swi sg (fun σ0 => (el σ0).choose_spec.2) h7 hv fun d env => bindT_nx t d env⟩
      | _ => cases h0
    · cases h
theorem sndXs : ∀ (es : MXs) (X : Cx) (sc : Scope) (Γ : List Mo) (xs : List Expr), Good X T Φ G N sc → X.stack = X.env :: X.outer → X.env.frame = some X.env.locals → TakesX X T XE → chkXs G N es sc Γ xs = true → DC X T Γ XE xs (evXs Φ es)
  | .nil, X, sc, Γ, xs, g, hs, hf, tk, h => by
    cases xs with
    | nil => exact dc_nil
    | cons _ _ => unfold chkXs at h; cases h
  | .cons e es, X, sc, Γ, xs, g, hs, hf, tk, h => by
    cases xs with
    | nil => unfold chkXs at h; cases h
    | cons x xs =>
      unfold chkXs at h
      simp only [Bool.and_eq_true, decide_eq_true_eq] at h
      obtain ⟨⟨⟨h1, h2⟩, h3⟩, h4⟩ := h
      exact dc_cons h1 h2 (sndX e X sc Γ x g hs hf tk h3) (sndXs es X sc Γ xs g hs hf tk h4)
end
end
theorem FOk.tr {X : Cx} {T : Tab} {Φ : Nat → List D → Option D} {i : Nat} {fi : FI} {pn : List (Addr × Obj)} {xe : Value → Shared → Prop} (h : FOk X T Φ i fi) : FOk (X.tr pn xe) T Φ i fi := by
  revert h
  unfold FOk
  cases fi.kind <;> intro h
  · exact h
  · obtain ⟨cs, h1, h2⟩ := h
    exact ⟨cs, fun c hc => ⟨(h1 c hc).ex⟩, h2⟩
  · exact h
  · exact h
  · exact h
  · exact h
  · exact h
  · exact h
  · exact h
  · exact h
theorem Good.tr {X : Cx} {T : Tab} {Φ : Nat → List D → Option D} {G : Gt} {N : List Str} {sc : Scope} (g : Good X T Φ G N sc) (pn : List (Addr × Obj)) (xe : Value → Shared → Prop) : Good (X.tr pn xe) T Φ G N sc :=
  ⟨g.eK, g.eN, g.nd, g.eS, g.kind, g.calm, g.room, fun i fi h => (g.fns i fi h).tr, g.gss, g.blts, g.lam⟩
/-! ### a try's parts -/
def dTry : Stmt → Option (Stmt × Expr × Option Str × Stmt)
  | .Try [b] [.ExceptHandler (some x) n [s] _] [] [] _ => some (b, x, n, s)
  | _ => none
theorem dTry_ok {st b s : Stmt} {x : Expr} {n : Option Str} (h : dTry st = some (b, x, n, s)) : ∃ p' p, st = .Try [b] [.ExceptHandler (some x) n [s] p'] [] [] p := by
  unfold dTry at h
  split at h
  · cases h; exact ⟨_, _, rfl⟩
  · cases h
def dAsg : Stmt → Option (Str × Pos × Expr × Pos)
  | .Assign [.Name x p] e q => some (x, p, e, q)
  | _ => none
theorem dAsg_ok {st : Stmt} {x : Str} {p q : Pos} {e : Expr} (h : dAsg st = some (x, p, e, q)) : st = .Assign [.Name x p] e q := by
  unfold dAsg at h
  split at h
  · cases h; rfl
  · cases h
def dName : Expr → Option (Str × Pos)
  | .Name x p => some (x, p)
  | _ => none
theorem dName_ok {e : Expr} {x : Str} {p : Pos} (h : dName e = some (x, p)) : e = .Name x p := by
  unfold dName at h
  split at h
  · cases h; rfl
  · cases h
def dBool : Expr → Option Bool
  | .Constant (.bool b) _ _ => some b
  | _ => none
theorem dBool_ok {e : Expr} {b : Bool} (h : dBool e = some b) : ∃ k p, e = .Constant (.bool b) k p := by
  unfold dBool at h
  split at h
  · cases h; exact ⟨_, _, rfl⟩
  · cases h
def dExpr : Stmt → Option (Expr × Pos)
  | .Expr e p => some (e, p)
  | _ => none
theorem dExpr_ok {st : Stmt} {e : Expr} {p : Pos} (h : dExpr st = some (e, p)) : st = .Expr e p := by
  unfold dExpr at h
  split at h
  · cases h; rfl
  · cases h
/-- raise C('..') -/
def dRaise : Stmt → Option (Str × Pos × Str × Nat × Pos × Pos × Pos)
  | .Raise (some (.Call (.Name x p) [.Constant (.str m) j p2] [] p3)) none q => some (x, p, m, j, p2, p3, q)
  | _ => none
theorem dRaise_ok {st : Stmt} {x m : Str} {j : Nat} {p p2 p3 q : Pos} (h : dRaise st = some (x, p, m, j, p2, p3, q)) : st = .Raise (some (.Call (.Name x p) [.Constant (.str m) j p2] [] p3)) none q := by
  unfold dRaise at h
  split at h
  · cases h; rfl
  · cases h
/-- raise C(..) -/
def dRaiseI : Stmt → Option (Str × Pos × List Expr × Pos × Pos)
  | .Raise (some (.Call (.Name x p) xs [] p2)) none q => some (x, p, xs, p2, q)
  | _ => none
theorem dRaiseI_ok {st : Stmt} {x : Str} {xs : List Expr} {p p2 q : Pos} (h : dRaiseI st = some (x, p, xs, p2, q)) : st = .Raise (some (.Call (.Name x p) xs [] p2)) none q := by
  unfold dRaiseI at h
  split at h
  · cases h; rfl
  · cases h
end Ev

set_option maxHeartbeats 4000000
/-! Ev: the checker of statements, and that it is sound -/
namespace Ev
open PySem PySem.Spec PyProof.Rows L2
variable [Tbs]
def mmN : MM → Str
  | .app => "append" | .ins => "insert" | .clear => "clear" | .rev => "reverse" | .rem => "remove"
def joinM : List Mo → List Mo → List Mo
  | a :: r, b :: s => (if leMo a b then b else a) :: joinM r s
  | _, _ => []
def gd {α : Type} (b : Bool) (x : Option α) : Option α := if b then x else none
theorem gd_ok {α : Type} {b : Bool} {x : Option α} {a : α} (h : gd b x = some a) : b = true ∧ x = some a := by
  unfold gd at h
  cases b with
  | true => exact ⟨rfl, h⟩
  | false => cases h
def swB (sc : Scope) (x : Str) (p : Pos) : Expr → Bool
  | .ListComp _ _ s q => decide (sc.names.lookup x = some .local) && p.line == q.line && !(s.names.any fun (n, k) => n == x && (k == .local || k == .cell))
  | _ => false
def locL (sc : Scope) (x : Str) : Bool := decide (sc.names.lookup x = some .local)
def locB (sc : Scope) (x : Str) : Bool := match sc.names.lookup x with
  | some .local => true
  | some .cell => true
  | _ => false
def notComp : Expr → Bool
  | .ListComp _ _ _ _ => false
  | .SetComp _ _ _ _ => false
  | .DictComp _ _ _ _ _ => false
  | _ => true
def compOk : Expr → Bool
  | .ListComp _ [⟨_, _, _, 0⟩] _ _ => true
  | .ListComp _ _ _ _ => false
  | .SetComp _ _ _ _ => false
  | .DictComp _ _ _ _ _ => false
  | _ => true
def augB : Operator → Bool
  | .Add => true | .Sub => true | .Mult => true
  | _ => false
def isOwnVar (Γ : List Mo) : ME → Bool
  | .var i => decide (Γ[i]? = some .own)
  | _ => false
section
variable (G : Gt) (N : List Str) (sc : Scope) (qb : Qu)
def retB (Γ : List Mo) (me : ME) : Bool := decide (qb ≠ .dirty) && (isOwnVar Γ me || (decide (qE G Γ me ≠ .dirty) && (decide (qE G Γ me = qb) || (decide (qE G Γ me = .fresh) && decide (qb = .clean)))))
def slotB (i : Nat) (x : Str) : Bool := N[i]? == some x && visB sc x && okN x
/-- expressions that each give a value of its own -/
def chkF : MEs → List Mo → List Expr → Bool
  | .nil, _, [] => true
  | .cons e es, Γ, x :: xs => plainArg x && decide (qE G Γ e = .fresh) && chkE G N e sc Γ x && chkF es Γ xs
  | _, _, _ => false
def chkB : MB → Nat → List Mo → Stmt → Option (List Mo)
  | .asg j me, i, Γ, s => match s with
    | .Assign [.Name x _] ve _ => gd (N[j]? == some x && locB sc x && decide (j < Γ.length) && chkE G N me sc Γ ve && decide (qE G Γ me ≠ .dirty) && notComp ve && decide (j ≠ i)) (some (Γ.set j (moQ (qE G Γ me))))
    | _ => none
  | .setI j k me, i, Γ, s => match s with
    | .Assign [.Subscript (.Name x _) ke _] ve _ => gd (slotB N sc j x && decide (Γ[j]? = some .own) && notSlice ke && chkE G N k sc Γ ke && chkE G N me sc Γ ve && decide (qE G Γ me ≠ .dirty) && decide (j ≠ i)) (some Γ)
    | _ => none
  | .iff c b, i, Γ, s => match s with
    | .If ce [s1] [] _ => match chkB b i Γ s1 with
      | some Γ1 => gd (noIf ce && chkE G N c sc Γ ce && wkM Γ1 Γ) (some Γ)
      | none => none
    | _ => none
/-- x.m(..) -/
def dMeth : Expr → Option (Str × Pos × Str × Pos × List Expr × Pos)
  | .Call (.Attribute (.Name x p) nm apos) xs [] cpos => some (x, p, nm, apos, xs, cpos)
  | _ => none
theorem dMeth_ok {e : Expr} {x nm : Str} {p apos cpos : Pos} {xs : List Expr} (h : dMeth e = some (x, p, nm, apos, xs, cpos)) : e = .Call (.Attribute (.Name x p) nm apos) xs [] cpos := by
  unfold dMeth at h
  split at h
  · cases h; rfl
  · cases h
/-- x.items() -/
def dItems : Expr → Option (Str × Pos × Pos × Pos)
  | .Call (.Attribute (.Name x p) nm apos) [] [] cpos => if nm == ("items" : Str) then some (x, p, apos, cpos) else none
  | _ => none
theorem dItems_ok {e : Expr} {x : Str} {p apos cpos : Pos} (h : dItems e = some (x, p, apos, cpos)) : e = .Call (.Attribute (.Name x p) "items" apos) [] [] cpos := by
  unfold dItems at h
  split at h
  · split at h
    · rename_i hn
      rw [beq_iff_eq] at hn
      cases h
      rw [hn]
    · cases h
  · cases h
mutual
def chkS : MS → List Mo → List Mo → Stmt → Option (Option (List Mo))
  | .asgL i es, Γ, _, s => match s with
    | .Assign [.Name x p] (.List xs _) _ => gd (N[i]? == some x && locB sc x && decide (i < Γ.length) && chkF G N sc es Γ xs) (some (some (Γ.set i .lol)))
    | _ => none
  | .mutL m i k es, Γ, _, s => match s with
    | .Expr (.Call (.Attribute (.Subscript (.Name x _) ke _) nm apos) xs [] cpos) _ => gd (slotB N sc i x && decide (Γ[i]? = some .lol) && nm == mmN m && apos.endLine == cpos.line && decide (xs.length < 29) && notSlice ke && chkE G N k sc Γ ke && chkM G N es (List.replicate xs.length .frz) sc Γ xs) (some (some Γ))
    | _ => none
  | .asg i me, Γ, _, s => match s with
    | .Assign [.Name x p] ve _ => gd (N[i]? == some x && locB sc x && decide (i < Γ.length) && chkE G N me sc Γ ve && decide (qE G Γ me ≠ .dirty) && compOk ve) (some (some (Γ.set i (moQ (qE G Γ me)))))
    | _ => none
  | .tasg is me, Γ, _, s => match s with
    | .Assign [.Tuple es k p] ve _ => gd (chkTs N true sc Γ is es && chkE G N me sc Γ ve && decide (qE G Γ me ≠ .dirty) && notComp ve && !isTupE ve) (some (some Γ))
    | _ => none
  | .aug op i me, Γ, _, s => match s with
    | .AugAssign (.Name x p) op' ve _ => gd (decide (op = op') && augB op && N[i]? == some x && locB sc x && decide (Γ[i]? = some .frz) && chkE G N me sc Γ ve) (some (some Γ))
    | _ => none
  | .setI i k me, Γ, _, s => match s with
    | .Assign [.Subscript (.Name x p) ke _] ve _ => gd (slotB N sc i x && decide (Γ[i]? = some .own) && notSlice ke && chkE G N k sc Γ ke && chkE G N me sc Γ ve && decide (qE G Γ me ≠ .dirty)) (some (some Γ))
    | _ => none
  | .mut m i es, Γ, _, s => match s with
    | .Expr (.Call (.Attribute (.Name x _) nm apos) xs [] cpos) _ => gd (slotB N sc i x && decide (Γ[i]? = some .own) && nm == mmN m && apos.endLine == cpos.line && decide (xs.length < 29) && chkM G N es (List.replicate xs.length .frz) sc Γ xs) (some (some Γ))
    | _ => none
  | .pop j m i es, Γ, _, s => match j, s with
    | none, .Expr (.Call (.Attribute (.Name x _) nm apos) xs [] cpos) _ => gd (slotB N sc i x && decide (Γ[i]? = some .own) && nm == ("pop" : Str) && apos.endLine == cpos.line && decide (xs.length < 29) && decide (m = .pop0 ↔ xs = []) && chkM G N es (List.replicate xs.length .frz) sc Γ xs) (some (some Γ))
    | some j, .Assign [.Name y py] (.Call (.Attribute (.Name x _) nm apos) xs [] cpos) _ => gd (slotB N sc i x && decide (Γ[i]? = some .own) && nm == ("pop" : Str) && apos.endLine == cpos.line && decide (xs.length < 29) && decide (m = .pop0 ↔ xs = []) && chkM G N es (List.replicate xs.length .frz) sc Γ xs && N[j]? == some y && locB sc y && decide (j < Γ.length) && decide (i ≠ j)) (some (some (Γ.set j .frz)))
    | _, _ => none
  | .expr me, Γ, _, s => match s with
    | .Expr ve _ => gd (chkE G N me sc Γ ve && notComp ve) (some (some Γ))
    | _ => none
  | .ret me, Γ, _, s => match s with
    | .Return (some ve) _ => gd (chkE G N me sc Γ ve && retB G qb Γ me) (some none)
    | _ => none
  | .retN, _, _, s => match s with
    | .Return none _ => gd (decide (qb ≠ .dirty)) (some none)
    | _ => none
  | .no, _, _, s => match s with
    | .Raise _ _ _ => some none
    | _ => none
  | .iff c a b, Γ, Γb, s => match s with
    | .If ce as bs _ => gd (noIf ce && chkE G N c sc Γ ce) (match chkSs a Γ Γb as, chkSs b Γ Γb bs with
      | some none, some o => some o
      | some (some x), some none => some (some x)
      | some (some x), some (some y) => gd (wkM x (joinM x y) && wkM y (joinM x y)) (some (some (joinM x y)))
      | _, _ => none)
    | _ => none
  | .whl inv c a, Γ, _, s => match s with
    | .While ce as [] _ => gd (wkM Γ inv && noIf ce && chkE G N c sc inv ce) (match chkSs a inv inv as with
      | some none => some (some inv)
      | some (some e) => gd (wkM e inv) (some (some inv))
      | none => none)
    | _ => none
  | .for_ inv t src a, Γ, _, s => match s with
    | .For tg it as [] _ => gd (wkM Γ inv && notSet it && chkI G N src true sc Γ tg it && chkT N true sc inv t tg) (match chkSs a inv inv as with
      | some none => some (some inv)
      | some (some e) => gd (wkM e inv) (some (some inv))
      | none => none)
    | _ => none
  | .forA inv t src j me, Γ, _, s => match s with
    | .For tg it [.Assign [.Name x _] ve _] [] _ => gd (wkM Γ inv && notSet it && chkI G N src false sc Γ tg it && chkT N true sc inv t tg && N[j]? == some x && locB sc x && decide (j < inv.length) && chkE G N me sc inv ve && decide (qE G inv me ≠ .dirty) && notComp ve && wkM (inv.set j (moQ (qE G inv me))) inv) (some (some inv))
    | _ => none
  | .forO inv t i b, Γ, _, s => match s with
    | .For tg (.Name x _) [s1] [] _ => match chkB G N sc b i inv s1 with
      | some Γ1 => gd (slotB N sc i x && wkM Γ inv && decide (inv[i]? = some .own) && !((tgSlots t).contains i) && chkT N true sc inv t tg && wkM Γ1 inv) (some (some inv))
      | none => none
    | _ => none
  | .setT i k me, Γ, _, s => match s with
    | .Assign [.Subscript (.Name x p) ke _] ve _ => gd (slotB N sc i x && decide (Γ[i]? = some .own) && notSlice ke && chkE G N k sc Γ ke && chkE G N me sc Γ ve && decide (qE G Γ me ≠ .dirty)) (some (some Γ))
    | _ => none
  | .apop i j m es, Γ, _, s => match s with
    | .Expr e _ => match dMeth e with
      | some (x, _, nm, apos, [a], cpos) => match dMeth a with
        | some (y, _, nm2, apos2, xs, cpos2) => gd (slotB N sc i x && decide (Γ[i]? = some .own) && nm == ("append" : Str) && apos.endLine == cpos.line && slotB N sc j y && decide (Γ[j]? = some .own) && nm2 == ("pop" : Str) && apos2.endLine == cpos2.line && decide (xs.length < 29) && chkM G N es (List.replicate xs.length .frz) sc Γ xs && decide (j ≠ i)) (some (some Γ))
        | none => none
      | _ => none
    | _ => none
  | .forD inv t i a, Γ, _, s => match s with
    | .For tg it as [] _ => match dItems it with
      | some (x, _, apos, cpos) => gd (slotB N sc i x && decide (Γ[i]? = some .frz) && apos.endLine == cpos.line && isTupE tg && wkM Γ inv && chkT N true sc inv t tg) (match chkSs a inv inv as with
        | some (some e) => gd (wkM e inv) (some (some inv))
        | _ => none)
      | none => none
    | _ => none
  | .asgC i me, Γ, _, s => match me, s with
    | .comp elt own t src cond, .Assign [.Name x p] ve _ => gd (N[i]? == some x && locB sc x && decide (i < Γ.length) && chkE G N (.comp elt own t src cond) sc Γ ve && decide (qE G (setM Γ .frz (own.map (·.2))) elt = .fresh) && compOk ve) (some (some (Γ.set i .lol)))
    | _, _ => none
  | .mkL h i me, Γ, _, s => match s with
    | .Assign [.Name x p] ve _ => gd (N[h]? == some x && locB sc x && decide (h < Γ.length) && decide (Γ[i]? = some .lol) && chkE G N me sc (Γ.set i .own) ve && decide (qE G (Γ.set i .own) me ≠ .dirty) && notComp ve) (some (some (Γ.set h .frz)))
    | _ => none
  | .iffL i c a b, Γ, Γb, s => match s with
    | .If ce as bs _ => gd (noIf ce && decide (Γ[i]? = some .lol) && chkE G N c sc (Γ.set i .frz) ce) (match chkSs a Γ Γb as, chkSs b Γ Γb bs with
      | some none, some o => some o
      | some (some x), some none => some (some x)
      | some (some x), some (some y) => gd (wkM x (joinM x y) && wkM y (joinM x y)) (some (some (joinM x y)))
      | _, _ => none)
    | _ => none
  | .wipe i j, Γ, _, s => match s with
    | .For (.Name y _) (.Name x _) [.Expr e _] [] _ => match dMeth e with
      | some (y', _, nm, apos, [], cpos) => gd (slotB N sc i x && decide (Γ[i]? = some .lol) && slotB N sc j y && locB sc y && y' == y && nm == ("clear" : Str) && apos.endLine == cpos.line && decide (j ≠ i)) (some (some ((Γ.set j .frz).set i .own)))
      | _ => none
    | _ => none
  | .asgX i mx, Γ, _, s => match dAsg s with
    | some (x, _, ve, _) => gd (N[i]? == some x && locB sc x && decide (i < Γ.length) && chkX G N mx sc Γ ve && decide (qX G Γ mx ≠ .dirty) && notComp ve) (some (some (Γ.set i (moQ (qX G Γ mx)))))
    | none => none
  | .exprX mx, Γ, _, s => match dExpr s with
    | some (ve, _) => gd (chkX G N mx sc Γ ve && notComp ve) (some (some Γ))
    | none => none
  | .retX mx, Γ, _, s => match s with
    | .Return (some ve) _ => gd (chkX G N mx sc Γ ve && decide (qX G Γ mx ≠ .dirty) && (decide (qX G Γ mx = qb) || (decide (qX G Γ mx = .fresh) && decide (qb = .clean)))) (some none)
    | _ => none
  | .raise f es, Γ, _, s => match es, dRaise s, dRaiseI s with
    | .nil, some (x, _), _ => gd (glB sc x && okN x && chkFn G f .rse x 0) (some none)
    | es, _, some (x, _, xs, _) => gd (glB sc x && okN x && chkFn G f .rsi x xs.length && decide (xs ≠ []) && chkM G N es (msF G f) sc Γ xs) (some none)
    | _, _, _ => none
  | .tryA i mx f j j2, Γ, _, s => match dTry s with
    | some (b, xe, some n, s2) => match dAsg b, dName xe, dAsg s2 with
      | some (z, _, ve, _), some (x, _), some (y, _, ne, _) => match dName ne with
        | some (n', _) => gd (n' == n && locL sc n && locL sc y && locL sc z && N[i]? == some z && N[j]? == some n && N[j2]? == some y && decide (i < Γ.length) && decide (j2 < Γ.length) && decide (j ≠ j2) && okN n && chkX G N mx sc Γ ve && decide (qX G Γ mx ≠ .dirty) && notComp ve && glB sc x && okN x && chkFn G f .exc x 0 && wkM (Γ.set i (moQ (qX G Γ mx))) (joinM (Γ.set i (moQ (qX G Γ mx))) ((Γ.set j .frz).set j2 .frz)) && wkM ((Γ.set j .frz).set j2 .frz) (joinM (Γ.set i (moQ (qX G Γ mx))) ((Γ.set j .frz).set j2 .frz))) (some (some (joinM (Γ.set i (moQ (qX G Γ mx))) ((Γ.set j .frz).set j2 .frz))))
        | none => none
      | _, _, _ => none
    | _ => none
  | .tryB i mx f j b, Γ, _, s => match dTry s with
    | some (bd, xe, none, s2) => match dName xe, dAsg s2 with
      | some (x, _), some (y, _, be, _) => match dBool be with
        | some b' => gd (b' == b && locL sc y && N[j]? == some y && decide (j < Γ.length) && glB sc x && okN x && chkFn G f .exc x 0) (match i with
          | some i => match dAsg bd with
            | some (z, _, ve, _) => gd (locL sc z && N[i]? == some z && decide (i < Γ.length) && chkX G N mx sc Γ ve && decide (qX G Γ mx ≠ .dirty) && notComp ve && wkM (Γ.set i (moQ (qX G Γ mx))) (joinM (Γ.set i (moQ (qX G Γ mx))) (Γ.set j .own)) && wkM (Γ.set j .own) (joinM (Γ.set i (moQ (qX G Γ mx))) (Γ.set j .own))) (some (some (joinM (Γ.set i (moQ (qX G Γ mx))) (Γ.set j .own))))
            | none => none
          | none => match dExpr bd with
            | some (ve, _) => gd (chkX G N mx sc Γ ve && notComp ve && wkM Γ (joinM Γ (Γ.set j .own)) && wkM (Γ.set j .own) (joinM Γ (Γ.set j .own))) (some (some (joinM Γ (Γ.set j .own))))
            | none => none)
        | none => none
      | _, _ => none
    | _ => none
  | .brk, Γ, Γb, s => match s with
    | .Break _ => gd (wkM Γ Γb) (some none)
    | _ => none
  | .cnt, Γ, Γb, s => match s with
    | .Continue _ => gd (wkM Γ Γb) (some none)
    | _ => none
  | .pass, Γ, _, s => match s with
    | .Pass _ => some (some Γ)
    | _ => none
def chkSs : MSs → List Mo → List Mo → List Stmt → Option (Option (List Mo))
  | .nil, Γ, _, ss => match ss with
    | [] => some (some Γ)
    | _ => none
  | .frz i r, Γ, Γb, ss => gd (decide (Γ[i]? = some .own) || decide (Γ[i]? = some .lol)) (chkSs r (Γ.set i .frz) Γb ss)
  | .cons m r, Γ, Γb, ss => match ss with
    | s :: rest => match chkS m Γ Γb s with
      | none => none
      | some none => (match r, rest with
        | .nil, [] => some none
        | _, _ => none)
      | some (some Γ1) => chkSs r Γ1 Γb rest
    | [] => none
end
end
/-! ### sound -/
def Fits (o : Option (List Mo)) (Γ' : List Mo) : Prop := o = none ∨ o = some Γ'
structure GoodS (X : Cx) (T : Tab) (Φ : Nat → List D → Option D) (G : Gt) (N : List Str) (sc : Scope) (XE : XT) : Prop where
  good : Good X T Φ G N sc
  tk : TakesX X T XE
  hs : X.stack = X.env :: X.outer
  hf : X.env.frame = some X.env.locals
  hex : X.ex = []
  own : PassesOwn (model X.prog X.w) X.A X.env X.xe
  cell : ∀ x, sc.names.lookup x = some .cell → X.fn x = true
section
variable {X : Cx} {T : Tab} {Γ : List Mo} {Φ : Nat → List D → Option D} {G : Gt} {N : List Str} {sc : Scope} {XE : XT}
theorem GoodS.loc (g : GoodS X T Φ G N sc XE) {x : Str} (h : locB sc x = true) : Loc X.env.scope x ∧ (X.fn x = true ∨ X.env.scope.names.lookup x = some .local) := by
  rw [g.good.eS]
  unfold locB at h
  split at h
  · rename_i e; exact ⟨.inl e, .inr e⟩
  · rename_i e; exact ⟨.inr e, .inl (g.cell _ e)⟩
  · cases h
theorem GoodS.kindL (g : GoodS X T Φ G N sc XE) {x : Str} (h : locL sc x = true) : X.env.kindOf x = some .local := by
  unfold Env.kindOf
  rw [g.good.eS]
  exact of_decide_eq_true h
theorem GoodS.exc (g : GoodS X T Φ G N sc XE) {f : Nat} {x : Str} (h : chkFn G f .exc x 0 = true) : ∃ C, X.mg x = some (.ref C) ∧ ∀ c fs, Φ f [.exv c fs] = some (.bl true) → PySem.W.exmOne T.K (.ref (T.cl c)) (.ref C) = some true := by
  unfold chkFn at h
  split at h
  · rename_i fi ef
    simp only [Bool.and_eq_true, decide_eq_true_eq, beq_iff_eq] at h
    obtain ⟨⟨k1, rfl⟩, _⟩ := h
    have fo := g.good.fns f fi ef
    unfold FOk at fo
    rw [k1] at fo
    exact fo
  · cases h
theorem slotB_ok (g : GoodS X T Φ G N sc XE) {i : Nat} {x : Str} (h : slotB N sc i x = true) : X.N[i]? = some x ∧ Vis X.env.scope x ∧ (x == ("__debug__" : Str)) = false ∧ (x == ("__classdict__" : Str)) = false := by
  unfold slotB at h
  simp only [Bool.and_eq_true, beq_iff_eq] at h
  exact ⟨by rw [g.good.eN]; exact h.1.1, visB_ok g.good h.1.2, okN_ok h.2⟩
theorem sw_no {ve : Expr} {t : Option Expr} {l : Nat} {env : Env} (h : notComp ve = true) : swapsWith ve t l env = pure false := by
  cases ve <;> first | rfl | cases h
theorem sw_false {x : Str} {p : Pos} {ve : Expr} {l : Nat} (g : Good X T Φ G N sc) (hc : ∀ a b c d e, ve ≠ .DictComp a b c d e) (hc' : ∀ a b c d, ve ≠ .SetComp a b c d) (h : swB sc x p ve = false) : swapsWith ve (some (.Name x p)) l X.env = pure false := by
  cases ve with
  | ListComp elt gs scope q =>
    unfold swB at h
    have hb : X.env.blockKind = .function := by unfold Env.blockKind; rw [g.eS, g.kind]; rfl
    have hk : X.env.kindOf x = sc.names.lookup x := by unfold Env.kindOf; rw [g.eS]
    unfold swapsWith
    simp only [hb, hk, Expr.pos]
    show pure _ = pure _
    congr 1
    rw [← h]
    cases e : sc.names.lookup x with
    | none => simp
    | some k => cases k <;> simp
  | SetComp a b c d => exact absurd rfl (hc' _ _ _ _)
  | DictComp a b c d e => exact absurd rfl (hc _ _ _ _ _)
  | _ => rfl
theorem ss_none {t : Expr} {ve : Expr} {env : Env} (h : isTupE ve = false) : swappedStores [t] ve env = pure none := by
  unfold swappedStores
  cases ve <;> first | (cases t <;> rfl) | cases h
theorem ss_sub {a b : Expr} {p : Pos} {ve : Expr} {env : Env} : swappedStores [.Subscript a b p] ve env = pure none := by
  unfold swappedStores
  cases ve <;> rfl
theorem sws_no {t ve : Expr} {l : Nat} {env : Env} (h : notComp ve = true) : swapsWithSole [t] ve l env = pure false := sw_no h
theorem sws_sub {a b : Expr} {p : Pos} {ve : Expr} {l : Nat} {env : Env} : swapsWithSole [.Subscript a b p] ve l env = pure false := by
  cases ve <;> rfl
theorem mmSlot (m : MM) : ∃ id, Slot "list" (mmN m) id ∧ typeOf (.builtin id) = pure (.type "method_descriptor") ∧ ∃ r, MutOk T r (mutD m) ∧ MtR X id r := by
  cases m
  · exact ⟨_, PySem.F.slot_list_append, PySem.F.type_list_append, _, mut_app, mt_append⟩
  · exact ⟨_, PySem.F.slot_list_insert, PySem.F.type_list_insert, _, mut_ins, mt_insert⟩
  · exact ⟨_, PySem.F.slot_list_clear, PySem.F.type_list_clear, _, mut_clear, mt_clear⟩
  · exact ⟨_, PySem.F.slot_list_reverse, PySem.F.type_list_reverse, _, mut_rev, mt_reverse⟩
  · exact ⟨_, PySem.F.slot_list_remove, PySem.F.type_list_remove, _, mut_rem, mt_remove⟩
theorem augD_ok {op : Operator} (h : augB op = true) : ∃ (C : Int → Int → Prop) (g : Int → Int → Int), OpR X (inplaceOp op) (rI C fun i j => .int (g i j)) ∧ (∀ d1 d2 d, augD op d1 d2 = .ok d → ∃ i j, d1 = .int i ∧ d2 = .int j ∧ C i j ∧ d = .int (g i j)) ∧ ∀ d1 d2 c fs, augD op d1 d2 ≠ .exc c fs := by
  have nx : ∀ d1 d2 c fs, augD op d1 d2 ≠ .exc c fs := by
    intro d1 d2 c fs
    unfold augD
    split
    · exact binD_nx op _ _ c fs
    · intro z; cases z
  cases op <;> first | cases h | skip
  · refine ⟨fun _ _ => True, fun i j => i + j, ?_, fun d1 d2 d e => ?_, nx⟩
    · intro pins s σ H x y v u Q I rx ry hh
      obtain ⟨i, j, h1, h2, _, q⟩ := hh
      exact iop_add pins s σ H x y v u Q I rx ry ⟨i, j, h1, h2, q⟩
    · unfold augD at e
      split at e
      · unfold binD addD at e
        injection e with e
        exact ⟨_, _, rfl, rfl, trivial, e.symm⟩
      · cases e
  · refine ⟨fun _ _ => True, fun i j => i - j, ?_, fun d1 d2 d e => ?_, nx⟩
    · intro pins s σ H x y v u Q I rx ry hh
      obtain ⟨i, j, h1, h2, _, q⟩ := hh
      exact iop_sub pins s σ H x y v u Q I rx ry ⟨i, j, h1, h2, q⟩
    · unfold augD at e
      split at e
      · unfold binD subID at e
        injection e with e
        exact ⟨_, _, rfl, rfl, trivial, e.symm⟩
      · cases e
  · refine ⟨fun i j => IntMulOk i j, fun i j => i * j, opI fun _ _ _ _ _ _ _ hc q => imul_int q hc, fun d1 d2 d e => ?_, nx⟩
    unfold augD at e
    split at e
    · rename_i i j
      change mulD (.int i) (.int j) = _ at e
      unfold mulD at e
      dsimp only at e
      split at e
      · rename_i hc
        injection e with e
        refine ⟨_, _, rfl, rfl, ?_, e.symm⟩
        unfold fitsI at hc
        simp only [Bool.and_eq_true, Bool.or_eq_true, decide_eq_true_eq] at hc
        rcases hc with (hc | hc) | hc
        · exact CMul.ok (.inl hc)
        · exact CMul.ok (.inr hc)
        · exact CMulX.ok (logX hc)
      · cases e
    · cases e
theorem wkM_refl : ∀ Γ : List Mo, wkM Γ Γ = true
  | [] => rfl
  | m :: r => by unfold wkM; rw [wkM_refl r]; cases m <;> rfl
theorem popSlot (m : MP) : ∃ r, PopOk T r (popD m) ∧ MtR X "list.pop" r := by
  cases m
  · exact ⟨_, pop_pop0, mt_pop⟩
  · exact ⟨_, pop_popAt, mt_popAt⟩
theorem popParts {i : Nat} {x : Str} {p apos cpos : Pos} {xs : List Expr} {es : MEs} {m : MP} (g : GoodS X T Φ G N sc XE) (h1 : slotB N sc i x = true) (h2 : Γ[i]? = some .own) (h4 : (apos.endLine == cpos.line) = true) (h5 : xs.length < 29)
    (h6 : chkM G N es (List.replicate xs.length .frz) sc Γ xs = true) : ∃ te, PE X (.Call (.Attribute (.Name x p) "pop" apos) xs [] cpos) te ∧ ∀ (H0 : Hp) (F0 : Addr → Prop) (σ : St) (H : Hp) (F : Addr → Prop) (env : Ev) (Q : VK) (P : D × D → Prop), SR T Γ H0 F0 F H env σ → wpR ((getV env i).bind fun o => (evs Φ es env).bind fun ds => popD m o ds) P (fun _ _ => False) →
      (∀ z F' H' u, P z → Fz F H F' H' → SR T Γ H0 F0 F' H' (env.set i (some z.2)) σ → Rep T H' F' u z.1 → Q u H') → te σ H Q := by
  obtain ⟨s1, s2, s3, s4⟩ := slotB_ok g h1
  obtain ⟨r, mo, mr⟩ := popSlot (X := X) (T := T) m
  obtain ⟨dm, hp, hl⟩ := sndMx (XE := XE) (T := T) (Φ := Φ) es _ _ _ _ _ g.good h6
  cases xs with
  | nil =>
    cases es with
    | nil =>
      refine ⟨_, pe_bm0 PySem.F.plainAttrs_list PySem.F.slot_list_pop PySem.F.type_list_pop mr (pe_var s1 s2 s3 s4) rfl h4, ?_⟩
      exact simPop (X := X) (t := tNil) (fs := fun env => evs Φ .nil env) g.good.eK h2 mo (fun _ _ _ H F _ _ _ h => h F H [] (Ext.refl _ _) .nil : SimC T Γ XE tNil fun env => evs Φ .nil env) (fun _ _ _ z => by cases z)
    | cons _ _ => rw [chkM_nilr] at h6; cases h6
  | cons x1 xs =>
    rw [List.all_cons, Bool.and_eq_true] at hp
    obtain ⟨t, pt, ss⟩ := DM.dc (n := 0) dm
    refine ⟨_, pe_bm PySem.F.plainAttrs_list PySem.F.slot_list_pop PySem.F.type_list_pop mr (pe_var s1 s2 s3 s4) pt rfl ?_ h4 (starEach_cons hp.1) (backTo_none hp.2), ?_⟩
    · exact methForm (pos := cpos) (env := X.env) (es := x1 :: xs) (by rw [List.all_cons, hp.1, hp.2]; rfl) h5
    · exact simPop g.good.eK h2 mo ss (evs_nx Φ es)
/-- x.append(y.pop(..)) -/
theorem ds_apop {Γb : List Mo} {qb : Qu} {i j : Nat} {x : Str} {p apos cpos pos : Pos} {a : Expr} {te : TE} {fz : Ev → R (D × D)} (hm : Γ[i]? = some .own) (hN : X.N[i]? = some x) (hv : Vis X.env.scope x) (hd : (x == ("__debug__" : Str)) = false) (hcd : (x == ("__classdict__" : Str)) = false) (hl : (apos.endLine == cpos.line) = true) (hij : j ≠ i) (pa : PE X a te) (hp : plainArg a = true)
    (hK : X.K = T.K) (hxc : ∀ env c fs, fz env ≠ .exc c fs)
    (sp : ∀ (H0 : Hp) (F0 : Addr → Prop) (σ : L2.St) (H : Hp) (F : Addr → Prop) (env : Ev) (Q : VK) (P : D × D → Prop), SR T Γ H0 F0 F H env σ → wpR (fz env) P (fun _ _ => False) →
      (∀ z F' H' u, P z → Fz F H F' H' → SR T Γ H0 F0 F' H' (env.set j (some z.2)) σ → Rep T H' F' u z.1 → Q u H') → te σ H Q) {pe : PS X (.Expr (.Call (.Attribute (.Name x p) "append" apos) [a] [] cpos) pos) (fun D σ H => tBM X.K "list" rAppend (tVar i) (tCons te tNil) σ H fun _ H' => D.nx σ H')} :
    DS X T Γ Γ Γb XE qb (.Expr (.Call (.Attribute (.Name x p) "append" apos) [a] [] cpos) pos) fun env => (getV env i).bind fun o => (fz env).bind fun z => (appD o [z.1]).bind fun o' => .ok ((env.set j (some z.2)).set i (some o'), .nx) := by
  refine ⟨_, pe, fun H0 F0 σ H F env EE rr h => ?_⟩
  unfold getV at h
  dsimp only at h
  split at h
  · rename_i o e1
    rw [R.bind_ok] at h
    obtain ⟨w, hw, ok⟩ := rr.slot i o e1
    rw [List.getD_eq_getElem?_getD, hm] at ok
    cases ez : fz env with
    | bad => rw [ez] at h; exact h.elim
    | exc c fs => exact absurd ez (hxc _ _ _)
    | ok z0 =>
      rw [ez, R.bind_ok] at h
      cases ea : appD o [z0.1] with
      | bad => rw [ea] at h; exact h.elim
      | exc c fs => unfold appD at ea; split at ea <;> first | (split at ea <;> cases ea) | cases ea
      | ok o' =>
        rw [ea] at h
        have h : ∀ F' H' σ', Fz F H F' H' → SR T Γ H0 F0 F' H' ((env.set j (some z0.2)).set i (some o')) σ' → EE.nx σ' H' := h
        unfold appD at ea
        split at ea
        · rename_i xs d1 e2
          cases e2
          split at ea
          · rename_i hlen
            injection ea with ea; subst ea
            refine ⟨w, hw, ?_⟩
            unfold SlotOk at ok
            simp only [Option.getD_some] at ok
            rw [if_pos (show (D.lst xs).cell = true from rfl)] at ok
            obtain ⟨c, rfl, h0, hf, hat⟩ := ok
            refine ⟨.inl ⟨rfl, (by cases hat with | lst ha hr => exact ⟨_, SqL.of ha⟩)⟩, ?_⟩
            refine sp H0 F0 σ H F env _ (fun z => z = z0) rr (by rw [ez]; exact rfl) fun z F' H' u hz f' s' ru => ?_
            subst hz
            have e1' : (env.set j (some z.2))[i]? = some (some (.lst xs)) := by rw [List.getElem?_set_ne hij]; exact e1
            obtain ⟨w2, hw2, ok2⟩ := s'.slot i _ e1'
            rw [hw] at hw2
            cases hw2
            rw [List.getD_eq_getElem?_getD, hm] at ok2
            unfold SlotOk at ok2
            simp only [Option.getD_some] at ok2
            rw [if_pos (show (D.lst xs).cell = true from rfl)] at ok2
            obtain ⟨c2, ec, g0, gf, gat⟩ := ok2
            cases ec
            cases gat with
            | lst ha hr =>
              have at2 : At T (upd H' c (.lst (_ ++ [u]))) F' c (.lst (xs ++ [z.1])) := .lst upd_same ((hr.append (.cons ru .nil)).mono (fun _ h => h) (updF gf))
              obtain ⟨s4, f4⟩ := s'.mut hm e1' rfl hw g0 gf at2
              exact ⟨c, _, u, rfl, rfl, ha, by rw [sizeLine_eq, hr.length]; exact hlen, h F' _ σ (f'.trans f4) s4⟩
          · cases ea
        · cases ea
  · exact h.elim
end
section
variable (T : Tab) (Φ : Nat → List D → Option D) (G : Gt) (N : List Str) (sc : Scope) (qb : Qu) (fuel : Nat) (XE : XT)
def SndS (m : MS) : Prop := ∀ X Γ Γb s o Γ', GoodS X T Φ G N sc XE → chkS G N sc qb m Γ Γb s = some o → Fits o Γ' → DS X T Γ Γ' Γb XE qb s (ex Φ fuel m)
def SndSs (m : MSs) : Prop := ∀ X Γ Γb s o Γ', GoodS X T Φ G N sc XE → chkSs G N sc qb m Γ Γb s = some o → Fits o Γ' → DSs X T Γ Γ' Γb XE qb s (exs Φ fuel m)
variable {T Φ G N sc qb fuel XE}
theorem fits_eq {Γ Γ' : List Mo} (h : Fits (some Γ) Γ') : Γ = Γ' := by
  rcases h with h | h
  · cases h
  · injection h
theorem onlyComp {me : ME} {sc : Scope} {Γ : List Mo} {a : Expr} {b : List Comprehension} {c : Scope} {d : Pos} (h : chkE G N me sc Γ (.ListComp a b c d) = true) : ∃ elt own t src cond, me = .comp elt own t src cond := by
  cases me
  case tx op es =>
    unfold chkE at h
    cases op <;> (dsimp only at h; split at h <;> first | (cases h; done) | (rename_i hh; cases hh))
  all_goals first | exact ⟨_, _, _, _, _, rfl⟩ | (unfold chkE at h; cases h)
theorem sndF : ∀ (es : MEs) (X : Cx) (Γ : List Mo) (xs : List Expr), Good X T Φ G N sc → chkF G N sc es Γ xs = true → DF X T Γ XE xs (evs Φ es)
  | .nil, X, Γ, xs, g, h => by
    cases xs with
    | nil => exact df_nil
    | cons _ _ => unfold chkF at h; cases h
  | .cons e es, X, Γ, xs, g, h => by
    cases xs with
    | nil => unfold chkF at h; cases h
    | cons x xs =>
      unfold chkF at h
      simp only [Bool.and_eq_true, decide_eq_true_eq] at h
      obtain ⟨⟨⟨h1, h2⟩, h3⟩, h4⟩ := h
      have de := (sndEx e).de (XE := XE) X sc Γ x g h3
      rw [h2] at de
      exact df_cons h1 de (sndF es X Γ xs g h4)
theorem sndB : ∀ (b : MB) (i : Nat) (X : Cx) (Γ Γ' : List Mo) (s : Stmt), GoodS X T Φ G N sc XE → Γ[i]? = some .own → chkB G N sc b i Γ s = some Γ' → DOw X T Γ Γ' XE i s (exB Φ b)
  | .asg j me, i, X, Γ, Γ', s, g, hm, h => by
    unfold chkB at h
    split at h
    · have e := (gd_ok h).2
      replace h := (gd_ok h).1
      injection e with e; subst e
      simp only [Bool.and_eq_true, decide_eq_true_eq, beq_iff_eq] at h
      obtain ⟨⟨⟨⟨⟨⟨h1, h2⟩, h3⟩, h4⟩, h5⟩, h6⟩, h7⟩ := h
      obtain ⟨l1, l2⟩ := g.loc h2
      exact dso_asg h7 hm (by rw [g.good.eN]; exact g.good.nd) (by rw [g.good.eN]; exact h1) l1 (sw_no h6) l2 h3 ((sndEx me).de X sc Γ _ g.good h4) h5
    · cases h
  | .setI j k me, i, X, Γ, Γ', s, g, hm, h => by
    unfold chkB at h
    split at h
    · have e := (gd_ok h).2
      replace h := (gd_ok h).1
      injection e with e; subst e
      simp only [Bool.and_eq_true, decide_eq_true_eq] at h
      obtain ⟨⟨⟨⟨⟨⟨h1, h2⟩, h3⟩, h4⟩, h5⟩, h6⟩, h7⟩ := h
      obtain ⟨s1, s2, s3, s4⟩ := slotB_ok g h1
      exact dso_setI h7 hm g.good.hu h2 s1 s2 s3 s4 ((sndEx me).de X sc Γ _ g.good h5) h6 ((sndEx k).de X sc Γ _ g.good h4) h3 sws_sub ss_sub
    · cases h
  | .iff c b, i, X, Γ, Γ', s, g, hm, h => by
    unfold chkB at h
    split at h
    · split at h
      · rename_i Γ1 e1
        have e := (gd_ok h).2
        replace h := (gd_ok h).1
        injection e with e; subst e
        simp only [Bool.and_eq_true] at h
        obtain ⟨⟨h1, h2⟩, h3⟩ := h
        exact dso_if hm ((sndEx c).dt X sc Γ _ g.good h2 h1) (sndB b i X Γ Γ1 _ g hm e1) h3
      · cases h
    · cases h
mutual
theorem sndS : ∀ m : MS, SndS T Φ G N sc qb fuel XE m
  | .asgL i es => fun X Γ Γb s o Γ' g h hf => by
    unfold chkS at h
    split at h
    · have e := (gd_ok h).2
      replace h := (gd_ok h).1
      injection e with e; subst e
      cases fits_eq hf
      simp only [Bool.and_eq_true, decide_eq_true_eq, beq_iff_eq] at h
      obtain ⟨⟨⟨h1, h2⟩, h3⟩, h4⟩ := h
      obtain ⟨l1, l2⟩ := g.loc h2
      exact ds_asgLL (by rw [g.good.eN]; exact g.good.nd) (by rw [g.good.eN]; exact h1) l1 l2 h3 (sndF es X Γ _ g.good h4)
    · cases h
  | .mutL m i k es => fun X Γ Γb s o Γ' g h hf => by
    have ss := sndMx (XE := XE) (T := T) (Φ := Φ) (G := G) (N := N) es
    unfold chkS at h
    split at h
    · rename_i x p ke p2 nm apos xs cpos pos
      have e := (gd_ok h).2
      replace h := (gd_ok h).1
      injection e with e; subst e
      cases fits_eq hf
      simp only [Bool.and_eq_true, decide_eq_true_eq] at h
      obtain ⟨⟨⟨⟨⟨⟨⟨h1, h2⟩, h3⟩, h4⟩, h5⟩, h7⟩, h8⟩, h6⟩ := h
      rw [beq_iff_eq] at h3
      subst h3
      obtain ⟨s1, s2, s3, s4⟩ := slotB_ok g h1
      obtain ⟨id, sl, ty, r, mo, mr⟩ := mmSlot (X := X) (T := T) m
      obtain ⟨dm, hp, hl⟩ := ss _ _ _ _ _ g.good h6
      cases xs with
      | nil => cases es with
        | nil => exact ds_mutL0 g.good.eK g.good.hu h2 mo mr sl ty s1 s2 s3 s4 ((sndEx k).de X sc Γ _ g.good h8) h7 h4
        | cons _ _ => rw [chkM_nilr] at h6; cases h6
      | cons x1 xs =>
        rw [List.all_cons, Bool.and_eq_true] at hp
        exact ds_mutL g.good.eK g.good.hu h2 mo mr sl ty s1 s2 s3 s4 ((sndEx k).de X sc Γ _ g.good h8) h7 hp.1 hp.2 (by rw [List.length_cons] at h5; omega) h4 (DM.dc (n := 0) dm) (evs_nx Φ es)
    · cases h
  | .asg i me => fun X Γ Γb s o Γ' g h hf => by
    unfold chkS at h
    split at h
    · rename_i x p ve pos
      have e := (gd_ok h).2
      replace h := (gd_ok h).1
      injection e with e; subst e
      cases fits_eq hf
      simp only [Bool.and_eq_true, decide_eq_true_eq, beq_iff_eq] at h
      obtain ⟨⟨⟨⟨⟨h1, h2⟩, h3⟩, h4⟩, h5⟩, h6⟩ := h
      have hi : X.N[i]? = some x := by rw [g.good.eN]; exact h1
      have nd : X.N.Nodup := by rw [g.good.eN]; exact g.good.nd
      obtain ⟨l1, l2⟩ := g.loc h2
      have de := (sndEx me).de (XE := XE) X sc Γ ve g.good h4
      cases hsw : swB sc x p ve with
      | false =>
        refine ds_asg nd hi l1 (sw_false g.good ?_ ?_ hsw) l2 h3 de h5
        · rintro a b c d e rfl
          cases h6
        · rintro a b c d rfl
          cases h6
      | true =>
        unfold swB at hsw
        split at hsw
        · rename_i elt gs scope q
          unfold compOk at h6
          split at h6
          · rename_i e1
            injection e1 with e1 e2 e3 e4
            subst e1 e2 e3 e4
            obtain ⟨elt', own, t, src, cond, rfl⟩ := onlyComp h4
            obtain ⟨wi, gg, tt, te, pi, ok, pg, pt, pe, hs, sim⟩ := comp_parts (sndE elt') (sndI src) (sndC cond) g.good h4
            simp only [Bool.and_eq_true, decide_eq_true_eq, Bool.not_eq_true'] at hsw
            have hl : X.env.scope.names.lookup x = some .local := by rw [g.good.eS]; exact hsw.1.1
            exact ds_asgL (ps_setLc g.good.calm nd hi hl (sw_true (by rw [g.good.eS]; exact g.good.kind) hl hsw.1.2 hsw.2) pi ok pg pt pe hs) h3 (sim.lift (ev_nx Φ _)) h5
          · cases h6
          · rename_i z; cases z
          · rename_i z; cases z
          · rename_i _ z _ _; exact absurd rfl (z elt gs scope q)
        · cases hsw
    · cases h
  | .tasg is me => fun X Γ Γb s o Γ' g h hf => by
    unfold chkS at h
    split at h
    · have e := (gd_ok h).2
      replace h := (gd_ok h).1
      injection e with e; subst e
      cases fits_eq hf
      simp only [Bool.and_eq_true, decide_eq_true_eq, Bool.not_eq_true'] at h
      obtain ⟨⟨⟨⟨h1, h2⟩, h3⟩, h4⟩, h5⟩ := h
      obtain ⟨p, m, l, f⟩ := pgs_of g.good (fun _ _ _ z => z) (fun _ => g.cell) h1
      exact ds_tasg (pg_tl g.good.calm p l f) (by rw [g.good.eK]; exact simG_many m fun ds env env' => bindMany_len _ ds env env') ((sndEx me).de X sc Γ _ g.good h2) h3 (sws_no h4) (ss_none h5) rfl
    · cases h
  | .aug op i me => fun X Γ Γb s o Γ' g h hf => by
    unfold chkS at h
    split at h
    · have e := (gd_ok h).2
      replace h := (gd_ok h).1
      injection e with e; subst e
      cases fits_eq hf
      simp only [Bool.and_eq_true, decide_eq_true_eq, beq_iff_eq] at h
      obtain ⟨⟨⟨⟨⟨rfl, h2⟩, h3⟩, h4⟩, h5⟩, h6⟩ := h
      obtain ⟨l1, l2⟩ := g.loc h4
      obtain ⟨C, gg, ho, h7, h8⟩ := augD_ok (X := X) h2
      exact ds_aug h5 ho h7 h8 (by rw [g.good.eN]; exact g.good.nd) (by rw [g.good.eN]; exact h3) l1 l2 ((sndEx me).de X sc Γ _ g.good h6)
    · cases h
  | .setI i k me => fun X Γ Γb s o Γ' g h hf => by
    unfold chkS at h
    split at h
    · have e := (gd_ok h).2
      replace h := (gd_ok h).1
      injection e with e; subst e
      cases fits_eq hf
      simp only [Bool.and_eq_true, decide_eq_true_eq] at h
      obtain ⟨⟨⟨⟨⟨h1, h2⟩, h3⟩, h4⟩, h5⟩, h6⟩ := h
      obtain ⟨s1, s2, s3, s4⟩ := slotB_ok g h1
      exact ds_setI g.good.hu h2 s1 s2 s3 s4 ((sndEx me).de X sc Γ _ g.good h5) h6 ((sndEx k).de X sc Γ _ g.good h4) h3 sws_sub ss_sub
    · cases h
  | .mut m i es => fun X Γ Γb s o Γ' g h hf => by
    have ss := sndMx (XE := XE) (T := T) (Φ := Φ) (G := G) (N := N) es
    unfold chkS at h
    split at h
    · rename_i x p nm apos xs cpos pos
      have e := (gd_ok h).2
      replace h := (gd_ok h).1
      injection e with e; subst e
      cases fits_eq hf
      simp only [Bool.and_eq_true, decide_eq_true_eq] at h
      obtain ⟨⟨⟨⟨⟨h1, h2⟩, h3⟩, h4⟩, h5⟩, h6⟩ := h
      rw [beq_iff_eq] at h3
      subst h3
      obtain ⟨s1, s2, s3, s4⟩ := slotB_ok g h1
      obtain ⟨id, sl, ty, r, mo, mr⟩ := mmSlot (X := X) (T := T) m
      obtain ⟨dm, hp, hl⟩ := ss _ _ _ _ _ g.good h6
      cases xs with
      | nil => cases es with
        | nil => exact ds_mut0 g.good.eK h2 mo mr sl ty s1 s2 s3 s4 h4
        | cons _ _ => rw [chkM_nilr] at h6; cases h6
      | cons x1 xs =>
        rw [List.all_cons, Bool.and_eq_true] at hp
        exact ds_mut g.good.eK h2 mo mr sl ty s1 s2 s3 s4 hp.1 hp.2 (by rw [List.length_cons] at h5; omega) h4 (DM.dc (n := 0) dm) (evs_nx Φ es)
    · cases h
  | .pop j m i es => fun X Γ Γb s o Γ' g h hf => by
    have hmo : ∀ d ds c fs, popD m d ds ≠ .exc c fs := by
      obtain ⟨r, mo, _⟩ := popSlot (X := X) (T := T) m
      exact mo.1
    unfold chkS at h
    split at h
    · have e := (gd_ok h).2
      replace h := (gd_ok h).1
      injection e with e; subst e
      cases fits_eq hf
      simp only [Bool.and_eq_true, decide_eq_true_eq] at h
      obtain ⟨⟨⟨⟨⟨⟨h1, h2⟩, h3⟩, h4⟩, h5⟩, _⟩, h6⟩ := h
      rw [beq_iff_eq] at h3
      subst h3
      obtain ⟨te, pe, sp⟩ := popParts (m := m) g h1 h2 h4 h5 h6
      exact ds_pop pe rfl (evs_nx Φ es) hmo sp
    · have e := (gd_ok h).2
      replace h := (gd_ok h).1
      injection e with e; subst e
      cases fits_eq hf
      simp only [Bool.and_eq_true, decide_eq_true_eq] at h
      obtain ⟨⟨⟨⟨⟨⟨⟨⟨⟨⟨h1, h2⟩, h3⟩, h4⟩, h5⟩, _⟩, h6⟩, h7⟩, h8⟩, h9⟩, h10⟩ := h
      rw [beq_iff_eq] at h3 h7
      subst h3
      obtain ⟨te, pe, sp⟩ := popParts (m := m) g h1 h2 h4 h5 h6
      obtain ⟨l1, l2⟩ := g.loc h8
      exact ds_popA pe rfl (evs_nx Φ es) hmo (by rw [g.good.eN]; exact g.good.nd) (by rw [g.good.eN]; exact h7) l1 l2 h9 h10 sp
    · cases h
  | .expr me => fun X Γ Γb s o Γ' g h hf => by
    unfold chkS at h
    split at h
    · have e := (gd_ok h).2
      replace h := (gd_ok h).1
      injection e with e; subst e
      cases fits_eq hf
      simp only [Bool.and_eq_true] at h
      exact ds_expr ((sndEx me).de X sc Γ _ g.good h.1) (sw_no h.2)
    · cases h
  | .ret me => fun X Γ Γb s o Γ' g h hf => by
    unfold chkS at h
    split at h
    · have e := (gd_ok h).2
      replace h := (gd_ok h).1
      simp only [Bool.and_eq_true] at h
      obtain ⟨h1, h2⟩ := h
      unfold retB at h2
      simp only [Bool.and_eq_true, Bool.or_eq_true, decide_eq_true_eq] at h2
      obtain ⟨hq, h2⟩ := h2
      rcases h2 with h2 | ⟨h2, h3⟩
      · unfold isOwnVar at h2
        split at h2
        · rename_i i
          rw [decide_eq_true_eq] at h2
          unfold chkE at h1
          split at h1
          · simp only [Bool.and_eq_true, decide_eq_true_eq, beq_iff_eq] at h1
            obtain ⟨⟨⟨⟨a1, a2⟩, a3⟩, a4⟩, _⟩ := h1
            exact ds_retO h2 (by rw [g.good.eN]; exact a1) (visB_ok g.good a2) (okN_ok a3).1 (okN_ok a3).2 hq
          · cases h1
        · cases h2
      · exact ds_ret ((sndEx me).de X sc Γ _ g.good h1) h3 h2
    · cases h
  | .retN => fun X Γ Γb s o Γ' g h hf => by
    unfold chkS at h
    split at h
    · have e := (gd_ok h).2
      replace h := (gd_ok h).1
      rw [decide_eq_true_eq] at h
      exact ds_retN h
    · cases h
  | .no => fun X Γ Γb s o Γ' g h hf => ds_no
  | .iff c a b => fun X Γ Γb s o Γ' g h hf => by
    have sa := sndSs a
    have sb := sndSs b
    unfold chkS at h
    split at h
    · have e := (gd_ok h).2
      replace h := (gd_ok h).1
      simp only [Bool.and_eq_true] at h
      have dt := (sndEx c).dt (XE := XE) X sc Γ _ g.good h.2 h.1
      split at e
      · rename_i ea eb
        injection e with e; subst e
        exact ds_if dt (sa _ _ _ _ _ _ g ea (.inl rfl)) (sb _ _ _ _ _ _ g eb hf)
      · rename_i ea eb
        injection e with e; subst e
        exact ds_if dt (sa _ _ _ _ _ _ g ea hf) (sb _ _ _ _ _ _ g eb (.inl rfl))
      · rename_i ea eb
        obtain ⟨hw, e⟩ := gd_ok e
        injection e with e; subst e
        cases fits_eq hf
        rw [Bool.and_eq_true] at hw
        exact ds_if dt ((sa _ _ _ _ _ _ g ea (.inr rfl)).weak hw.1) ((sb _ _ _ _ _ _ g eb (.inr rfl)).weak hw.2)
      · cases e
    · cases h
  | .whl inv c a => fun X Γ Γb s o Γ' g h hf => by
    have sa := sndSs a
    unfold chkS at h
    split at h
    · have e := (gd_ok h).2
      replace h := (gd_ok h).1
      simp only [Bool.and_eq_true] at h
      obtain ⟨⟨h1, h2⟩, h3⟩ := h
      have dt := (sndEx c).dt (XE := XE) X sc inv _ g.good h3 h2
      split at e
      · rename_i ea
        injection e with e; subst e
        cases fits_eq hf
        exact ds_while g.own dt (sa _ _ _ _ _ _ g ea (.inl rfl)) h1 (wkM_refl _)
      · rename_i ea
        obtain ⟨hw, e⟩ := gd_ok e
        injection e with e; subst e
        cases fits_eq hf
        exact ds_while g.own dt (sa _ _ _ _ _ _ g ea (.inr rfl)) h1 hw
      · cases e
    · cases h
  | .for_ inv t src a => fun X Γ Γb s o Γ' g h hf => by
    have sa := sndSs a
    unfold chkS at h
    split at h
    · have e := (gd_ok h).2
      replace h := (gd_ok h).1
      simp only [Bool.and_eq_true] at h
      obtain ⟨⟨⟨h1, h2⟩, h3⟩, h4⟩ := h
      have di := sndIx (XE := XE) (T := T) (Φ := Φ) src X sc Γ true _ _ g.good h3
      have dg := dg_of (Γ := inv) g.good (fun _ _ _ z => z) (fun _ => g.cell) h4
      split at e
      · rename_i ea
        injection e with e; subst e
        cases fits_eq hf
        exact ds_for g.own g.good.calm di dg (sa _ _ _ _ _ _ g ea (.inl rfl)) h1 (wkM_refl _) (notSet_ok h2)
      · rename_i ea
        obtain ⟨hw, e⟩ := gd_ok e
        injection e with e; subst e
        cases fits_eq hf
        exact ds_for g.own g.good.calm di dg (sa _ _ _ _ _ _ g ea (.inr rfl)) h1 hw (notSet_ok h2)
      · cases e
    · cases h
  | .forA inv t src j me => fun X Γ Γb s o Γ' g h hf => by
    unfold chkS at h
    split at h
    · rename_i tg it x p ve pos2 pos
      have e := (gd_ok h).2
      replace h := (gd_ok h).1
      injection e with e; subst e
      cases fits_eq hf
      simp only [Bool.and_eq_true, decide_eq_true_eq, beq_iff_eq] at h
      obtain ⟨⟨⟨⟨⟨⟨⟨⟨⟨⟨h1, h2⟩, h3⟩, h4⟩, h5⟩, h6⟩, h7⟩, h8⟩, h9⟩, h10⟩, h11⟩ := h
      have hi : X.N[j]? = some x := by rw [g.good.eN]; exact h5
      have nd : X.N.Nodup := by rw [g.good.eN]; exact g.good.nd
      obtain ⟨l1, l2⟩ := g.loc h6
      exact ds_forA g.own g.good.calm (sndIx (T := T) (Φ := Φ) src X sc Γ false _ _ g.good h3) (dg_of (Γ := inv) g.good (fun _ _ _ z => z) (fun _ => g.cell) h4) ((sndEx me).de X sc inv ve g.good h8) h9 nd hi l1 (sw_no h10) l2 h7 h1 h11 (notSet_ok h2)
    · cases h
  | .forO inv t i b => fun X Γ Γb s o Γ' g h hf => by
    unfold chkS at h
    split at h
    · split at h
      · rename_i Γ1 e1
        have e := (gd_ok h).2
        replace h := (gd_ok h).1
        injection e with e; subst e
        cases fits_eq hf
        simp only [Bool.and_eq_true, decide_eq_true_eq, Bool.not_eq_true'] at h
        obtain ⟨⟨⟨⟨⟨h1, h2⟩, h3⟩, h4⟩, h5⟩, h6⟩ := h
        obtain ⟨s1, s2, s3, s4⟩ := slotB_ok g h1
        exact ds_forO g.own g.good.calm g.good.eK h3 (by simpa using h4) s1 s2 s3 s4 (dg_of (Γ := inv) g.good (fun _ _ _ z => z) (fun _ => g.cell) h5) (sndB b i X inv Γ1 _ g h3 e1) h2 h6
      · cases h
    · cases h
  | .setT i k me => fun X Γ Γb s o Γ' g h hf => by
    unfold chkS at h
    split at h
    · have e := (gd_ok h).2
      replace h := (gd_ok h).1
      injection e with e; subst e
      cases fits_eq hf
      simp only [Bool.and_eq_true, decide_eq_true_eq] at h
      obtain ⟨⟨⟨⟨⟨h1, h2⟩, h3⟩, h4⟩, h5⟩, h6⟩ := h
      obtain ⟨s1, s2, s3, s4⟩ := slotB_ok g h1
      exact ds_setT g.good.hu h2 s1 s2 s3 s4 ((sndEx me).de X sc Γ _ g.good h5) h6 ((sndEx k).de X sc Γ _ g.good h4) h3 sws_sub ss_sub
    · cases h
  | .apop i j m es => fun X Γ Γb s o Γ' g h hf => by
    have hmo : ∀ d ds c fs, popD m d ds ≠ .exc c fs := by
      obtain ⟨r, mo, _⟩ := popSlot (X := X) (T := T) m
      exact mo.1
    unfold chkS at h
    split at h
    · split at h
      · rename_i x p nm apos a cpos e1
        split at h
        · rename_i y p2 nm2 apos2 xs cpos2 e2
          have e := (gd_ok h).2
          replace h := (gd_ok h).1
          injection e with e; subst e
          cases fits_eq hf
          cases dMeth_ok e1
          cases dMeth_ok e2
          simp only [Bool.and_eq_true, decide_eq_true_eq, beq_iff_eq] at h
          obtain ⟨⟨⟨⟨⟨⟨⟨⟨⟨⟨h1, h2⟩, rfl⟩, h4⟩, h5⟩, h6⟩, rfl⟩, h8⟩, h9⟩, h10⟩, h11⟩ := h
          have l1 : (apos.endLine == cpos.line) = true := by rw [beq_iff_eq]; exact h4
          have l2 : (apos2.endLine == cpos2.line) = true := by rw [beq_iff_eq]; exact h8
          obtain ⟨s1, s2, s3, s4⟩ := slotB_ok g h1
          obtain ⟨te, pe, sp⟩ := popParts (m := m) g h5 h6 l2 h9 h10
          exact ds_apop (fz := fun env => (getV env j).bind fun o2 => (evs Φ es env).bind fun ds => popD m o2 ds) h2 s1 s2 s3 s4 l1 h11 pe rfl g.good.eK (fun env c fs => bind_nx (getV_nx env j) (fun _ => bind_nx (evs_nx Φ es env) fun _ => hmo _ _) c fs) sp
            (pe := ps_expr (pe_bm PySem.F.plainAttrs_list PySem.F.slot_list_append PySem.F.type_list_append mt_append (pe_var s1 s2 s3 s4) (pa_cons pe pa_nil (starEach_cons rfl)) rfl (methForm (pos := cpos) (env := X.env) (es := [_]) rfl (by show 1 < 29; decide)) l1 (starEach_cons rfl) (backTo_none rfl)) rfl)
        · cases h
      · cases h
    · cases h
  | .forD inv t i a => fun X Γ Γb s o Γ' g h hf => by
    have sa := sndSs a
    unfold chkS at h
    split at h
    · split at h
      · rename_i x p apos cpos hx
        have e := (gd_ok h).2
        replace h := (gd_ok h).1
        simp only [Bool.and_eq_true, decide_eq_true_eq] at h
        obtain ⟨⟨⟨⟨⟨h1, h2⟩, h3⟩, h4⟩, h5⟩, h6⟩ := h
        obtain ⟨s1, s2, s3, s4⟩ := slotB_ok g h1
        split at e
        · rename_i ea
          obtain ⟨hw, e⟩ := gd_ok e
          injection e with e; subst e
          cases fits_eq hf
          cases dItems_ok hx
          unfold isTupE at h4
          split at h4
          · exact ds_forD g.own g.good.calm h2 s1 s2 s3 s4 (by rw [beq_iff_eq]; simpa using h3) (attrB_ok rfl) (dg_of (Γ := inv) g.good (fun _ _ _ z => z) (fun _ => g.cell) h6) (sa _ _ _ _ _ _ g ea (.inr rfl)) h5 hw
          · cases h4
        · cases e
      · cases h
    · cases h
  | .asgC i me => fun X Γ Γb s o Γ' g h hf => by
    unfold chkS at h
    split at h
    · rename_i elt' own t src cond x p ve pos
      have e := (gd_ok h).2
      replace h := (gd_ok h).1
      injection e with e; subst e
      cases fits_eq hf
      simp only [Bool.and_eq_true, decide_eq_true_eq, beq_iff_eq] at h
      obtain ⟨⟨⟨⟨⟨h1, h2⟩, h3⟩, h4⟩, h5⟩, h6⟩ := h
      have hi : X.N[i]? = some x := by rw [g.good.eN]; exact h1
      have nd : X.N.Nodup := by rw [g.good.eN]; exact g.good.nd
      obtain ⟨l1, l2⟩ := g.loc h2
      cases ve with
      | ListComp elt gs scope q =>
        unfold compOk at h6
        split at h6
        · rename_i e1
          injection e1 with e1 e2 e3 e4
          subst e1 e2 e3 e4
          obtain ⟨wi, gg, tt, te, pi, ok, pg, pt, pe, hs, sim⟩ := comp_partsF (sndE elt') (sndI src) (sndC cond) g.good h5 h4
          cases hsw : swB sc x p (.ListComp _ [⟨_, _, _, 0⟩] scope q) with
          | false =>
            exact ds_asgC (ps_set nd hi l1 (pe_lc g.good.calm nd pi ok pg pt pe hs) (sw_false g.good (by rintro a b c d e z; cases z) (by rintro a b c d z; cases z) hsw) l2) h3 sim (ev_nx Φ _)
          | true =>
            unfold swB at hsw
            simp only [Bool.and_eq_true, decide_eq_true_eq, Bool.not_eq_true'] at hsw
            have hl : X.env.scope.names.lookup x = some .local := by rw [g.good.eS]; exact hsw.1.1
            exact ds_asgC (ps_setLc g.good.calm nd hi hl (sw_true (by rw [g.good.eS]; exact g.good.kind) hl hsw.1.2 hsw.2) pi ok pg pt pe hs) h3 sim (ev_nx Φ _)
        · cases h6
        · rename_i z; cases z
        · rename_i z; cases z
        · rename_i _ z _ _; exact absurd rfl (z elt gs scope q)
      | _ => first | (unfold chkE at h4; cases h4) | (unfold compOk at h6; cases h6)
    · cases h
  | .mkL hh i me => fun X Γ Γb s o Γ' g h hf => by
    unfold chkS at h
    split at h
    · have e := (gd_ok h).2
      replace h := (gd_ok h).1
      injection e with e; subst e
      cases fits_eq hf
      simp only [Bool.and_eq_true, decide_eq_true_eq, beq_iff_eq] at h
      obtain ⟨⟨⟨⟨⟨⟨h1, h2⟩, h3⟩, h4⟩, h5⟩, h6⟩, h7⟩ := h
      obtain ⟨l1, l2⟩ := g.loc h2
      exact ds_mkL h4 (by rw [g.good.eN]; exact g.good.nd) (by rw [g.good.eN]; exact h1) l1 (sw_no h7) l2 h3 ((sndEx me).de X sc _ _ g.good h5) h6 (ev_nx Φ me)
    · cases h
  | .iffL i c a b => fun X Γ Γb s o Γ' g h hf => by
    have sa := sndSs a
    have sb := sndSs b
    unfold chkS at h
    split at h
    · have e := (gd_ok h).2
      replace h := (gd_ok h).1
      simp only [Bool.and_eq_true, decide_eq_true_eq] at h
      have dt := (sndEx c).dt (XE := NoXE) X sc _ _ g.good h.2 h.1.1
      have hm := h.1.2
      split at e
      · rename_i ea eb
        injection e with e; subst e
        exact ds_iffL hm dt (ev_nx Φ c) (sa _ _ _ _ _ _ g ea (.inl rfl)) (sb _ _ _ _ _ _ g eb hf)
      · rename_i ea eb
        injection e with e; subst e
        exact ds_iffL hm dt (ev_nx Φ c) (sa _ _ _ _ _ _ g ea hf) (sb _ _ _ _ _ _ g eb (.inl rfl))
      · rename_i ea eb
        obtain ⟨hw, e⟩ := gd_ok e
        injection e with e; subst e
        cases fits_eq hf
        rw [Bool.and_eq_true] at hw
        exact ds_iffL hm dt (ev_nx Φ c) ((sa _ _ _ _ _ _ g ea (.inr rfl)).weak hw.1) ((sb _ _ _ _ _ _ g eb (.inr rfl)).weak hw.2)
      · cases e
    · cases h
  | .wipe i j => fun X Γ Γb s o Γ' g h hf => by
    unfold chkS at h
    split at h
    · split at h
      · rename_i y p1 x p2 e epos pos y' p3 nm apos cpos hx
        have e := (gd_ok h).2
        replace h := (gd_ok h).1
        injection e with e; subst e
        cases fits_eq hf
        cases dMeth_ok hx
        simp only [Bool.and_eq_true, decide_eq_true_eq, beq_iff_eq] at h
        obtain ⟨⟨⟨⟨⟨⟨⟨h1, h2⟩, h3⟩, h4⟩, rfl⟩, rfl⟩, h7⟩, h8⟩ := h
        obtain ⟨s1, s2, s3, s4⟩ := slotB_ok g h1
        obtain ⟨t1, t2, t3, t4⟩ := slotB_ok g h3
        obtain ⟨l1, l2⟩ := g.loc h4
        exact ds_wipe g.own g.good.calm g.good.eK h8 h2 s1 s2 s3 s4 (by rw [g.good.eN]; exact g.good.nd) t1 l1 l2 t2 t3 t4 (by rw [beq_iff_eq]; exact h7)
      · cases h
    · cases h
  | .asgX i mx => fun X Γ Γb s o Γ' g h hf => by
    unfold chkS at h
    split at h
    · rename_i x p ve q ed
      obtain rfl := dAsg_ok ed
      have e := (gd_ok h).2
      replace h := (gd_ok h).1
      injection e with e; subst e
      cases fits_eq hf
      simp only [Bool.and_eq_true, decide_eq_true_eq, beq_iff_eq] at h
      obtain ⟨⟨⟨⟨⟨h1, h2⟩, h3⟩, h4⟩, h5⟩, h6⟩ := h
      obtain ⟨l1, l2⟩ := g.loc h2
      exact ds_asg (by rw [g.good.eN]; exact g.good.nd) (by rw [g.good.eN]; exact h1) l1 (sw_no h6) l2 h3 (sndX mx X sc Γ _ g.good g.hs g.hf g.tk h4) h5
    · cases h
  | .exprX mx => fun X Γ Γb s o Γ' g h hf => by
    unfold chkS at h
    split at h
    · rename_i ve q ed
      obtain rfl := dExpr_ok ed
      have e := (gd_ok h).2
      replace h := (gd_ok h).1
      injection e with e; subst e
      cases fits_eq hf
      simp only [Bool.and_eq_true] at h
      exact ds_expr (sndX mx X sc Γ _ g.good g.hs g.hf g.tk h.1) (sw_no h.2)
    · cases h
  | .retX mx => fun X Γ Γb s o Γ' g h hf => by
    unfold chkS at h
    split at h
    · have e := (gd_ok h).2
      replace h := (gd_ok h).1
      simp only [Bool.and_eq_true, Bool.or_eq_true, decide_eq_true_eq] at h
      obtain ⟨⟨h1, h2⟩, h3⟩ := h
      exact ds_ret (sndX mx X sc Γ _ g.good g.hs g.hf g.tk h1) h3 h2
    · cases h
  | .raise f es => fun X Γ Γb s o Γ' g h hf => by
    unfold chkS at h
    split at h
    · rename_i x r ed
      obtain ⟨p, m, j, p2, p3, q⟩ := r
      obtain rfl := dRaise_ok ed
      replace h := (gd_ok h).1
      simp only [Bool.and_eq_true] at h
      obtain ⟨⟨h1, h2⟩, h3⟩ := h
      unfold chkFn at h3
      split at h3
      · rename_i fi ef
        simp only [Bool.and_eq_true, decide_eq_true_eq, beq_iff_eq] at h3
        obtain ⟨⟨k1, rfl⟩, _⟩ := h3
        have fo := g.good.fns f fi ef
        unfold FOk at fo
        rw [k1] at fo
        obtain ⟨c, rc, hm, hΦ⟩ := fo
        have d := ds_raise (T := T) (Γ := Γ) (Γ' := Γ') (Γb := Γb) (qb := qb) (XE := XE) (m := m) (j := j) (p2 := p2) (p3 := p3) (pos := q) (p := p) g.good.calm g.tk rc.ex PySem.F.excBase_ValueError hm rc.ke (raises_own rc.su rc.ty) (glB_ok g.good h1) (okN_ok h2).1
        obtain ⟨t, pt, st⟩ := d
        refine ⟨t, pt, fun H0 F0 σ H F env D r hh => st H0 F0 σ H F env D r ?_⟩
        have hh : wpR (raiseD (Φ f [])) (PostS T Γ' Γb qb H0 F0 F H D) (GoS XE F0 H0) := hh
        cases e : Φ f [] with
        | none => rw [e] at hh; exact hh.elim
        | some y => rw [e, (hΦ _ _ e).2] at hh; exact hh
      · cases h3
    · rename_i es1 es2 y1 y2 x p xs r ed _
      obtain ⟨p2, q⟩ := r
      obtain rfl := dRaiseI_ok ed
      replace h := (gd_ok h).1
      simp only [Bool.and_eq_true, decide_eq_true_eq] at h
      obtain ⟨⟨⟨⟨h1, h2⟩, h3⟩, h4⟩, h5⟩ := h
      unfold chkFn at h3
      split at h3
      · rename_i fi ef
        simp only [Bool.and_eq_true, decide_eq_true_eq, beq_iff_eq] at h3
        obtain ⟨⟨k1, rfl⟩, k3⟩ := h3
        have ems : msF G f = fi.ms := by unfold msF; rw [ef]
        rw [ems] at h5
        obtain ⟨dm, hp, _⟩ := sndMx (XE := XE) (Φ := Φ) (T := T) es1 X sc Γ _ _ g.good h5
        have fo := g.good.fns f fi ef
        unfold FOk at fo
        rw [k1] at fo
        obtain ⟨c, k, fa, fd, ps, nms, O, iC, tI, Fn, rm, hb, hm, hms, hl, hΦ⟩ := fo
        cases xs with
        | nil => exact absurd rfl h4
        | cons a as =>
          rw [List.all_cons, Bool.and_eq_true] at hp
          exact ds_raiseI g.good.calm g.tk O iC tI Fn rm hb hm (glB_ok g.good h1) (okN_ok h2).1 hms hΦ hl hp.1 hp.2 dm
      · cases h3
    · cases h
  | .tryA i mx f j j2 => fun X Γ Γb s o Γ' g h hf => by
    unfold chkS at h
    split at h
    · rename_i b xe n s2 ed
      obtain ⟨p', p, rfl⟩ := dTry_ok ed
      split at h
      · rename_i z zp ve zpos x np y yp ne apos e1 e2 e3
        obtain rfl := dAsg_ok e1
        obtain rfl := dName_ok e2
        obtain rfl := dAsg_ok e3
        split at h
        · rename_i n' np2 e4
          obtain rfl := dName_ok e4
          have e := (gd_ok h).2
          replace h := (gd_ok h).1
          injection e with e; subst e
          cases fits_eq hf
          simp only [Bool.and_eq_true, decide_eq_true_eq, beq_iff_eq] at h
          obtain ⟨⟨⟨⟨⟨⟨⟨⟨⟨⟨⟨⟨⟨⟨⟨⟨⟨⟨h1, h2⟩, h3⟩, h4⟩, h5⟩, h6⟩, h7⟩, h8⟩, h9⟩, h10⟩, h11⟩, h12⟩, h13⟩, h14⟩, h15⟩, h16⟩, h17⟩, h18⟩, h19⟩ := h
          subst h1
          obtain ⟨C, hm, hh⟩ := g.exc h17
          exact ds_tryA g.good.eK g.hs g.hf g.hex (by rw [g.good.eN]; exact g.good.nd) (by rw [g.good.eN]; exact h6) (g.kindL h2) (by rw [g.good.eN]; exact h7) (g.kindL h3) h10 h9 ⟨glB_ok g.good h15, (okN_ok h16).1, .inl hm⟩ (okN_ok h11).1 (okN_ok h11).2 rfl
            (by rw [g.good.eN]; exact h5) (g.kindL h4) h8 (sw_no h14) h13 hh (fun pn xe XE' tk pa => sndX mx (X.tr pn xe) sc Γ _ (g.good.tr pn xe) g.hs g.hf tk h12) h18 h19
        · cases h
      · cases h
    · cases h
  | .tryB i mx f j b => fun X Γ Γb s o Γ' g h hf => by
    unfold chkS at h
    split at h
    · rename_i bd xe s2 ed
      obtain ⟨p', p, rfl⟩ := dTry_ok ed
      split at h
      · rename_i x np y yp be apos e2 e3
        obtain rfl := dName_ok e2
        obtain rfl := dAsg_ok e3
        split at h
        · rename_i b' e4
          obtain ⟨k, bp, rfl⟩ := dBool_ok e4
          have hq := (gd_ok h).2
          replace h := (gd_ok h).1
          simp only [Bool.and_eq_true, decide_eq_true_eq, beq_iff_eq] at h
          obtain ⟨⟨⟨⟨⟨⟨h1, h2⟩, h3⟩, h4⟩, h5⟩, h6⟩, h7⟩ := h
          subst h1
          obtain ⟨C, hm, hh⟩ := g.exc h7
          split at hq
          · rename_i i
            split at hq
            · rename_i z zp ve zpos e5
              obtain rfl := dAsg_ok e5
              have e := (gd_ok hq).2
              replace hq := (gd_ok hq).1
              injection e with e; subst e
              cases fits_eq hf
              simp only [Bool.and_eq_true, decide_eq_true_eq, beq_iff_eq] at hq
              obtain ⟨⟨⟨⟨⟨⟨⟨a1, a2⟩, a3⟩, a4⟩, a5⟩, a6⟩, a7⟩, a8⟩ := hq
              refine ds_tryB (i := some i) (Γ' := Γ.set i (moQ (qX G Γ mx))) g.good.eK g.hs g.hf (by rw [g.good.eN]; exact g.good.nd) (by rw [g.good.eN]; exact h3) (g.kindL h2) h4 ⟨glB_ok g.good h5, (okN_ok h6).1, .inl hm⟩ hh rfl (fun pn xe XE' tk pa => ?_) a7 a8
              obtain ⟨t, pt, st⟩ := sndX mx (X.tr pn xe) sc Γ _ (g.good.tr pn xe) g.hs g.hf tk a4
              refine ⟨_, ps_set (X := X.tr pn xe) (by rw [g.good.eN]; exact g.good.nd) (by rw [g.good.eN]; exact a2) (.inl (g.kindL a1)) pt (sw_no a6) (.inr (g.kindL a1)), fun H0 F0 σ H F env D r hw => ?_⟩
              exact st H0 F0 σ H F env _ r (wpR_mono hw (fun d gg F' H' v x rv => gg F' H' _ x (SR.asg a3 a5 r (r.ext' x) x rv)) fun c fs z => z)
            · cases hq
          · split at hq
            · rename_i ve q e5
              obtain rfl := dExpr_ok e5
              have e := (gd_ok hq).2
              replace hq := (gd_ok hq).1
              injection e with e; subst e
              cases fits_eq hf
              simp only [Bool.and_eq_true] at hq
              obtain ⟨⟨⟨a4, a6⟩, a7⟩, a8⟩ := hq
              refine ds_tryB (i := none) (Γ' := Γ) g.good.eK g.hs g.hf (by rw [g.good.eN]; exact g.good.nd) (by rw [g.good.eN]; exact h3) (g.kindL h2) h4 ⟨glB_ok g.good h5, (okN_ok h6).1, .inl hm⟩ hh rfl (fun pn xe XE' tk pa => ?_) a7 a8
              obtain ⟨t, pt, st⟩ := sndX mx (X.tr pn xe) sc Γ _ (g.good.tr pn xe) g.hs g.hf tk a4
              refine ⟨_, ps_expr pt (sw_no a6), fun H0 F0 σ H F env D r hw => ?_⟩
              exact st H0 F0 σ H F env _ r (wpR_mono hw (fun d gg F' H' v x rv => gg F' H' _ x (r.ext' x)) fun c fs z => z)
            · cases hq
        · cases h
      · cases h
    · cases h
  | .brk => fun X Γ Γb s o Γ' g h hf => by
    unfold chkS at h
    split at h
    · have e := (gd_ok h).2
      replace h := (gd_ok h).1
      exact ds_brk h
    · cases h
  | .cnt => fun X Γ Γb s o Γ' g h hf => by
    unfold chkS at h
    split at h
    · have e := (gd_ok h).2
      replace h := (gd_ok h).1
      exact ds_cnt h
    · cases h
  | .pass => fun X Γ Γb s o Γ' g h hf => by
    unfold chkS at h
    split at h
    · injection h with e; subst e
      cases fits_eq hf
      exact ds_pass
    · cases h
theorem sndSs : ∀ m : MSs, SndSs T Φ G N sc qb fuel XE m
  | .nil => fun X Γ Γb s o Γ' g h hf => by
    unfold chkSs at h
    split at h
    · injection h with e; subst e
      cases fits_eq hf
      exact dss_nil
    · cases h
  | .frz i r => fun X Γ Γb s o Γ' g h hf => by
    have sr := sndSs r
    unfold chkSs at h
    have e := (gd_ok h).2
    replace h := (gd_ok h).1
    rw [Bool.or_eq_true, decide_eq_true_eq, decide_eq_true_eq] at h
    exact dss_frz h (sr _ _ _ _ _ _ g e hf)
  | .cons m r => fun X Γ Γb s o Γ' g h hf => by
    have sm : SndS T Φ G N sc qb fuel XE m := sndS m
    have sr : SndSs T Φ G N sc qb fuel XE r := sndSs r
    unfold chkSs at h
    split at h
    · split at h
      · cases h
      · rename_i em
        split at h
        · injection h with e; subst e
          exact dss_cons (sm _ _ _ _ _ Γ' g em (.inl rfl)) dss_nil
        · cases h
      · rename_i em
        exact dss_cons (sm _ _ _ _ _ _ g em (.inr rfl)) (sr _ _ _ _ _ _ g h hf)
    · cases h
end
end
end Ev

set_option maxHeartbeats 4000000
/-! Ev: defs whose texts the checker passes keep what the evaluator tells -/
namespace Ev
open PySem PySem.Spec PyProof.Rows L2
variable [Tbs]
section
variable (P : Program) (w : World) (K : PySem.W.Frag) (mg : Str → Option Value) (base : Heap) (T : Tab)
/-- what is known of a called thing, at the level k -/
def FL (Φ : Nat → List D → Option D) (k : Nat) (i : Nat) (fi : FI) : Prop := match fi.kind with
  | .fn => ∃ f fd ps ds dvs dd g, FnOk P w K mg base CX0 k f fd ps (spN T (fi.ms ++ dvs.map fun _ => .frz) fi.q g) ∧ mg fi.nm = some (.ref f) ∧ PySem.W.keepIn K (.ref f) = true ∧ Binds K fd ps ds ∧ Vals dvs ds ∧ Dfl dvs dd ∧ ∀ l, Φ i l = g (l ++ dd)
  | .meth => ∃ cs : List Nat, (∀ c ∈ cs, ∃ f fd ps, FnOk P w K mg base CX0 k f fd ps (spMe T c fi.ms fi.q (Φ i)) ∧ Cls K (T.cl c) ∧ Meth K (T.cl c) fi.nm f ∧ Binds K fd ps []) ∧ ∀ x ds d, Φ i (x :: ds) = some d → ∃ c ∈ cs, ∃ fs, x = .obj c fs ∧ fs.lookup fi.nm = none
  | .make => fi.q = .fresh ∧ ∃ j C f fd ps ds dvs dd g, j + 1 ≤ k ∧ Mk K C f ∧ FnOk P w K mg base CX0 j f fd ps (spMk T C (fi.ms ++ dvs.map fun _ => .frz) g) ∧ mg fi.nm = some (.ref C) ∧ Binds K fd ps ds ∧ Vals dvs ds ∧ Dfl dvs dd ∧ (∀ l, Φ i l = g (l ++ dd)) ∧ ∀ l d, g l = some d → d.cell = false
  | .attr => ∀ x d, Φ i [x] = some d → AtOk T fi.nm x d
  | .isc => fi.q = .fresh ∧ ∃ u, NmM mg fi.nm u ∧ ∀ x d, Φ i [x] = some d → IsOk T u x d
  | .isT cs => fi.q = .fresh ∧ ∃ us, Paired (NmM mg) cs us ∧ ∀ x d, Φ i [x] = some d → IsTOk T us x d
  | .fnX => ∃ f fd ps, FnOk P w K mg base (L2.CX P w) k f fd ps (spX T fi.ms fi.q (Φ i)) ∧ mg fi.nm = some (.ref f) ∧ PySem.W.keepIn K (.ref f) = true ∧ Binds K fd ps []
  | .exc => ∃ C, mg fi.nm = some (.ref C) ∧ ∀ c fs, Φ i [.exv c fs] = some (.bl true) → PySem.W.exmOne T.K (.ref (T.cl c)) (.ref C) = some true
  | .rse => ∃ c, RseC K (T.cl c) ∧ mg fi.nm = some (.ref (T.cl c)) ∧ ∀ l d, Φ i l = some d → l = [] ∧ d = .exv c []
  | .rsi => ∃ c j f fd ps nms, j + 1 ≤ k ∧ OexC K (T.cl c) ∧ PySem.W.findIn K (.ref (T.cl c)) "__init__" = some (some (.ref f)) ∧ PySem.W.typeIn K (.ref f) = some (.type "function") ∧ FnOk P w K mg base CX0 j f fd ps (spXi (T.cl c) nms) ∧ Binds K fd ps [] ∧ mg fi.nm = some (.ref (T.cl c)) ∧
    fi.ms.all (fun m => decide (m = .brw)) = true ∧ nms.length ≤ 900 ∧ ∀ l d, Φ i l = some d → ∃ ns : List Int, l = ns.map D.int ∧ ns.length = nms.length ∧ d = .exv c (xfs nms ns)
variable {P w K mg base T} {Φ Φ' : Nat → List D → Option D} {k k' i i' : Nat} {fi : FI}
theorem FL.mono (h : k ≤ k') (f : FL P w K mg base T Φ k i fi) : FL P w K mg base T Φ k' i fi := by
  revert f
  unfold FL
  cases fi.kind <;> intro f
  · obtain ⟨f, fd, ps, ds, dvs, dd, g, Fn, r⟩ := f
    exact ⟨f, fd, ps, ds, dvs, dd, g, Fn.mono h, r⟩
  · obtain ⟨cs, h1, h2⟩ := f
    refine ⟨cs, fun c hc => ?_, h2⟩
    obtain ⟨f, fd, ps, Fn, r⟩ := h1 c hc
    exact ⟨f, fd, ps, Fn.mono h, r⟩
  · obtain ⟨hq, j, C, f, fd, ps, ds, dvs, dd, g, hj, r⟩ := f
    exact ⟨hq, j, C, f, fd, ps, ds, dvs, dd, g, Nat.le_trans hj h, r⟩
  · exact f
  · exact f
  · obtain ⟨f, fd, ps, Fn, r⟩ := f
    exact ⟨f, fd, ps, Fn.mono h, r⟩
  · exact f
  · exact f
  · exact f
  · obtain ⟨c, j, f, fd, ps, nms, hj, r⟩ := f
    exact ⟨c, j, f, fd, ps, nms, Nat.le_trans hj h, r⟩
theorem FL.phi (h : Φ i = Φ' i') (f : FL P w K mg base T Φ k i fi) : FL P w K mg base T Φ' k i' fi := by
  unfold FL at f ⊢
  rw [← h]
  exact f
theorem FL.fok {X : Cx} (f : FL X.prog X.w X.K X.mg X.base T Φ k i fi) (r : Room k X.A) : FOk X T Φ i fi := by
  revert f
  unfold FL FOk
  cases fi.kind <;> intro f
  · obtain ⟨f, fd, ps, ds, dvs, dd, g, Fn, h⟩ := f
    exact ⟨k, f, fd, ps, ds, dvs, dd, g, Fn, r, h⟩
  · obtain ⟨cs, h1, h2⟩ := f
    refine ⟨cs, fun c hc => ?_, h2⟩
    obtain ⟨f, fd, ps, Fn, h⟩ := h1 c hc
    exact ⟨k, f, fd, ps, Fn, r, h⟩
  · obtain ⟨hq, j, C, f, fd, ps, ds, dvs, dd, g, hj, M, Fn, h⟩ := f
    exact ⟨hq, j, C, f, fd, ps, ds, dvs, dd, g, M, Fn, r.mono hj, h⟩
  · exact f
  · exact f
  · obtain ⟨f, fd, ps, Fn, h⟩ := f
    exact ⟨k, f, fd, ps, Fn, r, h⟩
  · exact f
  · exact f
  · exact f
  · obtain ⟨c, j, f, fd, ps, nms, hj, h1, h2, h3, Fn, h⟩ := f
    exact ⟨c, j, f, fd, ps, nms, h1, h2, h3, Fn, r.mono hj, h⟩
/-! ### the state at a def's entry -/
theorem ArgsOk.get {H : Hp} {F : Addr → Prop} : ∀ {ms : List Mo} {vs : List V} {ds : List D}, ArgsOk T H F ms vs ds → ∀ (i : Nat) (d : D), ds[i]? = some d → ∃ m v, ms[i]? = some m ∧ vs[i]? = some v ∧ ArgOk T H F m v d
  | _, _, _, .nil, _, _, e => by simp at e
  | _, _, _, .cons h t, 0, d, e => by
    simp at e
    subst e
    exact ⟨_, _, rfl, rfl, h⟩
  | _, _, _, .cons h t, i + 1, d, e => by
    obtain ⟨m, v, h1, h2, h3⟩ := t.get i d (by simpa using e)
    exact ⟨m, v, by simpa using h1, by simpa using h2, h3⟩
theorem sr_start {H : Hp} {F : Addr → Prop} {ms : List Mo} {vs : List V} {ds : List D} {N : List Str} (hd : Dom F H) (ht : TbsOk H) (h : ArgsOk T H F ms vs ds) (hms : ∀ m ∈ ms, m ≠ .own ∧ m ≠ .lol) : SR T (ms ++ List.replicate (N.length - ms.length) .frz) H F F H (ds.map some ++ List.replicate (N.length - ds.length) none) (L2.start N vs) where
  len := by
    unfold L2.start
    rw [List.length_append, List.length_append, List.length_map, List.length_map, List.length_replicate, List.length_replicate, h.length.1, h.length.2]
  slot := fun i d e => by
    by_cases hi : i < ds.length
    · rw [List.getElem?_append_left (by rw [List.length_map]; exact hi), List.getElem?_map] at e
      have e' : ds[i]? = some d := by
        cases e2 : ds[i]? with
        | none => rw [e2] at e; cases e
        | some x => rw [e2] at e; simpa using e
      obtain ⟨m, v, h1, h2, h3⟩ := h.get i d e'
      refine ⟨v, ?_, ?_⟩
      · unfold L2.start
        rw [List.getElem?_append_left (by have := h.length; rw [List.length_map]; omega), List.getElem?_map, h2]
        rfl
      · rw [List.getD_eq_getElem?_getD, List.getElem?_append_left (by rw [← h.length.2]; exact hi), h1]
        show SlotOk T H F H m v d
        cases m with
        | own => exact absurd rfl (hms _ (List.mem_of_getElem? h1)).1
        | lol => exact absurd rfl (hms _ (List.mem_of_getElem? h1)).2
        | frz => exact h3
        | brw =>
          rcases h3 with h3 | ⟨a, ea, h3⟩
          · exact .inl h3
          · exact .inr ⟨a, ea, h3.some, h3⟩
    · rw [List.getElem?_append_right (by rw [List.length_map]; omega)] at e
      rw [List.getElem?_replicate] at e
      split at e <;> cases e
  sep := fun i j a hi hj => by
    have no : ∀ (i : Nat) (m : Mo), (ms ++ List.replicate (N.length - ms.length) Mo.frz)[i]? = some m → m ≠ .own ∧ m ≠ .lol := fun i m z => by
      have := List.mem_of_getElem? z
      rcases List.mem_append.mp this with z | z
      · exact hms _ z
      · have := List.eq_of_mem_replicate z; subst this; exact ⟨by decide, by decide⟩
    rcases hi.mode with z | z
    · exact absurd rfl (no i _ z).1
    · exact absurd rfl (no i _ z).2
  ext := Ext.refl _ _
  dom := hd
  tabs := ht
def outO : R D → Option D
  | .ok d => some d
  | _ => none
/-- what a def tells -/
def fnD (Φ : Nat → List D → Option D) (fuel slots : Nat) (body : MSs) (ds : List D) : Option D := outO (run Φ fuel slots body ds)
theorem fn_ev {x qual : Str} {params : Arguments} {body : List Stmt} {scope : Scope} {dvs : List V} {kws : List (Str × V)} {f : Addr} {fd : FuncData} {N ps : List Str} {ms : List Mo} {q : Qu} {mb : MSs} {G : Gt} {fuel : Nat} (hT : T.K = K) (F : FunD K x qual params body scope dvs kws f fd)
    (hS : C8.scC N ps scope = true) (hl : (ms.length == ps.length && ms.all fun m => decide (m ≠ .own) && decide (m ≠ .lol)) = true) (hq : q ≠ .dirty) (hc : (chkSs G N scope q mb (ms ++ List.replicate (N.length - ms.length) .frz) [] body).isSome = true)
    (hb : ∀ b ∈ G.blts, mg b = none) (hs : ∀ x z, G.gss.lookup x = some z → ∃ u, mg x = some u ∧ RelV (.str z) u) (hf : ∀ i fi, G.fns[i]? = some fi → FL P w K mg base T Φ k i fi)
    (hlam : ("<lambda>" : Str) ∈ G.blts → LamG base mg fd.code (qual ++ ".<locals>.") := by (intro z; exact absurd z (by decide +kernel))) :
    FnOk P w K mg base CX0 (k + 1) f fd ps (spN T ms q (fnD Φ fuel N.length mb)) := by
  have S := C8.fnScope_by hS
  rw [Bool.and_eq_true, beq_iff_eq, List.all_eq_true] at hl
  obtain ⟨hl1, hl2⟩ := hl
  have hms : ∀ m ∈ ms, m ≠ .own ∧ m ≠ .lol := fun m hm => by simpa using hl2 m hm
  obtain ⟨oc, od, dV, kV, doc, pm, an, cdv, ct, osl, rfl, lk, hcd, _, _⟩ := F.ex
  refine fn_of lk hcd S (fun vs H Q E ⟨F', ds, d, _, _, ha, _, _⟩ => by rw [ha.length.1, hl1]) fun A outer s H vs Q E hr ⟨F', ds, d, hd, ht, ha, hg, hgo⟩ => ?_
  obtain ⟨o, ho⟩ := Option.isSome_iff_exists.mp hc
  have gs : GoodS (cxOf CX0 P w K mg base N qual scope f cdv A outer s H E).nox T Φ G N scope NoXE := by
    refine ⟨⟨hT.symm, rfl, S.nd, rfl, S.kind, rfl, hr.mono (Nat.zero_le _), fun i fi h => ?_, hs, fun b hb' => hb b hb', hlam⟩, takesNo, rfl, rfl, rfl, PassesOwn.never, fun _ _ => rfl⟩
    exact FL.fok (X := (cxOf CX0 P w K mg base N qual scope f cdv A outer s H E).nox) (hf i fi h) hr
  obtain ⟨Γ', hΓ⟩ : ∃ Γ', Fits o Γ' := by
    cases o with
    | none => exact ⟨[], .inl rfl⟩
    | some Γ' => exact ⟨Γ', .inr rfl⟩
  obtain ⟨t, pt, st⟩ := sndSs (fuel := fuel) mb _ _ _ _ _ _ gs ho hΓ
  refine ⟨t, pt.nox, ?_⟩
  refine st H F' (L2.start N vs) H F' (ds.map some ++ List.replicate (N.length - ds.length) none) _ (sr_start hd ht ha hms) ?_
  unfold fnD outO run at hg
  cases e : exs Φ fuel mb (ds.map some ++ List.replicate (N.length - ds.length) none) with
  | bad => rw [e] at hg; cases hg
  | exc c fs => rw [e] at hg; cases hg
  | ok z =>
    rw [e, R.bind_ok] at hg
    obtain ⟨env', fl⟩ := z
    cases fl with
    | nx =>
      injection hg with hg
      subst hg
      intro F2 H2 σ2 _ r2
      exact hgo F2 H2 _ r2.ext .non
    | ret d' =>
      injection hg with hg
      subst hg
      exact hgo
    | brk => cases hg
    | cnt => cases hg
/-- what a def tells that may raise -/
def outX : R D → Option D
  | .ok (.xc _ _) => none
  | .ok d => some d
  | .exc c fs => some (.xc c fs)
  | .bad => none
def fnX (Φ : Nat → List D → Option D) (fuel slots : Nat) (body : MSs) (ds : List D) : Option D := outX (run Φ fuel slots body ds)
theorem ofX_ok {d : D} (h : outX (.ok d) = some d) : ofX (some d) = .ok d := by
  unfold outX at h
  unfold ofX
  cases d <;> first | rfl | cases h
theorem outX_ok {d r : D} (h : outX (.ok d) = some r) : r = d ∧ ofX (some r) = .ok d := by
  have e : r = d := by
    unfold outX at h
    cases d <;> first | (cases h; rfl) | cases h
  subst e
  exact ⟨rfl, ofX_ok h⟩
theorem fn_evX {x qual : Str} {params : Arguments} {body : List Stmt} {scope : Scope} {kws : List (Str × V)} {f : Addr} {fd : FuncData} {N ps : List Str} {ms : List Mo} {q : Qu} {mb : MSs} {G : Gt} {fuel : Nat} (hT : T.K = K) (F : FunD K x qual params body scope [] kws f fd)
    (hS : C8.scC N ps scope = true) (hl : (ms.length == ps.length && ms.all fun m => decide (m ≠ .own) && decide (m ≠ .lol)) = true) (hq : q ≠ .dirty) (hc : (chkSs G N scope q mb (ms ++ List.replicate (N.length - ms.length) .frz) [] body).isSome = true)
    (hb : ∀ b ∈ G.blts, mg b = none) (hs : ∀ x z, G.gss.lookup x = some z → ∃ u, mg x = some u ∧ RelV (.str z) u) (hf : ∀ i fi, G.fns[i]? = some fi → FL P w K mg base T Φ k i fi)
    (hlam : ("<lambda>" : Str) ∈ G.blts → LamG base mg fd.code (qual ++ ".<locals>.") := by (intro z; exact absurd z (by decide +kernel))) :
    FnOk P w K mg base (L2.CX P w) (k + 1) f fd ps (spX T ms q (fnX Φ fuel N.length mb)) := by
  have S := C8.fnScope_by hS
  rw [Bool.and_eq_true, beq_iff_eq, List.all_eq_true] at hl
  obtain ⟨hl1, hl2⟩ := hl
  have hms : ∀ m ∈ ms, m ≠ .own ∧ m ≠ .lol := fun m hm => by simpa using hl2 m hm
  obtain ⟨oc, od, dV, kV, doc, pm, an, cdv, ct, osl, rfl, lk, hcd, _, _⟩ := F.ex
  refine fn_of lk hcd S (fun vs H Q E ⟨F', ds, r, _, _, ha, _, _⟩ => by rw [ha.length.1, hl1]) fun A outer s H vs Q E hr ⟨F', ds, r, hd, ht, ha, hg, hgo⟩ => ?_
  obtain ⟨o, ho⟩ := Option.isSome_iff_exists.mp hc
  have gs : GoodS (cxOf (L2.CX P w) P w K mg base N qual scope f cdv A outer s H E) T Φ G N scope (fun c fs _ F1 H1 => ∀ d, XD T H1 F1 c fs d → E (.ref (T.cl c)) d H1) := by
    refine ⟨⟨hT.symm, rfl, S.nd, rfl, S.kind, rfl, hr.mono (Nat.zero_le _), fun i fi h => ?_, hs, fun b hb' => hb b hb', hlam⟩, ⟨_, takes_of rfl rfl rfl rfl, fun c fs σ F1 H1 d g xd => g d xd⟩, rfl, rfl, rfl, passes_of rfl, fun _ _ => rfl⟩
    exact FL.fok (X := cxOf (L2.CX P w) P w K mg base N qual scope f cdv A outer s H E) (hf i fi h) hr
  obtain ⟨Γ', hΓ⟩ : ∃ Γ', Fits o Γ' := by
    cases o with
    | none => exact ⟨[], .inl rfl⟩
    | some Γ' => exact ⟨Γ', .inr rfl⟩
  obtain ⟨t, pt, st⟩ := sndSs (fuel := fuel) mb _ _ _ _ _ _ gs ho hΓ
  refine ⟨t, pt, ?_⟩
  refine st H F' (L2.start N vs) H F' (ds.map some ++ List.replicate (N.length - ds.length) none) _ (sr_start hd ht ha hms) ?_
  unfold fnX run at hg
  cases e : exs Φ fuel mb (ds.map some ++ List.replicate (N.length - ds.length) none) with
  | bad => rw [e] at hg; cases hg
  | exc c fs =>
    rw [e] at hg
    cases hg
    exact fun σ F1 H1 x d xd => hgo F1 H1 d x xd
  | ok z =>
    rw [e, R.bind_ok] at hg
    obtain ⟨env', fl⟩ := z
    cases fl with
    | nx =>
      obtain ⟨rfl, e2⟩ := outX_ok hg
      rw [e2] at hgo
      intro F2 H2 σ2 _ r2
      exact (show Go T q F' H Q .non from hgo) F2 H2 _ r2.ext .non
    | ret d' =>
      obtain ⟨rfl, e2⟩ := outX_ok hg
      rw [e2] at hgo
      exact hgo
    | brk => cases hg
    | cnt => cases hg
/-! ### the table, one entry after another -/
def phiOf (l : List (List D → Option D)) : Nat → List D → Option D := fun i => l.getD i fun _ => none
def FLs (P : Program) (w : World) (K : PySem.W.Frag) (mg : Str → Option Value) (base : Heap) (T : Tab) (k : Nat) (l : List (List D → Option D)) (fis : List FI) : Prop := l.length = fis.length ∧ ∀ i fi, fis[i]? = some fi → FL P w K mg base T (phiOf l) k i fi
theorem FLs.nil : FLs P w K mg base T 0 [] [] := ⟨rfl, fun i fi h => by simp at h⟩
theorem FLs.snoc {l : List (List D → Option D)} {fis : List FI} {g : List D → Option D} (h : FLs P w K mg base T k l fis) (hk : k ≤ k') (hg : FL P w K mg base T (fun _ => g) k' 0 fi) : FLs P w K mg base T k' (l ++ [g]) (fis ++ [fi]) := by
  refine ⟨by rw [List.length_append, List.length_append, h.1]; rfl, fun i fi' e => ?_⟩
  by_cases hi : i < fis.length
  · rw [List.getElem?_append_left hi] at e
    refine ((h.2 i fi' e).mono hk).phi ?_
    unfold phiOf
    rw [List.getD_eq_getElem?_getD, List.getD_eq_getElem?_getD, List.getElem?_append_left (by rw [h.1]; exact hi)]
  · rw [List.getElem?_append_right (by omega)] at e
    have hi2 : i = fis.length := by
      have := (List.getElem?_eq_some_iff.mp e).1
      simp at this
      omega
    subst hi2
    rw [Nat.sub_self] at e
    injection e with e
    subst e
    refine hg.phi ?_
    unfold phiOf
    rw [List.getD_eq_getElem?_getD, ← h.1, List.getElem?_append_right (Nat.le_refl _), Nat.sub_self]
    rfl
/-- a def that may raise joins the table -/
theorem FLs.fnX {l : List (List D → Option D)} {fis : List FI} {x qual : Str} {params : Arguments} {body : List Stmt} {scope : Scope} {kws : List (Str × V)} {f : Addr} {fd : FuncData} {N ps : List Str} {ms : List Mo} {q : Qu} {mb : MSs} {blts : List Str} {gss : List (Str × Str)} {fuel : Nat}
    (h : FLs P w K mg base T k l fis) (hT : T.K = K) (F : FunD K x qual params body scope [] kws f fd) (hS : C8.scC N ps scope = true) (hl : (ms.length == ps.length && ms.all fun m => decide (m ≠ .own) && decide (m ≠ .lol)) = true) (hq : q ≠ .dirty)
    (hc : (chkSs ⟨fis, gss, blts⟩ N scope q mb (ms ++ List.replicate (N.length - ms.length) .frz) [] body).isSome = true) (hb : ∀ b ∈ blts, mg b = none) (hs : ∀ x z, gss.lookup x = some z → ∃ u, mg x = some u ∧ RelV (.str z) u) (hm : mg x = some (.ref f)) (hB : Binds K fd ps [])
    (hlam : ("<lambda>" : Str) ∈ blts → LamG base mg fd.code (qual ++ ".<locals>.") := by (intro z; exact absurd z (by decide +kernel))) :
    FLs P w K mg base T (k + 1) (l ++ [Ev.fnX (phiOf l) fuel N.length mb]) (fis ++ [⟨.fnX, x, ms, q⟩]) :=
  h.snoc (Nat.le_succ _) ⟨f, fd, ps, fn_evX (G := ⟨fis, gss, blts⟩) hT F hS hl hq hc hb hs h.2 hlam, hm, F.kp, hB⟩
/-- an except clause's class joins the table: tab tells which classes it catches -/
def excF (tab : List Nat) : List D → Option D
  | [.exv c _] => if tab.contains c then some (.bl true) else none
  | _ => none
theorem FLs.exc {l : List (List D → Option D)} {fis : List FI} {x : Str} {C : Addr} {tab : List Nat} (h : FLs P w K mg base T k l fis) (hm : mg x = some (.ref C)) (ht : ∀ c ∈ tab, PySem.W.exmOne T.K (.ref (T.cl c)) (.ref C) = some true) :
    FLs P w K mg base T k (l ++ [excF tab]) (fis ++ [⟨.exc, x, [], .fresh⟩]) :=
  h.snoc (Nat.le_refl _) ⟨C, hm, fun c fs e => by
    replace e : (if tab.contains c then some (D.bl true) else none) = some (.bl true) := e
    by_cases hc : tab.contains c = true
    · exact ht c (by simpa using hc)
    · rw [if_neg hc] at e; cases e⟩
/-- a class that is raised joins the table -/
def rseF (c : Nat) : List D → Option D
  | [] => some (.exv c [])
  | _ => none
theorem FLs.rse {l : List (List D → Option D)} {fis : List FI} {x : Str} {c : Nat} (h : FLs P w K mg base T k l fis) (hr : RseC K (T.cl c)) (hm : mg x = some (.ref (T.cl c))) :
    FLs P w K mg base T k (l ++ [rseF c]) (fis ++ [⟨.rse, x, [], .fresh⟩]) :=
  h.snoc (Nat.le_refl _) ⟨c, hr, hm, fun l d e => by
    replace e : rseF c l = some d := e
    unfold rseF at e
    split at e
    · cases e; exact ⟨rfl, rfl⟩
    · cases e⟩
/-- a def without defaults joins the table -/
theorem FLs.fn {l : List (List D → Option D)} {fis : List FI} {x qual : Str} {params : Arguments} {body : List Stmt} {scope : Scope} {kws : List (Str × V)} {f : Addr} {fd : FuncData} {N ps : List Str} {ms : List Mo} {q : Qu} {mb : MSs} {blts : List Str} {gss : List (Str × Str)} {fuel : Nat}
    (h : FLs P w K mg base T k l fis) (hT : T.K = K) (F : FunD K x qual params body scope [] kws f fd) (hS : C8.scC N ps scope = true) (hl : (ms.length == ps.length && ms.all fun m => decide (m ≠ .own) && decide (m ≠ .lol)) = true) (hq : q ≠ .dirty)
    (hc : (chkSs ⟨fis, gss, blts⟩ N scope q mb (ms ++ List.replicate (N.length - ms.length) .frz) [] body).isSome = true) (hb : ∀ b ∈ blts, mg b = none) (hs : ∀ x z, gss.lookup x = some z → ∃ u, mg x = some u ∧ RelV (.str z) u) (hm : mg x = some (.ref f)) (hB : Binds K fd ps [])
    (hlam : ("<lambda>" : Str) ∈ blts → LamG base mg fd.code (qual ++ ".<locals>.") := by (intro z; exact absurd z (by decide +kernel))) :
    FLs P w K mg base T (k + 1) (l ++ [fnD (phiOf l) fuel N.length mb]) (fis ++ [⟨.fn, x, ms, q⟩]) := by
  refine h.snoc (Nat.le_succ _) ?_
  refine ⟨f, fd, ps, [], [], [], fnD (phiOf l) fuel N.length mb, ?_, hm, F.kp, hB, .nil, .nil, fun l => by rw [List.append_nil]⟩
  rw [List.map_nil, List.append_nil]
  exact fn_ev hT F hS hl hq hc hb hs h.2 hlam
/-- a def that is not told: nothing is promised -/
theorem FLs.fnNo {l : List (List D → Option D)} {fis : List FI} {x qual : Str} {params : Arguments} {body : List Stmt} {scope : Scope} {kws : List (Str × V)} {f : Addr} {fd : FuncData} {N ps : List Str} {ms : List Mo} {q : Qu}
    (h : FLs P w K mg base T k l fis) (F : FunD K x qual params body scope [] kws f fd) (hS : C8.scC N ps scope = true) (hm : mg x = some (.ref f)) (hB : Binds K fd ps []) :
    FLs P w K mg base T (k + 1) (l ++ [fun _ => none]) (fis ++ [⟨.fn, x, ms, q⟩]) := by
  refine h.snoc (Nat.le_succ _) ?_
  refine ⟨f, fd, ps, [], [], [], fun _ => none, ?_, hm, F.kp, hB, .nil, .nil, fun l => rfl⟩
  exact F.ok (C8.fnScope_by hS) (fun vs H Q E ⟨_, _, _, _, _, _, hg, _⟩ => by cases hg) fun cdv A outer s H vs Q E hr ⟨_, _, _, _, _, _, hg, _⟩ => by cases hg
/-- a def with defaults, all its arguments given -/
theorem FLs.fnB {l : List (List D → Option D)} {fis : List FI} {x qual : Str} {params : Arguments} {body : List Stmt} {scope : Scope} {dvs : List V} {kws : List (Str × V)} {f : Addr} {fd : FuncData} {N ps : List Str} {ms : List Mo} {q : Qu} {mb : MSs} {blts : List Str} {gss : List (Str × Str)} {fuel : Nat}
    (h : FLs P w K mg base T k l fis) (hT : T.K = K) (F : FunD K x qual params body scope dvs kws f fd) (hS : C8.scC N ps scope = true) (hl : (ms.length == ps.length && ms.all fun m => decide (m ≠ .own) && decide (m ≠ .lol)) = true) (hq : q ≠ .dirty)
    (hc : (chkSs ⟨fis, gss, blts⟩ N scope q mb (ms ++ List.replicate (N.length - ms.length) .frz) [] body).isSome = true) (hb : ∀ b ∈ blts, mg b = none) (hs : ∀ x z, gss.lookup x = some z → ∃ u, mg x = some u ∧ RelV (.str z) u) (hm : mg x = some (.ref f)) (hB : ∃ ds, Vals [] ds ∧ Binds K fd ps ds)
    (hlam : ("<lambda>" : Str) ∈ blts → LamG base mg fd.code (qual ++ ".<locals>.") := by (intro z; exact absurd z (by decide +kernel))) :
    FLs P w K mg base T (k + 1) (l ++ [fnD (phiOf l) fuel N.length mb]) (fis ++ [⟨.fn, x, ms, q⟩]) := by
  refine h.snoc (Nat.le_succ _) ?_
  obtain ⟨ds, hv, hB⟩ := hB
  cases hv
  refine ⟨f, fd, ps, [], [], [], fnD (phiOf l) fuel N.length mb, ?_, hm, F.kp, hB, .nil, .nil, fun l => by rw [List.append_nil]⟩
  rw [List.map_nil, List.append_nil]
  exact fn_ev hT F hS hl hq hc hb hs h.2 hlam
/-- .. its last one, None, not given; l0: the table that the body sees -/
theorem FLs.fnN {l l0 : List (List D → Option D)} {fis fis0 : List FI} {k0 : Nat} {x qual : Str} {params : Arguments} {body : List Stmt} {scope : Scope} {dvs : List V} {kws : List (Str × V)} {f : Addr} {fd : FuncData} {N ps : List Str} {ms : List Mo} {q : Qu} {mb : MSs} {blts : List Str} {gss : List (Str × Str)} {fuel : Nat}
    (h : FLs P w K mg base T k l fis) (h0 : FLs P w K mg base T k0 l0 fis0) (hk : k0 + 1 ≤ k) (hT : T.K = K) (F : FunD K x qual params body scope dvs kws f fd) (hS : C8.scC N ps scope = true) (hl : ((ms ++ [Mo.frz]).length == ps.length && (ms ++ [Mo.frz]).all fun m => decide (m ≠ .own) && decide (m ≠ .lol)) = true) (hq : q ≠ .dirty)
    (hc : (chkSs ⟨fis0, gss, blts⟩ N scope q mb ((ms ++ [Mo.frz]) ++ List.replicate (N.length - (ms ++ [Mo.frz]).length) .frz) [] body).isSome = true) (hb : ∀ b ∈ blts, mg b = none) (hs : ∀ x z, gss.lookup x = some z → ∃ u, mg x = some u ∧ RelV (.str z) u) (hm : mg x = some (.ref f)) (hB : ∃ ds, Vals [V.non] ds ∧ Binds K fd ps ds)
    (hlam : ("<lambda>" : Str) ∈ blts → LamG base mg fd.code (qual ++ ".<locals>.") := by (intro z; exact absurd z (by decide +kernel))) :
    FLs P w K mg base T k (l ++ [fun xs => fnD (phiOf l0) fuel N.length mb (xs ++ [.non])]) (fis ++ [⟨.fn, x, ms, q⟩]) := by
  refine h.snoc (Nat.le_refl _) ?_
  obtain ⟨ds, hv, hB⟩ := hB
  refine ⟨f, fd, ps, ds, [V.non], [.non], fnD (phiOf l0) fuel N.length mb, ?_, hm, F.kp, hB, hv, .non .nil, fun l => rfl⟩
  exact (fn_ev (ms := ms ++ [Mo.frz]) hT F hS hl hq hc hb hs h0.2 hlam).mono hk
/-! ### the law's own def -/
theorem law_sp {x : Addr} {H : Hp} {ns : List Int} {q : Qu} {m : Mo} {g : List D → Option D} (hT : T.K = K) (ht : TbsOk H) (hS : SqL K H x (ns.map V.int)) (hg : g [.scr ns] = some (.bl true)) : spN T [m] q g [.ref x] H (fun v _ => v = .bl true) E0 := by
  subst hT
  refine ⟨fun b => b = x ∧ ∃ o, H b = some o, [.scr ns], .bl true, fun a h => h.2, ht, ?_, hg, fun F' H' v _ r => ?_⟩
  · have r : Rep T H (fun b => b = x ∧ ∃ o, H b = some o) (.ref x) (.scr ns) := by
      rcases hS with hS | hS
      · refine .scr ⟨rfl, ?_⟩ hS
        rcases hS with h | ⟨o, h⟩
        · exact ⟨_, h⟩
        · exact ⟨_, h⟩
      · exact .scrK hS
    refine .cons ?_ .nil
    cases m with
    | frz => exact r
    | own => exact .inl r
    | lol => exact .inl r
    | brw => exact .inl r
  · cases q with
    | fresh => exact Top.bl (ResOk.top r)
    | clean => exact Top.bl (ResOk.top r)
    | dirty => exact Top.bl (ResOk.top r)
end
end Ev

set_option maxHeartbeats 4000000
/-! Ev: the __init__ of a class of exceptions -/
namespace Ev
open PySem PySem.Spec PyProof.Rows L2
variable [Tbs]
/-- C.__init__(self, '..') -/
def upX : Stmt → Option (Str × Pos × Pos × Str × Pos × Str × Nat × Pos × Pos × Pos)
  | .Expr (.Call (.Attribute (.Name c p) nm apos) [.Name s sp, .Constant (.str m) j p2] [] cpos) pos => if nm == ("__init__" : Str) then some (c, p, apos, s, sp, m, j, p2, cpos, pos) else none
  | _ => none
theorem upX_ok {st : Stmt} {c s m : Str} {p apos sp p2 cpos pos : Pos} {j : Nat} (h : upX st = some (c, p, apos, s, sp, m, j, p2, cpos, pos)) : st = .Expr (.Call (.Attribute (.Name c p) "__init__" apos) [.Name s sp, .Constant (.str m) j p2] [] cpos) pos := by
  unfold upX at h
  split at h
  · split at h
    · rename_i e; cases h; rw [eq_of_beq e]
    · cases h
  · cases h
/-- self.f = v -/
def fdX : Stmt → Option (Str × Pos × Str × Pos × Str × Pos × Pos)
  | .Assign [.Attribute (.Name s sp) nm ap] (.Name v vp) pos => some (s, sp, nm, ap, v, vp, pos)
  | _ => none
theorem fdX_ok {st : Stmt} {s nm v : Str} {sp ap vp pos : Pos} (h : fdX st = some (s, sp, nm, ap, v, vp, pos)) : st = .Assign [.Attribute (.Name s sp) nm ap] (.Name v vp) pos := by
  unfold fdX at h
  split at h
  · cases h; rfl
  · cases h
def chkFl (N : List Str) (sc : Scope) : List Stmt → List Str → Nat → Bool
  | [], [], _ => true
  | st :: r, nm :: ns, i => match fdX st with
    | some (s, _, nm', _, v, _, _) => nm' == nm && slotB N sc 0 s && slotB N sc i v && chkFl N sc r ns (i + 1)
    | none => false
  | _, _, _ => false
def chkXi (N : List Str) (sc : Scope) (hn : Str) (nms : List Str) : List Stmt → Bool
  | st :: r => match upX st with
    | some (c, _, apos, s, _, _, _, _, cpos, _) => c == hn && glB sc c && okN c && slotB N sc 0 s && apos.endLine == cpos.line && chkFl N sc r nms 1
    | none => false
  | _ => false
section
variable {X : Cx} {T : Tab} {Φ : Nat → List D → Option D} {G : Gt} {N : List Str} {sc : Scope} {XE : XT} {C : Addr}
/-- the fields are stored one behind the other -/
theorem fl_ok (g : GoodS X T Φ G N sc XE) (O : OexC X.K C) : ∀ (body : List Stmt) (nms : List Str) (i : Nat), chkFl N sc body nms i = true → (∀ nm ∈ nms, PySem.W.findIn X.K (.ref C) nm = some none) → ∃ t, PSs X body t ∧
    ∀ (E : Ends) (σ : St) (H : Hp) (a d : Addr) (ns : List Int) (fs : List (Str × V)), ns.length = nms.length → fs.length + nms.length ≤ 900 → σ[0]? = some (some (.ref a)) → (∀ k, k < nms.length → σ[i + k]? = some (some (.int (ns.getD k 0)))) →
      H a = some (exo a C (some d)) → H d = some (exd d fs) → d ≠ a → (∀ H', H' a = some (exo a C (some d)) → H' d = some (exd d (xfV (xfs nms ns) ++ fs)) → (∀ b, b ≠ a → b ≠ d → H' b = H b) → E.nx σ H') → t E σ H
  | [], nms, i, h, _ => by
    cases nms with
    | cons _ _ => unfold chkFl at h; cases h
    | nil =>
      refine ⟨_, pss_nil, fun E σ H a d ns fs hl _ _ _ ha hd _ hE => ?_⟩
      cases ns with
      | cons _ _ => cases hl
      | nil => exact hE H ha hd fun _ _ _ => rfl
  | st :: r, nms, i, h, hno => by
    cases nms with
    | nil => unfold chkFl at h; cases h
    | cons nm nms =>
      unfold chkFl at h
      split at h
      · rename_i s sp nm' ap v vp pos ed
        obtain rfl := fdX_ok ed
        simp only [Bool.and_eq_true, beq_iff_eq] at h
        obtain ⟨⟨⟨rfl, h2⟩, h3⟩, h4⟩ := h
        obtain ⟨s1, s2, s3, s4⟩ := slotB_ok g h2
        obtain ⟨v1, v2, v3, v4⟩ := slotB_ok g h3
        obtain ⟨t, pt, ht⟩ := fl_ok g O r nms (i + 1) h4 fun z hz => hno z (List.mem_cons_of_mem _ hz)
        refine ⟨_, pss_cons (ps_ost (pe_var s1 s2 s3 s4) (pe_var v1 v2 v3 v4)) pt, fun E σ H a d ns fs hl hb h0 hk ha hd hne hE => ?_⟩
        cases ns with
        | nil => cases hl
        | cons n ns =>
          have k0 := hk 0 (by simp)
          refine ⟨.int n, by simpa using k0, .ref a, h0, a, C, rfl, O, hno _ List.mem_cons_self, .inr ⟨d, fs, ha, hd, by simp at hb; omega, ?_⟩⟩
          refine ht E σ _ a d ns ((nm', .int n) :: fs) (by simpa using hl) (by simp at hb ⊢; omega) h0 (fun k hk' => ?_) (by rw [upd_ne (Ne.symm hne)]; exact ha) upd_same hne fun H' a1 a2 a3 => hE H' a1 ?_ fun b b1 b2 => by rw [a3 b b1 b2, upd_ne b2]
          · have := hk (k + 1) (by simp; omega)
            rw [show i + 1 + k = i + (k + 1) from by omega]
            simpa using this
          · rw [a2]
            congr 2
            unfold xfV xfs
            rw [List.zip_cons_cons, List.reverse_cons, List.map_append, List.append_assoc]
            rfl
      · cases h
end
section
variable {P : Program} {w : World} {K : PySem.W.Frag} {mg : Str → Option Value} {base : Heap} {T : Tab} {k : Nat}
theorem initX_ev {x qual hn : Str} {params : Arguments} {body : List Stmt} {scope : Scope} {kws : List (Str × V)} {f : Addr} {fd : FuncData} {N ps nms : List Str} {C Hc : Addr} {mc : Value} (F : FunD K x qual params body scope [] kws f fd) (hS : C8.scC N ps scope = true) (hc : chkXi N scope hn nms body = true) (hl : ps.length = nms.length + 1) (hl2 : nms.length ≤ 900) (hne : nms ≠ [])
    (O : OexC K C) (hno : ∀ nm ∈ nms, PySem.W.findIn K (.ref C) nm = some none) (hm : mg hn = some (.ref Hc)) (cr : ClX.CRead K Hc mc) (at_ : PySem.W.findCls K (.ref Hc) mc "__init__" = some (.val (.builtin "ValueError.__init__"))) :
    FnOk P w K mg base CX0 (k + 1) f fd ps (spXi C nms) := by
  have S := C8.fnScope_by hS
  obtain ⟨oc, od, dV, kV, doc, pm, an, cdv, ct, osl, rfl, lk, hcd, _, _⟩ := F.ex
  refine fn_of lk hcd S (fun vs H Q E h => by rw [spXi_len h, hl]) fun A outer s H vs Q E hr h => ?_
  have gs : GoodS (cxOf CX0 P w K mg base N qual scope f cdv A outer s H E).nox ⟨K, fun _ => C, fun _ => 0⟩ (fun _ _ => none) ⟨[], [], []⟩ N scope NoXE := by
    refine ⟨⟨rfl, rfl, S.nd, rfl, S.kind, rfl, hr.mono (Nat.zero_le _), fun i fi h => (by simp at h), fun x z h => (by cases h), fun b hb' => (by cases hb'), fun z => (by cases z)⟩, takesNo, rfl, rfl, rfl, PassesOwn.never, fun _ _ => rfl⟩
  cases body with
  | nil => unfold chkXi at hc; cases hc
  | cons st r =>
    unfold chkXi at hc
    dsimp only at hc
    split at hc
    · rename_i c p apos sn sp m j p2 cpos pos ed
      obtain rfl := upX_ok ed
      simp only [Bool.and_eq_true, beq_iff_eq] at hc
      obtain ⟨⟨⟨⟨⟨rfl, h1⟩, h2⟩, h3⟩, h4⟩, h5⟩ := hc
      obtain ⟨s1, s2, s3, s4⟩ := slotB_ok gs h3
      have pa : PA (cxOf CX0 P w K mg base N qual scope f cdv A outer s H E).nox [.Name sn sp, .Constant (.str m) j p2] (tCons (tVar 0) (tCons (tC (.str m)) tNil)) := pa_cons (pe_var s1 s2 s3 s4) (pa_cons pe_str pa_nil (starEach_cons rfl)) (starEach_cons rfl)
      have pe := pe_heinit (X := (cxOf CX0 P w K mg base N qual scope f cdv A outer s H E).nox) (pos := cpos) (apos := apos) (p := p) (glB_ok gs.good h1) hm cr at_ pa (okN_ok h2).1 (starEach_cons rfl) (backTo_none rfl) (methEq rfl (methForm rfl (by show 2 < 29; decide)) (by rw [beq_iff_eq]; exact h4))
      cases nms with
      | nil => exact absurd rfl hne
      | cons nm nms =>
      cases r with
      | nil => unfold chkFl at h5; cases h5
      | cons st r =>
      unfold chkFl at h5
      split at h5
      · rename_i s' sp' nm' ap v vp pos' ed
        obtain rfl := fdX_ok ed
        simp only [Bool.and_eq_true, beq_iff_eq] at h5
        obtain ⟨⟨⟨rfl, h6⟩, h7⟩, h8⟩ := h5
        obtain ⟨a1, a2, a3, a4⟩ := slotB_ok gs h6
        obtain ⟨v1, v2, v3, v4⟩ := slotB_ok gs h7
        obtain ⟨t, pt, ht⟩ := fl_ok (C := C) gs O r nms 2 h8 fun z hz => hno z (List.mem_cons_of_mem _ hz)
        refine ⟨_, (pss_cons (ps_expr pe rfl) (pss_cons (ps_ost (pe_var a1 a2 a3 a4) (pe_var v1 v2 v3 v4)) pt)).nox, ?_⟩
        obtain ⟨a, Hb, ns, rfl, hn, na, rfl, hQ⟩ := h
        cases ns with
        | nil => cases hn
        | cons n ns =>
          have hst : ∀ i v, (V.ref a :: (n :: ns).map V.int)[i]? = some v → (L2.start N (V.ref a :: (n :: ns).map V.int))[i]? = some (some v) := fun i v e => by
            unfold L2.start
            rw [List.getElem?_append_left (by rw [List.length_map]; exact (List.getElem?_eq_some_iff.mp e).1), List.getElem?_map, e]
            rfl
          refine ⟨.ref a, hst 0 _ rfl, a, C, [.str m], rfl, by simp, O, upd_same, ?_⟩
          refine ⟨.int n, hst 1 _ rfl, .ref a, hst 0 _ rfl, a, C, rfl, O, hno _ List.mem_cons_self, .inl ⟨upd_same, fun dx nd ne => ?_⟩⟩
          have nb : Hb dx = none := by rw [upd_ne ne] at nd; exact nd
          refine ht _ _ _ a dx ns [(nm', .int n)] (by simpa using hn) (by simp at hl2 ⊢; omega) (hst 0 _ rfl) (fun k hk => ?_) upd_same (by rw [upd_ne ne]; exact upd_same) ne fun H' b1 b2 b3 => ?_
          · refine hst (2 + k) _ ?_
            have e2 : ns.length = nms.length := by simpa using hn
            rw [show 2 + k = (k + 1) + 1 from by omega, List.getElem?_cons_succ, List.map_cons, List.getElem?_cons_succ, List.getElem?_map, List.getElem?_eq_getElem (by omega), List.getD_eq_getElem?_getD, List.getElem?_eq_getElem (by omega)]
            rfl
          · refine hQ H' dx nb ne b1 ?_ fun b c1 c2 => by rw [b3 b c1 c2, upd_ne c1, upd_ne c2, upd_ne c1]
            rw [b2]
            congr 2
            unfold xfV xfs
            rw [List.zip_cons_cons, List.reverse_cons, List.map_append]
            rfl
      · cases h5
    · cases hc
/-- a class that is raised with ints joins the table -/
def rsiF (c : Nat) (nms : List Str) (l : List D) : Option D := match allI l with
  | .ok ns => if ns.length = nms.length then some (.exv c (xfs nms ns)) else none
  | _ => none
theorem allI_map : ∀ {l : List D} {ns : List Int}, allI l = .ok ns → l = ns.map D.int
  | [], ns, h => by unfold allI at h; cases h; rfl
  | d :: ds, ns, h => by
    unfold allI at h
    cases e : d.asI with
    | bad => rw [e] at h; cases h
    | exc c fs => rw [e] at h; cases h
    | ok i =>
      rw [e, R.bind_ok] at h
      cases e2 : allI ds with
      | bad => rw [e2] at h; cases h
      | exc c fs => rw [e2] at h; cases h
      | ok r =>
        rw [e2, R.bind_ok] at h
        cases h
        rw [List.map_cons, ← allI_map e2]
        congr 1
        unfold D.asI at e
        split at e
        · cases e; rfl
        · cases e
theorem FLs.rsi {k' j c : Nat} {l : List (List D → Option D)} {fis : List FI} {x : Str} {f : Addr} {fd : FuncData} {ps nms : List Str} {ms : List Mo} (h : FLs P w K mg base T k l fis) (hk : k ≤ k') (hj : j + 1 ≤ k') (hT : T.K = K) (O : OexC K (T.cl c)) (iC : PySem.W.findIn K (.ref (T.cl c)) "__init__" = some (some (.ref f))) (tI : PySem.W.typeIn K (.ref f) = some (.type "function"))
    (Fn : FnOk P w K mg base CX0 j f fd ps (spXi (T.cl c) nms)) (hb : Binds K fd ps []) (hm : mg x = some (.ref (T.cl c))) (hms : ms.all (fun m => decide (m = .brw)) = true) (hl : nms.length ≤ 900) :
    FLs P w K mg base T k' (l ++ [rsiF c nms]) (fis ++ [⟨.rsi, x, ms, .fresh⟩]) :=
  h.snoc hk ⟨c, j, f, fd, ps, nms, hj, O, iC, tI, Fn, hb, hm, hms, hl, fun l d e => by
    replace e : rsiF c nms l = some d := e
    unfold rsiF at e
    split at e
    · rename_i ns en
      split at e
      · rename_i hn
        cases e
        exact ⟨ns, allI_map en, hn, rfl⟩
      · cases e
    · cases e⟩
end
end Ev

set_option maxHeartbeats 2000000
/-! Ev: plain lemmas about the evaluator -/
namespace Ev
open PySem PySem.Spec PyProof.Rows L2
/-- no tables are told of -/
instance (priority := low) noTbs : Tbs := ⟨[]⟩
theorem noTbs_ok (H : L2.Hp) : @TbsOk noTbs H := fun p hp => by cases hp
/-! ### loops -/
theorem forL_fold {σ : Type} (E : σ → Ev) (step : σ → D → σ) (J : σ → Prop) {t : Tg} {b : Ev → R (Ev × Fl)} : ∀ (ds : List D) (s : σ), J s → (∀ s, J s → ∀ d ∈ ds, (bindT t d (E s)).bind b = .ok (E (step s d), .nx) ∧ J (step s d)) → forL t b ds (E s) = .ok (E (ds.foldl step s), .nx) ∧ J (ds.foldl step s)
  | [], s, h, _ => ⟨rfl, h⟩
  | d :: ds, s, h, hs => by
    obtain ⟨h1, h2⟩ := hs s h d (by simp)
    unfold forL
    cases e : bindT t d (E s) with
    | bad => rw [e] at h1; cases h1
    | exc c fs => rw [e] at h1; cases h1
    | ok env =>
      rw [e, R.bind_ok] at h1
      rw [R.bind_ok, h1, R.bind_ok]
      exact forL_fold E step J ds (step s d) h2 fun s hj d' hd => hs s hj d' (by simp [hd])
theorem forL_inv {t : Tg} {b : Ev → R (Ev × Fl)} (J : Nat → Ev → Prop) : ∀ (ds : List D) (k : Nat) (env : Ev), J k env → (∀ i env d, ds[i]? = some d → J (k + i) env → ∃ env', (bindT t d env).bind b = .ok (env', .nx) ∧ J (k + i + 1) env') → ∃ env', forL t b ds env = .ok (env', .nx) ∧ J (k + ds.length) env'
  | [], k, env, h, _ => ⟨env, rfl, h⟩
  | d :: ds, k, env, h, hs => by
    obtain ⟨env1, h1, h2⟩ := hs 0 env d rfl h
    obtain ⟨env2, h3, h4⟩ := forL_inv J ds (k + 1) env1 h2 fun i e d' hd hj => by
      have := hs (i + 1) e d' (by simpa using hd) (by rw [show k + (i + 1) = k + 1 + i by omega]; exact hj)
      rw [show k + (i + 1) + 1 = k + 1 + i + 1 by omega] at this
      exact this
    refine ⟨env2, ?_, by rw [List.length_cons, show k + (ds.length + 1) = k + 1 + ds.length by omega]; exact h4⟩
    unfold forL
    cases e : bindT t d env with
    | bad => rw [e] at h1; cases h1
    | exc c fs => rw [e] at h1; cases h1
    | ok env0 =>
      rw [e, R.bind_ok] at h1
      rw [R.bind_ok, h1, R.bind_ok]
      exact h3
/-- a loop that may return: Rt is what it then returns -/
def Out (r : R (Ev × Fl)) (N : Ev → Prop) (Rt : D → Prop) : Prop := (∃ e, r = .ok (e, .nx) ∧ N e) ∨ ∃ e d, r = .ok (e, .ret d) ∧ Rt d
theorem forL_out {t : Tg} {b : Ev → R (Ev × Fl)} (J : Nat → Ev → Prop) (Rt : D → Prop) : ∀ (ds : List D) (k : Nat) (env : Ev), J k env → (∀ i env d, ds[i]? = some d → J (k + i) env → Out ((bindT t d env).bind b) (J (k + i + 1)) Rt) → Out (forL t b ds env) (J (k + ds.length)) Rt
  | [], k, env, h, _ => .inl ⟨env, rfl, h⟩
  | d :: ds, k, env, h, hs => by
    have h0 := hs 0 env d rfl h
    unfold forL
    rcases h0 with ⟨env1, h1, h2⟩ | ⟨env1, x, h1, h2⟩
    · have h3 := forL_out J Rt ds (k + 1) env1 h2 fun i e d' hd hj => by
        have := hs (i + 1) e d' (by simpa using hd) (by rw [show k + (i + 1) = k + 1 + i by omega]; exact hj)
        rw [show k + (i + 1) + 1 = k + 1 + i + 1 by omega] at this
        exact this
      cases e : bindT t d env with
      | bad => rw [e] at h1; cases h1
      | exc c fs => rw [e] at h1; cases h1
      | ok env0 =>
        rw [e, R.bind_ok] at h1
        rw [R.bind_ok, h1, R.bind_ok]
        rw [List.length_cons, show k + (ds.length + 1) = k + 1 + ds.length by omega]
        exact h3
    · cases e : bindT t d env with
      | bad => rw [e] at h1; cases h1
      | exc c fs => rw [e] at h1; cases h1
      | ok env0 =>
        rw [e, R.bind_ok] at h1
        rw [R.bind_ok, h1, R.bind_ok]
        exact .inr ⟨env1, x, rfl, h2⟩
theorem whileL_inv {c : Ev → R D} {b : Ev → R (Ev × Fl)} (J : Ev → Prop) (m : Ev → Nat) (Pd : Ev → Prop) : ∀ (n : Nat) (env : Ev), m env < n → J env → (∀ env, J env → ((c env).bind truthD = .ok false ∧ Pd env) ∨ ((c env).bind truthD = .ok true ∧ ∃ env', b env = .ok (env', .nx) ∧ J env' ∧ m env' < m env)) → ∃ env', whileL c b n env = .ok (env', .nx) ∧ Pd env'
  | 0, env, h, _, _ => absurd h (Nat.not_lt_zero _)
  | n + 1, env, h, hj, hs => by
    unfold whileL
    rw [← R.bind_assoc]
    rcases hs env hj with ⟨h1, h2⟩ | ⟨h1, env', h2, h3, h4⟩
    · rw [h1, R.bind_ok]
      exact ⟨env, rfl, h2⟩
    · rw [h1, R.bind_ok]
      dsimp only
      rw [h2, R.bind_ok]
      exact whileL_inv J m Pd n env' (by omega) h3 hs
theorem compL_map {b : D → R Ev} {c f : Ev → R D} (p : D → Bool) (g : D → D) : ∀ ds : List D, (∀ d ∈ ds, ∃ env, b d = .ok env ∧ c env = .ok (.bl (p d)) ∧ (p d = true → f env = .ok (g d))) → compL b c f ds = .ok ((ds.filter p).map g)
  | [], _ => rfl
  | d :: ds, h => by
    obtain ⟨env, h1, h2, h3⟩ := h d (by simp)
    have ih := compL_map p g ds fun d' hd => h d' (by simp [hd])
    unfold compL
    rw [h1, R.bind_ok, h2, R.bind_ok]
    unfold D.asB
    rw [R.bind_ok]
    cases e : p d with
    | false => rw [List.filter_cons_of_neg (by simp [e])]; exact ih
    | true =>
      rw [List.filter_cons_of_pos e]
      dsimp only
      rw [h3 e, R.bind_ok, ih, R.bind_ok]
      rfl
theorem rangeD_nat {n : Nat} (h : n < 2 ^ 62) : rangeD 0 (n : Int) = .ok ((List.range n).map fun k => .int (k : Nat)) := by
  unfold rangeD
  rw [if_pos (by simp only [Bool.and_eq_true, decide_eq_true_eq]; omega)]
  congr 1
  rw [Int.sub_zero, Int.toNat_natCast]
  apply List.map_congr_left
  intro k _
  rw [Int.zero_add]
theorem rangeD_int {n : Int} (h : 0 ≤ n) (h2 : n < 2 ^ 62) : rangeD 0 n = .ok ((List.range n.toNat).map fun k => .int (k : Nat)) := by
  obtain ⟨k, rfl⟩ := Int.eq_ofNat_of_zero_le h
  rw [rangeD_nat (by omega), Int.toNat_natCast]
/-! ### lists of iL -/
abbrev iL (ns : List Int) : List D := ns.map D.int
theorem ints_len (ns : List Int) : (iL ns).length = ns.length := List.length_map _
theorem allI_ints : ∀ ns : List Int, allI (iL ns) = .ok ns
  | [] => rfl
  | n :: ns => by
    show (R.ok n).bind _ = _
    rw [R.bind_ok]
    have := allI_ints ns
    unfold iL at this
    rw [this]
    rfl
theorem flat_ints (ns : List Int) : (iL ns).all flatD = true := by
  rw [List.all_eq_true]
  intro d hd
  obtain ⟨n, _, rfl⟩ := List.mem_map.mp hd
  rfl
theorem any_ints (k : Int) (ns : List Int) : ((iL ns).any fun y => eqFB y (.int k)) = ns.contains k := by
  induction ns with
  | nil => rfl
  | cons n ns ih =>
    rw [List.contains_cons, ← ih]
    show (eqFB (.int n) (.int k) || _) = _
    congr 1
    show (n == k) = (k == n)
    exact Bool.eq_iff_iff.mpr ⟨fun h => by simpa using (beq_iff_eq.mp h).symm, fun h => by simpa using (beq_iff_eq.mp h).symm⟩
theorem in_ints (neg : Bool) (k : Int) (ns : List Int) : inD neg (.int k) (.lst (iL ns)) = .ok (xor neg (ns.contains k)) := by
  unfold inD D.seq
  dsimp only
  rw [if_pos (by rw [flat_ints]; rfl), any_ints]
theorem in_scr (neg : Bool) (k : Int) (ns : List Int) : inD neg (.int k) (.scr ns) = .ok (xor neg (ns.contains k)) := by
  unfold inD D.seq
  dsimp only
  rw [if_pos (by have := flat_ints ns; unfold iL at this; rw [this]; rfl)]
  have := any_ints k ns
  unfold iL at this
  rw [this]
theorem atI_nat {α : Type} (xs : List α) (k : Nat) (h : k < xs.length) : L2.atI xs (k : Int) = some xs[k] := by
  unfold L2.atI L2.ixN
  rw [if_pos (by omega), if_pos (by omega)]
  simp [h]
theorem atI_neg {α : Type} (xs : List α) (h : 0 < xs.length) : L2.atI xs (-1) = some (xs[xs.length - 1]'(by omega)) := by
  unfold L2.atI L2.ixN
  rw [if_neg (by omega), if_pos (by omega), Option.bind_some, show ((-1 : Int) + (xs.length : Int)).toNat = xs.length - 1 by omega]
  exact List.getElem?_eq_getElem (by omega)
theorem datas_ints : ∀ ns : List Int, D.datas (iL ns) = some (ns.map PyData.int)
  | [] => by unfold iL D.datas; rfl
  | n :: ns => by
    have := datas_ints ns
    unfold iL at this
    show D.datas (D.int n :: ns.map D.int) = _
    unfold D.datas
    rw [this]
    unfold D.data
    rfl
theorem canLay_ints : ∀ ns : List Int, PyData.canLayAll0 (ns.map PyData.int) = true
  | [] => by unfold List.map PyData.canLayAll0; rfl
  | n :: ns => by
    show PyData.canLayAll0 (PyData.int n :: ns.map PyData.int) = true
    unfold PyData.canLayAll0
    rw [canLay_ints ns]
    unfold PyData.canLay0
    rfl
theorem depth_ints : ∀ ns : List Int, PyData.depthAll (ns.map PyData.int) = 0
  | [] => by unfold List.map PyData.depthAll; rfl
  | n :: ns => by
    show PyData.depthAll (PyData.int n :: ns.map PyData.int) = 0
    unfold PyData.depthAll
    rw [depth_ints ns]
    unfold PyData.depth
    rfl
theorem eqv_ints : ∀ ns ms : List Int, PyData.eqvAll (ns.map PyData.int) (ms.map PyData.int) = decide (ns = ms)
  | [], [] => by unfold List.map PyData.eqvAll; rfl
  | [], _ :: _ => by show PyData.eqvAll [] (_ :: _) = _; unfold PyData.eqvAll; rfl
  | _ :: _, [] => by show PyData.eqvAll (_ :: _) [] = _; unfold PyData.eqvAll; rfl
  | n :: ns, m :: ms => by
    show PyData.eqvAll (PyData.int n :: ns.map PyData.int) (PyData.int m :: ms.map PyData.int) = _
    unfold PyData.eqvAll
    rw [eqv_ints ns ms]
    unfold PyData.eqv
    by_cases h : n = m
    · subst h; simp
    · simp [h]
theorem shaped_ints (ns : List Int) : SeqAt.shaped (.list (ns.map PyData.int)) = true := by
  unfold SeqAt.shaped
  unfold PyData.canLay0 PyData.depth
  rw [canLay_ints, depth_ints]
  rfl
theorem eq_ints (ns ms : List Int) : eqD (.lst (iL ns)) (.lst (iL ms)) = .ok (decide (ns = ms)) := by
  unfold eqD
  have e1 : eqF (.lst (iL ns)) (.lst (iL ms)) = .bad := rfl
  have e2 : ∀ ns, (D.lst (iL ns)).data = some (.list (ns.map PyData.int)) := fun ns => by unfold D.data; rw [datas_ints]; rfl
  rw [e1, e2, e2]
  dsimp only
  rw [if_pos (by rw [shaped_ints, shaped_ints]; rfl)]
  congr 1
  unfold PyData.eqv
  exact eqv_ints ns ms
/-! ### by deciding -/
def isI (o : Option D) (i : Int) : Bool := match o with
  | some (.int j) => decide (j = i)
  | _ => false
theorem isI_ok {o : Option D} {i : Int} (h : isI o i = true) : o = some (.int i) := by
  unfold isI at h
  split at h
  · rw [of_decide_eq_true h]
  · cases h
def isB (o : Option D) (i : Bool) : Bool := match o with
  | some (.bl j) => j == i
  | _ => false
theorem isB_ok {o : Option D} {i : Bool} (h : isB o i = true) : o = some (.bl i) := by
  unfold isB at h
  split at h
  · rw [beq_iff_eq.mp h]
  · cases h
def eqIs : List D → List Int → Bool
  | [], [] => true
  | .int i :: ds, j :: ns => decide (i = j) && eqIs ds ns
  | _, _ => false
theorem eqIs_ok : ∀ {ds : List D} {ns : List Int}, eqIs ds ns = true → ds = iL ns
  | [], [], _ => rfl
  | [], _ :: _, h => by cases h
  | d :: ds, [], h => by cases d <;> cases h
  | d :: ds, j :: ns, h => by
    cases d with
    | int i =>
      unfold eqIs at h
      rw [Bool.and_eq_true] at h
      rw [of_decide_eq_true h.1, eqIs_ok h.2]
      rfl
    | _ => cases h
def isL (o : Option D) (ns : List Int) : Bool := match o with
  | some (.lst ds) => eqIs ds ns
  | _ => false
theorem isL_ok {o : Option D} {ns : List Int} (h : isL o ns = true) : o = some (.lst (iL ns)) := by
  unfold isL at h
  split at h
  · rw [eqIs_ok h]
  · cases h
def isN (o : Option D) : Bool := match o with
  | some .non => true
  | _ => false
theorem isN_ok {o : Option D} (h : isN o = true) : o = some .non := by
  unfold isN at h
  split at h
  · rfl
  · cases h
/-- all below -/
theorem all_range {n : Nat} {p : Nat → Bool} (h : (List.range n).all p = true) (k : Nat) (hk : k < n) : p k = true := List.all_eq_true.mp h k (List.mem_range.mpr hk)
theorem mulR (i : Int) {j : Int} (h : fitsI j = true) : mulD (.int i) (.int j) = .ok (.int (i * j)) := by
  unfold mulD
  dsimp only
  rw [if_pos (by rw [h]; simp)]
theorem mulL {i : Int} (j : Int) (h : fitsI i = true) : mulD (.int i) (.int j) = .ok (.int (i * j)) := by
  unfold mulD
  dsimp only
  rw [if_pos (by rw [h]; simp)]
theorem fits_of {i : Int} (h1 : -(2 ^ 64) < i) (h2 : i < 2 ^ 64) : fitsI i = true := by
  unfold fitsI
  simp only [Bool.and_eq_true, decide_eq_true_eq]
  exact ⟨h1, h2⟩
theorem bitAnd_nat (a b : Nat) : Builtin.bitAnd (a : Int) (b : Int) = ((a &&& b : Nat) : Int) := by
  unfold Builtin.bitAnd
  rw [decide_eq_true (Int.natCast_nonneg a), decide_eq_true (Int.natCast_nonneg b)]
  rfl
theorem bitOr_nat (a b : Nat) : Builtin.bitOr (a : Int) (b : Int) = ((a ||| b : Nat) : Int) := by
  unfold Builtin.bitOr Builtin.bitAnd
  rw [decide_eq_false (show ¬ 0 ≤ Builtin.bitNot (a : Int) by unfold Builtin.bitNot; omega), decide_eq_false (show ¬ 0 ≤ Builtin.bitNot (b : Int) by unfold Builtin.bitNot; omega)]
  have e : ∀ x : Int, Builtin.bitNot (Builtin.bitNot x) = x := fun x => by unfold Builtin.bitNot; omega
  dsimp only
  rw [e, e, e]
  rfl
/-- slices at places within -/
theorem sIx_in {n d k : Nat} (h : k ≤ n) : HT.sIx n d (some (k : Int)) = k := by
  rw [HT.sIx_nat]
  omega
theorem cut_to {α : Type} (xs : List α) (k : Nat) (h : k ≤ xs.length) : cutD xs none (some (k : Int)) = xs.take k := by
  unfold cutD
  rw [sIx_in h, HT.sIx_none]
  simp
theorem cut_from {α : Type} (xs : List α) (k : Nat) (h : k ≤ xs.length) : cutD xs (some (k : Int)) none = xs.drop k := by
  unfold cutD
  rw [sIx_in h, HT.sIx_none]
  rw [List.take_of_length_le]
  rw [List.length_drop]
  exact Nat.le_refl _
theorem cut_min {α : Type} (xs : List α) (k : Nat) : cutD xs none (some (k : Int)) = xs.take k := by
  unfold cutD
  rw [HT.sIx_nat, HT.sIx_none]
  simp only [List.drop_zero, Nat.sub_zero]
  by_cases h : k ≤ xs.length
  · rw [Nat.min_eq_left h]
  · rw [Nat.min_eq_right (by omega), List.take_length, List.take_of_length_le (by omega)]
theorem eqI (i j : Int) : eqD (.int i) (.int j) = .ok (decide (i = j)) := rfl
theorem eqI_self (i : Int) : eqD (.int i) (.int i) = .ok true := by rw [eqI, decide_eq_true rfl]
theorem len_lst (ds : List D) : lenD [.lst ds] = .ok (.int (ds.length : Nat)) := rfl
theorem len_iL (xs : List Int) : lenD [.lst (iL xs)] = .ok (.int (xs.length : Nat)) := by rw [len_lst, ints_len]
theorem sub_lst (ds : List D) (k : Nat) (h : k < ds.length) : subD (.lst ds) (.int (k : Nat)) = .ok ds[k] := by
  show ofO (L2.atI ds (k : Int)) = _
  rw [atI_nat _ _ h]
  rfl
theorem sub_iL (xs : List Int) (k : Nat) (h : k < xs.length) : subD (.lst (iL xs)) (.int (k : Nat)) = .ok (.int xs[k]) := by
  rw [sub_lst _ _ (by rw [ints_len]; exact h)]
  simp
theorem sub_last (ds : List D) (h : 0 < ds.length) : subD (.lst ds) (.int (-1)) = .ok (ds[ds.length - 1]'(by omega)) := by
  show ofO (L2.atI ds (-1)) = _
  rw [atI_neg _ h]
  rfl
theorem mod_pos {i j : Int} (h : 0 < j) : modD (.int i) (.int j) = .ok (.int (i % j)) := by
  unfold modD
  dsimp only
  rw [if_pos h]
theorem fdiv_pos {i j : Int} (h : 0 < j) (h2 : j < 1073741824) : fdivD (.int i) (.int j) = .ok (.int (i / j)) := by
  unfold fdivD
  dsimp only
  rw [if_pos (by simp only [Bool.and_eq_true, Bool.or_eq_true, decide_eq_true_eq]; exact ⟨h, .inl h2⟩)]
theorem list_lst (ds : List D) : listD [.lst ds] = .ok (.lst ds) := rfl
theorem rev_iL (xs : List Int) : revD (.lst (iL xs)) = .ok (.lst (iL xs.reverse)) := by
  show R.ok _ = _
  rw [← List.map_reverse]
theorem app_iL (xs : List Int) (k : Int) (h : xs.length < 16777216) : appD (.lst (iL xs)) [.int k] = .ok (.lst (iL (xs ++ [k]))) := by
  unfold appD
  dsimp only
  rw [if_pos (by rw [ints_len]; exact h)]
  simp
theorem app_lst (xs : List D) (d : D) (h : xs.length < 16777216) : appD (.lst xs) [d] = .ok (.lst (xs ++ [d])) := by
  unfold appD
  dsimp only
  rw [if_pos h]
theorem add_lst (xs ys : List D) (h : xs.length + ys.length ≤ 16777216) : addD (.lst xs) (.lst ys) = .ok (.lst (xs ++ ys)) := by
  unfold addD
  dsimp only
  rw [if_pos h]
theorem addI (i j : Int) : addD (.int i) (.int j) = .ok (.int (i + j)) := rfl
theorem add_iL (xs ys : List Int) (h : xs.length + ys.length ≤ 16777216) : addD (.lst (iL xs)) (.lst (iL ys)) = .ok (.lst (iL (xs ++ ys))) := by
  rw [add_lst _ _ (by rw [ints_len, ints_len]; exact h), ← List.map_append]
theorem to_iL (xs : List Int) (k : Nat) (h : k ≤ xs.length) : sliceD none (some (k : Int)) (.lst (iL xs)) = .ok (.lst (iL (xs.take k))) := by
  show R.ok (D.lst (cutD _ _ _)) = _
  rw [cut_to _ _ (by rw [ints_len]; exact h), ← List.map_take]
theorem from_iL (xs : List Int) (k : Nat) (h : k ≤ xs.length) : sliceD (some (k : Int)) none (.lst (iL xs)) = .ok (.lst (iL (xs.drop k))) := by
  show R.ok (D.lst (cutD _ _ _)) = _
  rw [cut_from _ _ (by rw [ints_len]; exact h), ← List.map_drop]
theorem to_scr (xs : List Int) (k : Nat) : sliceD none (some (k : Int)) (.scr xs) = .ok (.lst (iL (xs.take k))) := by
  show R.ok (D.lst ((cutD xs none (some (k : Int))).map D.int)) = _
  rw [cut_min]
theorem ins_iL (xs : List Int) (p : Nat) (k : Int) (h : xs.length < 16777216) (hp : p ≤ xs.length) : insD (.lst (iL xs)) [.int (p : Nat), .int k] = .ok (.lst (iL (xs.take p ++ [k] ++ xs.drop p))) := by
  unfold insD
  dsimp only
  rw [if_pos (by simp only [Bool.and_eq_true, decide_eq_true_eq]; rw [ints_len]; omega), Int.toNat_natCast]
  simp
theorem ne_of {a b : D} {k : Bool} (h : eqD a b = .ok k) : neD a b = .ok (!k) := by
  unfold neD
  rw [h, R.bind_ok]
theorem emod_nat {i j : Int} (h : 0 < j) : ∃ k : Nat, i % j = (k : Int) ∧ (k : Int) < j := by
  have h1 := Int.emod_nonneg i (show j ≠ 0 by omega)
  have h2 := Int.emod_lt_of_pos i h
  exact ⟨(i % j).toNat, by omega, by omega⟩
theorem rep1 : List.replicate (1 - (0 + 1)) (none : Option D) = [] := rfl
theorem rep2 : List.replicate (2 - (0 + 1 + 1)) (none : Option D) = [] := rfl
theorem rep3 : List.replicate (3 - (0 + 1 + 1 + 1)) (none : Option D) = [] := rfl
theorem rep4 : List.replicate (4 - (0 + 1 + 1 + 1 + 1)) (none : Option D) = [] := rfl
theorem fdL (i : Int) {j : Int} (h : (decide (0 < j) && decide (j < 1073741824)) = true) : fdivD (.int i) (.int j) = .ok (.int (i / j)) := by
  rw [Bool.and_eq_true, decide_eq_true_eq, decide_eq_true_eq] at h
  exact fdiv_pos h.1 h.2
theorem moL (i : Int) {j : Int} (h : decide (0 < j) = true) : modD (.int i) (.int j) = .ok (.int (i % j)) := mod_pos (of_decide_eq_true h)
/-- it returns d -/
def Rets (r : R (Ev × Fl)) (d : D) : Prop := ∃ e, r = .ok (e, .ret d)
theorem rets (e : Ev) (d : D) : Rets (.ok (e, .ret d)) d := ⟨e, rfl⟩
/-! ### comprehensions -/
theorem compL_mapM {α : Type} {b : D → R Ev} {c f : Ev → R D} (e : α → D) (p : α → Bool) (g : α → D) : ∀ xs : List α, (∀ x ∈ xs, ∃ env, b (e x) = .ok env ∧ c env = .ok (.bl (p x)) ∧ (p x = true → f env = .ok (g x))) → compL b c f (xs.map e) = .ok ((xs.filter p).map g)
  | [], _ => rfl
  | x :: xs, h => by
    obtain ⟨env, h1, h2, h3⟩ := h x (by simp)
    have ih := compL_mapM e p g xs fun d' hd => h d' (by simp [hd])
    rw [List.map_cons]
    unfold compL
    rw [h1, R.bind_ok, h2, R.bind_ok]
    unfold D.asB
    rw [R.bind_ok]
    cases e : p x with
    | false => rw [List.filter_cons_of_neg (by simp [e])]; exact ih
    | true =>
      rw [List.filter_cons_of_pos e]
      dsimp only
      rw [h3 e, R.bind_ok, ih, R.bind_ok]
      rfl
theorem ev_compM {Φ : Nat → List D → Option D} {elt : ME} {own : List (Str × Nat)} {t : Tg} {src : MI} {cond : Option ME} {env : Ev} {α : Type} (xs : List α) (e : α → D) (p : α → Bool) (g : α → D) (h1 : evI Φ src env = .ok (xs.map e))
    (h2 : ∀ x ∈ xs, ∃ env', bindT t (e x) (wipeE env (own.map (·.2))) = .ok env' ∧ evC Φ cond env' = .ok (.bl (p x)) ∧ (p x = true → ev Φ elt env' = .ok (g x))) (h3 : (xs.filter p).length ≤ 16777216) :
    ev Φ (.comp elt own t src cond) env = .ok (.lst ((xs.filter p).map g)) := by
  rw [ev, h1, R.bind_ok, compL_mapM e p g xs h2, R.bind_ok, if_pos (by rw [List.length_map]; exact h3)]
  rfl
theorem evC_some {Φ : Nat → List D → Option D} {e : ME} {env : Ev} : evC Φ (some e) env = ev Φ e env := by rw [evC]
theorem evC_none {Φ : Nat → List D → Option D} {env : Ev} : evC Φ none env = .ok (.bl true) := by rw [evC]
theorem filter_len {α : Type} (p : α → Bool) (xs : List α) (n : Nat) (h : xs.length ≤ n) : (xs.filter p).length ≤ n := Nat.le_trans (List.length_filter_le _ _) h
theorem fn_ret {Φ : Nat → List D → Option D} {fu n : Nat} {b : MSs} {ds : List D} {d : D} (h : Rets (exs Φ fu b (ds.map some ++ List.replicate (n - ds.length) none)) d) : fnD Φ fu n b ds = some d := by
  obtain ⟨e, h⟩ := h
  unfold fnD run
  rw [h]
  rfl
/-- no exception -/
def notX : D → Bool
  | .xc _ _ => false
  | _ => true
theorem outX_notX {d : D} (h : notX d = true) : outX (.ok d) = some d := by
  unfold outX
  cases d <;> first | rfl | cases h
theorem fnx_ret {Φ : Nat → List D → Option D} {fu n : Nat} {b : MSs} {ds : List D} {d : D} (h : Rets (exs Φ fu b (ds.map some ++ List.replicate (n - ds.length) none)) d) (hd : notX d = true) : fnX Φ fu n b ds = some d := by
  obtain ⟨e, h⟩ := h
  unfold fnX run
  rw [h]
  exact outX_notX hd
theorem fnx_exc {Φ : Nat → List D → Option D} {fu n : Nat} {b : MSs} {ds : List D} {c : Nat} {fs : List D} (h : exs Φ fu b (ds.map some ++ List.replicate (n - ds.length) none) = .exc c fs) : fnX Φ fu n b ds = some (.xc c fs) := by
  unfold fnX run
  rw [h]
  rfl
theorem ofX_xc (c : Nat) (fs : List D) : ofX (some (.xc c fs)) = .exc c fs := rfl
theorem ofX_nope : ofX none = .bad := rfl
theorem ofX_non : ofX (some .non) = .ok .non := rfl
theorem ofX_int (i : Int) : ofX (some (.int i)) = .ok (.int i) := rfl
theorem ofX_bl (b : Bool) : ofX (some (.bl b)) = .ok (.bl b) := rfl
theorem ofX_str (x : Str) : ofX (some (.str x)) = .ok (.str x) := rfl
theorem ofX_lst (x : List D) : ofX (some (.lst x)) = .ok (.lst x) := rfl
theorem ofX_tup (x : List D) : ofX (some (.tup x)) = .ok (.tup x) := rfl
theorem ofX_obj (c : Nat) (fs : List (Str × D)) : ofX (some (.obj c fs)) = .ok (.obj c fs) := rfl
theorem ofX_not {d : D} (h : notX d = true) : ofX (some d) = .ok d := by
  unfold ofX
  cases d <;> first | rfl | cases h
/-- it goes on, and J holds of the names -/
def Nx (r : R (Ev × Fl)) (J : Ev → Prop) : Prop := ∃ e, r = .ok (e, .nx) ∧ J e
theorem nx {e : Ev} {J : Ev → Prop} (h : J e) : Nx (.ok (e, .nx)) J := ⟨e, rfl, h⟩
theorem forL_nx {t : Tg} {b : Ev → R (Ev × Fl)} {ds : List D} {env : Ev} (J : Nat → Ev → Prop) (h0 : J 0 env) (hs : ∀ i env d, ds[i]? = some d → J i env → Nx ((bindT t d env).bind b) (J (i + 1))) : Nx (forL t b ds env) (J ds.length) := by
  obtain ⟨e, h1, h2⟩ := forL_inv J ds 0 env h0 fun i env d hd hj => by
    rw [Nat.zero_add] at hj ⊢
    exact hs i env d hd hj
  rw [Nat.zero_add] at h2
  exact ⟨e, h1, h2⟩
/-- pairs of numbers -/
def pL (ps : List (Nat × Nat)) : List D := ps.map fun p => .tup [.int (p.1 : Nat), .int (p.2 : Nat)]
def eqPs : List D → List (Nat × Nat) → Bool
  | [], [] => true
  | .tup [.int i, .int j] :: ds, p :: ps => decide (i = (p.1 : Nat)) && decide (j = (p.2 : Nat)) && eqPs ds ps
  | _, _ => false
theorem eqPs_ok : ∀ {ds : List D} {ps : List (Nat × Nat)}, eqPs ds ps = true → ds = pL ps
  | ds, ps, h => by
    unfold eqPs at h
    split at h
    · rfl
    · rename_i i j ds p ps
      simp only [Bool.and_eq_true, decide_eq_true_eq] at h
      rw [h.1.1, h.1.2, eqPs_ok h.2]
      rfl
    · cases h
def isP (o : Option D) (ps : List (Nat × Nat)) : Bool := match o with
  | some (.lst ds) => eqPs ds ps
  | _ => false
theorem isP_ok {o : Option D} {ps : List (Nat × Nat)} (h : isP o ps = true) : o = some (.lst (pL ps)) := by
  unfold isP at h
  split at h
  · rw [eqPs_ok h]
  · cases h
theorem map_nat (ns : List Nat) : ns.map (fun k => D.int (k : Nat)) = iL (ns.map Int.ofNat) := by
  show _ = List.map D.int (List.map Int.ofNat ns)
  rw [List.map_map]
  rfl
end Ev

set_option maxHeartbeats 4000000
/-! Ev: classes: their making, their methods -/
namespace Ev
open PySem PySem.Spec PyProof.Rows L2
variable [Tbs]
section
variable {X : Cx} {CX : CXT} {k : Nat} {C g : Addr} {mc : Value} {sp : Sp} {E : XK} {e : Expr} {es : List Expr} {x m : Str} {pos apos p : Pos} {t : TA} {fd : FuncData} {ps : List Str} {pl : Sem Bool}
/-- C.m(..), m a def of the class C -/
theorem pe_upF (hg : Gl X x) (hm : X.mg x = some (.ref C)) (r : ClX.CRead X.K C mc) (c : ClX.CVal X.K C mc m (.ref g) (.ref g)) (F : FnOk X.prog X.w X.K X.mg X.base CX k g fd ps sp) (hr : Room k X.A) (hk : PySem.W.keepIn X.K (.ref g) = true) (hb : Binds X.K fd ps []) (hx : Passes CX X E) (ha : PA X (e :: es) t)
    (hdb : (x == ("__debug__" : Str)) = false) (hst : starEach (e :: es) X.env = (false, eval e X.env) :: starEach es X.env) (hpl : (backTo pos (starEach es X.env)).any (·.1) = false)
    (ht : eval (.Call (.Attribute (.Name x p) m apos) (e :: es) [] pos) X.env = (do
      let ov ← eval (.Name x p) X.env
      standAt apos.atName
      let (f, first) ← holding [ov] (getMethod ov m pl)
      callWith pos f first (backTo pos (starEach (e :: es) X.env)) (backToKw pos (keywordEach [] X.env)))) :
    PE X (.Call (.Attribute (.Name x p) m apos) (e :: es) [] pos) (tCall sp [] E t) := by
  refine ⟨fun pins s σ H Q I h => ?_⟩
  refine PySem.W.methodCall_KW (pl := pl) (ld_glob I hg hm ?_ hdb) ht
  refine PySem.W.method_cls I.kIn r.ga (ClX.getcval_ok I r c fun s2 I2 => ?_)
  refine PySem.W.callWith_K (h₀ := X.base) I2.ok.mod.kin hk (thn (ha.run pos pins s2 σ H _ I2 h) fun us s3 ⟨vs, H3, I3, r3, q3⟩ => ⟨I3.kIn, ?_⟩) hst hpl
  exact run_fn F hr hb .nil hx I3 r3 q3
end
/-! ### the state of an object that is made -/
section
variable {T : Tab} {Γ : List Mo} {H0 H H' : Hp} {F0 F F' : Addr → Prop} {env : Ev} {σ : St} {x C dx : Addr} {fsV : List (Str × V)}
/-- a heap without the cell x -/
def noX (H : Hp) (x : Addr) : Hp := fun b => if b = x then none else H b
theorem noX_x : noX H x x = none := by unfold noX; rw [if_pos rfl]
theorem noX_ne {b : Addr} (h : b ≠ x) : noX H x b = H b := by unfold noX; rw [if_neg h]
theorem noX_some {b : Addr} {o : HO} (h : noX H x b = some o) : b ≠ x ∧ H b = some o := by
  by_cases e : b = x
  · rw [e, noX_x] at h; cases h
  · exact ⟨e, by rw [noX_ne e] at h; exact h⟩
theorem At.ne {d : D} (h : At T H F x d) (e : H x = Option.some (HO.ins C dx fsV)) : False := by
  cases h with
  | lst h _ => rw [e] at h; cases h
  | dK h _ => rw [e] at h; cases h
  | dT h _ => rw [e] at h; cases h
theorem SR.hide (s : SR T Γ H F F H env σ) (e : H x = some (.ins C dx fsV)) (hf : ¬ F x) : SR T Γ (noX H x) F F H env σ where
  len := s.len
  slot := fun i d ed => by
    obtain ⟨v, hv, ok⟩ := s.slot i d ed
    refine ⟨v, hv, ?_⟩
    revert ok
    cases Γ.getD i .brw with
    | frz => exact fun ok => ok
    | lol =>
      intro ok
      obtain ⟨a, vs, ds, _, _, h0, _, ha, _⟩ := ok
      rw [h0] at ha; cases ha
    | own =>
      intro ok
      unfold SlotOk at ok ⊢
      simp only at ok ⊢
      split at ok
      · rename_i hc
        rw [if_pos hc]
        obtain ⟨a, ea, h0, h1, h2⟩ := ok
        refine ⟨a, ea, ?_, h1, h2⟩
        by_cases z : a = x
        · rw [z]; exact noX_x
        · rw [noX_ne z]; exact h0
      · rename_i hc
        rw [if_neg hc]
        exact ok
    | brw =>
      intro ok
      rcases ok with ok | ⟨a, ea, ⟨o, ho⟩, h2⟩
      · exact .inl ok
      · refine .inr ⟨a, ea, ⟨o, ?_⟩, h2⟩
        rw [noX_ne fun z => by subst z; exact h2.ne e]
        exact ho
  sep := s.sep
  ext := ⟨fun a o h _ => (noX_some h).2, fun a ps h => ⟨ps, (noX_some h).2⟩, fun _ h => h, fun a h => .inl h, fun _ => s.tabs⟩
  dom := s.dom
  tabs := s.tabs
theorem Inns.at {vs : List V} {ds : List D} (h : Inns T H0 F H vs ds) : ∀ b, V.ref b ∈ vs → ∃ d, At T H F b d := by
  induction h with
  | nil => intro b hb; cases hb
  | cons _ _ r _ _ ih =>
    intro b hb
    rcases List.mem_cons.mp hb with e | hb
    · cases e; exact ⟨_, r⟩
    · exact ih b hb
theorem SlotOk.noIns {m : Mo} {v : V} {d : D} (h : SlotOk T H0 F H m v d) (ho : OwnC H m v d x) (e : H x = some (.ins C dx fsV)) : False := by
  rcases ho with ⟨rfl, rfl, hc⟩ | ⟨rfl, a, rfl, ho⟩
  · unfold SlotOk at h
    simp only at h
    rw [if_pos hc] at h
    obtain ⟨a, ea, _, _, h⟩ := h
    cases ea
    exact h.ne e
  · obtain ⟨a', vs, ds, e1, _, h0, hf, ha, _, hi⟩ := h
    cases e1
    rcases ho with rfl | ⟨ws, e2, hm⟩
    · rw [ha] at e; cases e
    · rw [ha] at e2; cases e2
      obtain ⟨d, hd⟩ := hi.at x hm
      exact hd.ne e
theorem Owns.backL (s : SR T Γ H0 F0 F H env σ) {i : Nat} {b : Addr} (hh : ∀ a vs, H a = some (.lst vs) → H' a = some (.lst vs)) (h : Owns H' Γ env σ i b) : Owns H Γ env σ i b := by
  rcases h with h | ⟨h1, a, h2, ⟨d, h3⟩, h4⟩
  · exact .inl h
  · refine .inr ⟨h1, a, h2, ⟨d, h3⟩, ?_⟩
    rcases h4 with rfl | ⟨vs, e, hm⟩
    · exact .inl rfl
    · obtain ⟨v, hv, ok⟩ := s.slot i d h3
      rw [List.getD_eq_getElem?_getD, h1] at ok
      obtain ⟨a', vs', ds, e1, _, _, _, ha, _, _⟩ := ok
      subst e1
      rw [h2] at hv; cases hv
      rw [hh _ _ ha] at e; cases e
      exact .inr ⟨vs, ha, hm⟩
/-- the object's own cell is written -/
theorem SR.side (s : SR T Γ H0 F0 F H env σ) (e : H x = some (.ins C dx fsV)) (hf : ¬ F x) (h0 : H0 x = none) (o : HO) : SR T Γ H0 F0 F (upd H x o) env σ where
  len := s.len
  slot := fun i d ed => by
    obtain ⟨v, hv, ok⟩ := s.slot i d ed
    refine ⟨v, hv, ok.grow (fun _ h => h) (updF hf) (fun b u hu o' ho' _ => ?_) fun b ob => ⟨(ok.owned ob).2.1, fun o' ho' _ => ?_⟩⟩
    · rw [upd_ne (fun z => by subst z; rw [h0] at hu; cases hu)]; exact ho'
    · rw [upd_ne fun z => by subst z; exact ok.noIns ob e]; exact ho'
  sep := fun i j a hi hj => by
    have hh : ∀ a vs, H a = some (.lst vs) → upd H x o a = some (.lst vs) := fun a vs ha => by
      rw [upd_ne fun z => by subst z; rw [e] at ha; cases ha]; exact ha
    exact s.sep i j a (Owns.backL s hh hi) (Owns.backL s hh hj)
  ext := s.ext.over h0 hf e rfl (fun _ z => nomatch z)
  tabs := s.tabs.upd e rfl (fun _ z => nomatch z)
  dom := fun a h => by
    obtain ⟨u, hu⟩ := s.dom a h
    exact ⟨u, by rw [upd_ne fun z => hf (by rw [← z]; exact h)]; exact hu⟩
theorem SlotOk.notTup {m : Mo} {v : V} {d : D} (h : SlotOk T H0 F H m v d) {b : Addr} (ho : OwnC H m v d b) {o : HO} (e : H b = some o) : ∀ vs, o ≠ .tup vs := by
  rcases ho with ⟨rfl, rfl, hc⟩ | ⟨rfl, a, rfl, ho⟩
  · unfold SlotOk at h
    simp only at h
    rw [if_pos hc] at h
    obtain ⟨a, e', h0, hf, h⟩ := h
    cases e'
    exact h.notTup e
  · obtain ⟨a', vs, ds, e1, _, h0, hf, ha, _, hi⟩ := h
    cases e1
    rcases ho with rfl | ⟨ws, e2, hm⟩
    · rw [ha] at e; cases e; exact fun _ z => nomatch z
    · rw [ha] at e2; cases e2
      exact hi.notTup b hm o e
/-- what a def that fills an object does: the object's own cell aside, nothing that stood is changed -/
structure UpExt (x : Addr) (F : Addr → Prop) (H : Hp) (F' : Addr → Prop) (H' : Hp) : Prop where
  keep : ∀ a o, a ≠ x → H a = some o → isT o = false → H' a = some o
  tb : ∀ a ps, H a = some (.tbl ps) → ∃ ps', H' a = some (.tbl ps')
  tabs : TbsOk H → TbsOk H'
  sub : ∀ a, F a → F' a
  new : ∀ a, F' a → F a ∨ (a ≠ x ∧ Nw H a ∧ ∃ o, H' a = some o)
theorem UpExt.there (u : UpExt x F H F' H') {a : Addr} {o : HO} (hx : a ≠ x) (h : H a = some o) : ∃ o, H' a = some o := by
  cases t : isT o with
  | false => exact ⟨o, u.keep a o hx h t⟩
  | true =>
    unfold isT at t
    split at t
    · obtain ⟨ps, e⟩ := u.tb a _ h; exact ⟨_, e⟩
    · cases t
theorem SR.up (s : SR T Γ H0 F0 F H env σ) (e : H x = some (.ins C dx fsV)) (hf : ¬ F x) (h0 : H0 x = none) (u : UpExt x F H F' H') : SR T Γ H0 F0 F' H' env σ where
  len := s.len
  slot := fun i d ed => by
    obtain ⟨v, hv, ok⟩ := s.slot i d ed
    have kp : ∀ a o, F a → H a = some o → isT o = false → H' a = some o := fun a o ha ho n => u.keep a o (fun z => hf (by rw [← z]; exact ha)) ho n
    refine ⟨v, hv, ok.grow u.sub kp (fun b w hw o' ho' n => u.keep b o' (fun z => by subst z; rw [h0] at hw; cases hw) ho' n) fun b ob => ⟨fun z => ?_, fun o' ho' n => u.keep b o' (fun z => by subst z; exact ok.noIns ob e) ho' n⟩⟩
    obtain ⟨_, g, o, ho⟩ := ok.owned ob
    rcases u.new b z with z | ⟨_, z, _⟩
    · exact g z
    · exact z.no ho (ok.notTup ob ho)
  sep := fun i j a hi hj => by
    have hh : ∀ a vs, H a = some (.lst vs) → H' a = some (.lst vs) := fun a vs ha => u.keep a _ (fun z => by subst z; rw [e] at ha; cases ha) ha rfl
    exact s.sep i j a (Owns.backL s hh hi) (Owns.backL s hh hj)
  ext := ⟨fun a o h n => u.keep a o (fun z => by subst z; rw [h0] at h; cases h) (s.ext.keep a o h n) n, fun a ps h => (s.ext.tb a ps h).elim fun ps' h' => u.tb a ps' h', fun a h => u.sub a (s.ext.sub a h), fun a h => (by
    rcases u.new a h with h1 | ⟨hx, h1, h2⟩
    · rcases s.ext.new a h1 with h3 | ⟨h3, o, ho⟩
      · exact .inl h3
      · exact .inr ⟨h3, u.there (fun z => hf (by rw [← z]; exact h1)) ho⟩
    · refine .inr ⟨?_, h2⟩
      rcases h1 with h1 | ⟨vs, h1⟩
      · exact .inl (s.ext.non a h1)
      · cases z : H0 a with
        | none => exact .inl z
        | some o => cases s.ext.back z h1 rfl; exact .inr ⟨vs, z⟩), fun t => u.tabs (s.ext.tabs t)⟩
  tabs := u.tabs s.tabs
  dom := fun a h => by
    rcases u.new a h with h1 | ⟨_, _, h2⟩
    · obtain ⟨o, ho⟩ := s.dom a h1
      exact u.there (fun z => hf (by rw [← z]; exact h1)) ho
    · exact h2
/-- one name more, ahead of all -/
theorem SR.cons0 (s : SR T Γ H0 F0 F H env σ) (m : Mo) (v : Option V) : SR T (m :: Γ) H0 F0 F H (none :: env) (v :: σ) where
  len := by rw [List.length_cons, List.length_cons, s.len]
  slot := fun i d ed => by
    cases i with
    | zero => simp at ed
    | succ i =>
      obtain ⟨w, hw, ok⟩ := s.slot i d (by simpa using ed)
      exact ⟨w, by simpa using hw, by simpa using ok⟩
  sep := fun i j a hi hj => by
    have un : ∀ i, Owns H (m :: Γ) (none :: env) (v :: σ) i a → ∃ j, i = j + 1 ∧ Owns H Γ env σ j a := by
      intro i h
      cases i with
      | zero =>
        obtain ⟨d, hd⟩ := h.held
        simp at hd
      | succ j => exact ⟨j, rfl, h⟩
    obtain ⟨i', rfl, hi'⟩ := un i hi
    obtain ⟨j', rfl, hj'⟩ := un j hj
    rw [s.sep i' j' a hi' hj']
  ext := s.ext
  dom := s.dom
  tabs := s.tabs
theorem FReps.app : ∀ {vs : List (Str × V)} {ds : List (Str × D)} {k : Str} {v : V} {d : D}, FReps T H F vs ds → Rep T H F v d → FReps T H F (vs ++ [(k, v)]) (ds ++ [(k, d)])
  | _, _, _, _, _, .nil, r => .cons r .nil
  | _, _, _, _, _, .cons h t, r => .cons h (t.app r)
theorem FReps.keys : ∀ {vs : List (Str × V)} {ds : List (Str × D)}, FReps T H F vs ds → vs.map (·.1) = ds.map (·.1)
  | _, _, .nil => rfl
  | _, _, .cons _ t => by rw [List.map_cons, List.map_cons, t.keys]
theorem putF_new (f : Str) (y : V) : ∀ fs : List (Str × V), f ∉ fs.map (·.1) → putF f y fs = fs ++ [(f, y)]
  | [], _ => rfl
  | (g, z) :: r, h => by
    rw [List.map_cons, List.mem_cons, not_or] at h
    show (if g = f then _ else _) = _
    rw [if_neg (fun e => h.1 e.symm), putF_new f y r h.2]
    rfl
end
/-! ### the bodies of __init__ -/
inductive MU where
  | asg (i : Nat) (e : ME) | up (f : Nat) (es : MEs) | fld (nm : Str) (e : ME)
/-- the class named, how its __init__ takes what follows self -/
structure UI where
  nm : Str
  ms : List Mo
def exU (Φ : Nat → List D → Option D) (Ψ : Nat → List D → Option (List (Str × D))) : List MU → Ev → List (Str × D) → R (List (Str × D))
  | [], _, fs => .ok fs
  | .asg i e :: r, env, fs => (ev Φ e env).bind fun d => exU Φ Ψ r (env.set i (some d)) fs
  | .up f es :: r, env, [] => (evs Φ es env).bind fun ds => (ofO (Ψ f ds)).bind fun gs => exU Φ Ψ r env gs
  | .up _ _ :: _, _, _ :: _ => .bad
  | .fld nm e :: r, env, fs => (ev Φ e env).bind fun d => if decide (nm ∉ fs.map (·.1)) && decide (fs.length < 900) then exU Φ Ψ r env (fs ++ [(nm, d)]) else .bad
def asU : Stmt → Option (Str × Pos × Expr × Pos)
  | .Assign [.Name x p] ve pos => some (x, p, ve, pos)
  | _ => none
def fdU : Stmt → Option (Str × Pos × Str × Pos × Expr × Pos)
  | .Assign [.Attribute (.Name s sp) nm ap] ve pos => some (s, sp, nm, ap, ve, pos)
  | _ => none
def upU : Stmt → Option (Str × Pos × Str × Pos × Str × Pos × List Expr × Pos × Pos)
  | .Expr (.Call (.Attribute (.Name c p) nm apos) (.Name s sp :: xs) [] cpos) pos => some (c, p, nm, apos, s, sp, xs, cpos, pos)
  | _ => none
theorem asU_ok {st : Stmt} {x : Str} {p : Pos} {ve : Expr} {pos : Pos} (h : asU st = some (x, p, ve, pos)) : st = .Assign [.Name x p] ve pos := by
  unfold asU at h
  split at h
  · cases h; rfl
  · cases h
theorem fdU_ok {st : Stmt} {s : Str} {sp : Pos} {nm : Str} {ap : Pos} {ve : Expr} {pos : Pos} (h : fdU st = some (s, sp, nm, ap, ve, pos)) : st = .Assign [.Attribute (.Name s sp) nm ap] ve pos := by
  unfold fdU at h
  split at h
  · cases h; rfl
  · cases h
theorem upU_ok {st : Stmt} {c : Str} {p : Pos} {nm : Str} {apos : Pos} {s : Str} {sp : Pos} {xs : List Expr} {cpos pos : Pos} (h : upU st = some (c, p, nm, apos, s, sp, xs, cpos, pos)) : st = .Expr (.Call (.Attribute (.Name c p) nm apos) (.Name s sp :: xs) [] cpos) pos := by
  unfold upU at h
  split at h
  · cases h; rfl
  · cases h
def chkU (G : Gt) (U : List UI) (N : List Str) (sc : Scope) : List MU → List Mo → List Stmt → Bool
  | [], _, ss => ss.isEmpty
  | m :: r, Γ, ss => match ss with
    | [] => false
    | st :: ss => match m with
      | .asg i me => (match asU st with
        | some (x, _, ve, _) => N[i]? == some x && locB sc x && decide (i < Γ.length) && decide (i ≠ 0) && chkE G N me sc Γ ve && decide (qE G Γ me ≠ .dirty) && notComp ve && chkU G U N sc r (Γ.set i .frz) ss
        | none => false)
      | .up f es => (match upU st with
        | some (c, _, nm, apos, s, _, xs, cpos, _) => (match U[f]? with
          | some ui => ui.nm == c && chkM G N es ui.ms sc Γ xs
          | none => false) && glB sc c && okN c && nm == ("__init__" : Str) && apos.endLine == cpos.line && decide (xs.length < 27) && slotB N sc 0 s && chkU G U N sc r Γ ss
        | none => false)
      | .fld nm me => (match fdU st with
        | some (s, _, nm', _, ve, _) => nm == nm' && slotB N sc 0 s && chkE G N me sc Γ ve && decide (qE G Γ me ≠ .dirty) && chkU G U N sc r Γ ss
        | none => false)
def fldsU : List MU → List Str
  | [] => []
  | .fld nm _ :: r => nm :: fldsU r
  | _ :: r => fldsU r
/-- the promise of an __init__, at an object of one of the classes cs that has no field yet -/
abbrev spUp (T : Tab) (cs : List Nat) (ms : List Mo) (g : List D → Option (List (Str × D))) : Sp := fun vs H Q _ => ∃ c ∈ cs, ∃ x dx ws F ds fsD, vs = .ref x :: ws ∧ H x = some (.ins (T.cl c) dx []) ∧ ¬ F x ∧ Dom F H ∧ TbsOk H ∧ ArgsOk T H F ms ws ds ∧ g ds = some fsD ∧
  ∀ F' H' fsV, UpExt x F H F' H' → H' x = some (.ins (T.cl c) dx fsV) → FReps T H' F' fsV fsD → Q .non H'
section
variable (P : Program) (w : World) (K : PySem.W.Frag) (mg : Str → Option Value) (base : Heap) (T : Tab)
/-- what is known of an upper __init__ -/
def UL (Ψ : Nat → List D → Option (List (Str × D))) (cs : List Nat) (k : Nat) (i : Nat) (ui : UI) : Prop := ∃ C f fd ps, FnOk P w K mg base CX0 k f fd ps (spUp T cs ui.ms (Ψ i)) ∧ mg ui.nm = some (.ref C) ∧ ClX.CRead K C (.type "type") ∧ ClX.CVal K C (.type "type") "__init__" (.ref f) (.ref f) ∧ PySem.W.keepIn K (.ref f) = true ∧ Binds K fd ps []
end
section
variable {X : Cx} {T : Tab} {Γ : List Mo} {Φ : Nat → List D → Option D} {Ψ : Nat → List D → Option (List (Str × D))} {G : Gt} {U : List UI} {N : List Str} {sc : Scope}
theorem stay {H H1 : Hp} {F F1 : Addr → Prop} {x : Addr} {o : HO} (x1 : Ext F H F1 H1) (e : H x = some o) (hf : ¬ F x) (ho : ∀ vs, o ≠ .tup vs := by (intro _ z; cases z)) (n : isT o = false := by rfl) : H1 x = some o ∧ ¬ F1 x := ⟨x1.keep _ _ e n, fun z => by
  rcases x1.new _ z with z | ⟨z, _⟩
  · exact hf z
  · exact z.no e ho⟩
/-- the three steps -/
def StepU (X : Cx) (T : Tab) (Φ : Nat → List D → Option D) (Ψ : Nat → List D → Option (List (Str × D))) (cs : List Nat) (us : List MU) (Γ : List Mo) (ss : List Stmt) : Prop :=
    ∃ t, PSs X ss t ∧ ∀ (H0 : Hp) (F0 : Addr → Prop) (σ : St) (H : Hp) (F : Addr → Prop) (env : Ev) (EE : Ends) (c : Nat) (x dx : Addr) (fsV : List (Str × V)) (fs gs : List (Str × D)), c ∈ cs → SR T Γ H0 F0 F H env σ → σ[0]? = some (some (.ref x)) → H0 x = none → ¬ F x → H x = some (.ins (T.cl c) dx fsV) → FReps T H F fsV fs →
      exU Φ Ψ us env fs = .ok gs → (∀ σ' F' H' fsV', Ext F0 H0 F' H' → ¬ F' x → H' x = some (.ins (T.cl c) dx fsV') → FReps T H' F' fsV' gs → EE.nx σ' H') → t EE σ H
theorem stepU_nil {cs : List Nat} : StepU X T Φ Ψ cs [] Γ [] := by
  refine ⟨_, pss_nil, fun H0 F0 σ H F env EE c x dx fsV fs gs hc s hσ h0 hf e fr eu k => ?_⟩
  unfold exU at eu
  injection eu with eu
  subst eu
  exact k σ F H fsV s.ext hf e fr
theorem stepU_asg {cs : List Nat} {i : Nat} {me : ME} {r : List MU} {st : Stmt} {ss : List Stmt} {q : Qu} {te : TE} (hp : PS X st (tAsg te (gName i))) (hl : i < Γ.length) (hi : i ≠ 0) (se : SimE T Γ NoXE q te (ev Φ me)) (hq : q ≠ .dirty) (h : StepU X T Φ Ψ cs r (Γ.set i .frz) ss) : StepU X T Φ Ψ cs (.asg i me :: r) Γ (st :: ss) := by
  obtain ⟨t2, p2, s2⟩ := h
  refine ⟨_, pss_cons hp p2, fun H0 F0 σ H F env EE c x dx fsV fs gs hc s hσ h0 hf e fr eu k => ?_⟩
  unfold exU at eu
  obtain ⟨d, e1, e2⟩ := bind_ok_of eu
  refine se H0 F0 σ H F env _ s ?_
  rw [e1]
  intro F1 H1 v x1 rv
  obtain ⟨F2, x2, _, rp⟩ := rv.rep x1 hq
  obtain ⟨e', hf'⟩ := stay x2 e hf
  have s3 := ((s.ext' x2).drop i .frz).setF i rp (.of (List.getElem?_set_self hl))
  rw [List.set_set, List.set_set] at s3
  exact s2 H0 F0 _ H1 F2 _ EE c x dx fsV fs gs hc s3 (by rw [List.getElem?_set_ne hi]; exact hσ) h0 hf' e' (fr.mono x2.sub fun a o _ => x2.keep a o) e2 k
theorem stepU_fld {cs : List Nat} {nm : Str} {me : ME} {r : List MU} {st : Stmt} {ss : List Stmt} {q : Qu} {te : TE} (hp : PS X st (sFld X.K (tVar 0) te nm)) (se : SimE T Γ NoXE q te (ev Φ me)) (hq : q ≠ .dirty) (hN : ∀ c ∈ cs, Cls X.K (T.cl c) ∧ NoAttr X.K (T.cl c) nm) (h : StepU X T Φ Ψ cs r Γ ss) : StepU X T Φ Ψ cs (.fld nm me :: r) Γ (st :: ss) := by
  obtain ⟨t2, p2, s2⟩ := h
  refine ⟨_, pss_cons hp p2, fun H0 F0 σ H F env EE c x dx fsV fs gs hc s hσ h0 hf e fr eu k => ?_⟩
  unfold exU at eu
  obtain ⟨d, e1, e2⟩ := bind_ok_of eu
  split at e2
  · rename_i hcd
    simp only [Bool.and_eq_true, decide_eq_true_eq] at hcd
    refine se H0 F0 σ H F env _ s ?_
    rw [e1]
    intro F1 H1 v x1 rv
    obtain ⟨F2, x2, _, rp⟩ := rv.rep x1 hq
    obtain ⟨e', hf'⟩ := stay x2 e hf
    have fr2 : FReps T H1 F2 fsV fs := fr.mono x2.sub fun a o _ => x2.keep a o
    have s3 := s.ext' x2
    obtain ⟨hcl, hna⟩ := hN c hc
    refine ⟨_, hσ, x, T.cl c, dx, fsV, rfl, e', hcl, hna, ?_, ?_⟩
    · have := congrArg List.length fr2.keys
      rw [List.length_map, List.length_map] at this
      omega
    · have kn : nm ∉ fsV.map (·.1) := by rw [fr2.keys]; exact hcd.1
      rw [putF_new nm v fsV kn]
      refine s2 H0 F0 σ _ F2 env EE c x dx (fsV ++ [(nm, v)]) _ gs hc (s3.side e' hf' h0 _) hσ h0 hf' upd_same ?_ e2 k
      exact (fr2.mono (fun _ h => h) (updF hf')).app (rp.mono (fun _ h => h) (updF hf'))
  · cases e2
theorem stepU_up {cs : List Nat} {f : Nat} {es : MEs} {r : List MU} {st : Stmt} {ss : List Stmt} {ms : List Mo} {ta : TA} (hp : PS X st (tDrop (tCall (spUp T cs ms (Ψ f)) [] E0 (tCons (tVar 0) ta)))) (sm : SimM T Γ NoXE ms ta (evs Φ es)) (h : StepU X T Φ Ψ cs r Γ ss) : StepU X T Φ Ψ cs (.up f es :: r) Γ (st :: ss) := by
  obtain ⟨t2, p2, s2⟩ := h
  refine ⟨_, pss_cons hp p2, fun H0 F0 σ H F env EE c x dx fsV fs gs hc s hσ h0 hf e fr eu k => ?_⟩
  cases fs with
  | cons _ _ => unfold exU at eu; cases eu
  | nil =>
    cases fr
    unfold exU at eu
    obtain ⟨ds, e1, e2⟩ := bind_ok_of eu
    obtain ⟨gs1, e3, e4⟩ := bind_ok_of e2
    refine ⟨_, hσ, ?_⟩
    refine sm H0 F0 σ H F env _ s ?_
    rw [e1]
    intro F1 H1 vs x1 ao
    obtain ⟨e', hf'⟩ := stay x1 e hf
    have s3 := s.ext' x1
    refine ⟨c, hc, x, dx, vs, F1, ds, gs1, by rw [List.append_nil], e', hf', s3.dom, s3.tabs, ao, ofO_ok e3, fun F2 H2 fsV2 u e5 fr5 => ?_⟩
    have hf2 : ¬ F2 x := fun z => by
      rcases u.new x z with z | ⟨z, _⟩
      · exact hf' z
      · exact z rfl
    exact s2 H0 F0 σ H2 F2 env EE c x dx fsV2 gs1 gs hc (s3.up e' hf' h0 u) hσ h0 hf2 e5 fr5 e4 k
theorem chkU_sound (cs : List Nat) (hU : ∀ i ui, U[i]? = some ui → ∃ k, UL X.prog X.w X.K X.mg X.base T Ψ cs k i ui ∧ Room k X.A) (g : GoodS X T Φ G N sc NoXE) : ∀ (us : List MU) (Γ : List Mo) (ss : List Stmt), chkU G U N sc us Γ ss = true → (∀ c ∈ cs, Cls X.K (T.cl c) ∧ ∀ nm ∈ fldsU us, NoAttr X.K (T.cl c) nm) → StepU X T Φ Ψ cs us Γ ss
  | [], Γ, ss, h, _ => by
    cases ss with
    | nil => exact stepU_nil
    | cons _ _ => unfold chkU at h; cases h
  | m :: r, Γ, ss, h, hN => by
    have hNr : ∀ c ∈ cs, Cls X.K (T.cl c) ∧ ∀ nm ∈ fldsU r, NoAttr X.K (T.cl c) nm := fun c hc => ⟨(hN c hc).1, fun nm hm => (hN c hc).2 nm (by cases m <;> first | exact hm | exact List.mem_cons_of_mem _ hm)⟩
    have ih := fun Γ ss h => chkU_sound cs hU g r Γ ss h hNr
    unfold chkU at h
    cases ss with
    | nil => cases h
    | cons st ss =>
      cases m with
      | asg i me =>
        dsimp only at h
        split at h
        · rename_i x p ve pos est
          cases asU_ok est
          simp only [Bool.and_eq_true, decide_eq_true_eq, beq_iff_eq] at h
          obtain ⟨⟨⟨⟨⟨⟨⟨h1, h2⟩, h3⟩, h4⟩, h5⟩, h6⟩, h7⟩, h8⟩ := h
          obtain ⟨l1, l2⟩ := g.loc h2
          obtain ⟨te, pe, se⟩ := (sndE me).de X sc Γ ve g.good h5
          exact stepU_asg (ps_set (by rw [g.good.eN]; exact g.good.nd) (by rw [g.good.eN]; exact h1) l1 pe (sw_no h7) l2) h3 h4 se h6 (ih _ _ h8)
        · cases h
      | up f es =>
        dsimp only at h
        split at h
        · rename_i c p nm apos s sp xs cpos pos est
          cases upU_ok est
          simp only [Bool.and_eq_true, decide_eq_true_eq] at h
          obtain ⟨⟨⟨⟨⟨⟨⟨h1, h2⟩, h3⟩, h4⟩, h5⟩, h6⟩, h7⟩, h8⟩ := h
          rw [beq_iff_eq] at h4
          subst h4
          split at h1
          · rename_i ui eU
            simp only [Bool.and_eq_true, beq_iff_eq] at h1
            obtain ⟨rfl, h1⟩ := h1
            obtain ⟨k, ⟨C, fa, fd, ps, Fn, hm, cr, cv, hk, hb⟩, rm⟩ := hU f ui eU
            obtain ⟨⟨ta, pa, sm⟩, hp, _⟩ := sndM es X sc Γ _ _ g.good h1
            obtain ⟨s1, s2, s3, s4⟩ := slotB_ok g h7
            have pl : (Expr.Name s sp :: xs).all plainArg = true := by rw [List.all_cons, hp]; rfl
            have pe := pe_upF (pos := cpos) (apos := apos) (p := p) (E := E0) (glB_ok g.good h2) hm cr cv Fn rm hk hb pass0 (pa_cons (pe_var s1 s2 s3 s4) pa (starEach_cons rfl)) (okN_ok h3).1 (starEach_cons rfl) (backTo_none hp)
              (methEq rfl (methForm pl (by rw [List.length_cons]; omega)) h5)
            exact stepU_up (ps_expr pe rfl) sm (ih _ _ h8)
          · cases h1
        · cases h
      | fld nm me =>
        dsimp only at h
        split at h
        · rename_i s sp nm' ap ve pos est
          cases fdU_ok est
          simp only [Bool.and_eq_true, decide_eq_true_eq] at h
          obtain ⟨⟨⟨⟨h1, h2⟩, h3⟩, h4⟩, h5⟩ := h
          rw [beq_iff_eq] at h1
          subst h1
          obtain ⟨s1, s2, s3, s4⟩ := slotB_ok g h2
          obtain ⟨te, pe, se⟩ := (sndE me).de X sc Γ ve g.good h3
          have sw : swapsWith ve (some (.Attribute (.Name s sp) nm ap)) pos.line X.env = pure false := by cases ve <;> rfl
          exact stepU_fld (ps_fld (pe_var s1 s2 s3 s4) pe sw) se h4 (fun c hc => ⟨(hN c hc).1, (hN c hc).2 nm (by unfold fldsU; exact List.mem_cons_self)⟩) (ih _ _ h5)
        · cases h
end
/-! ### what a whole __init__ promises -/
section
variable {P : Program} {w : World} {K : PySem.W.Frag} {mg : Str → Option Value} {base : Heap} {T : Tab} {Φ : Nat → List D → Option D} {Ψ : Nat → List D → Option (List (Str × D))} {k : Nat}
def outF : R (List (Str × D)) → Option (List (Str × D))
  | .ok d => some d
  | _ => none
/-- the fields that an __init__ lays -/
def inD' (Φ : Nat → List D → Option D) (Ψ : Nat → List D → Option (List (Str × D))) (slots : Nat) (us : List MU) (ds : List D) : Option (List (Str × D)) := outF (exU Φ Ψ us (none :: (ds.map some ++ List.replicate (slots - 1 - ds.length) none)) [])
theorem init_ev {x qual : Str} {params : Arguments} {body : List Stmt} {scope : Scope} {dvs : List V} {kws : List (Str × V)} {f : Addr} {fd : FuncData} {self : Str} {N ps : List Str} {ms : List Mo} {us : List MU} {G : Gt} {U : List UI} {cs : List Nat} (hT : T.K = K) (F : FunD K x qual params body scope dvs kws f fd)
    (hS : C8.scC (self :: N) (self :: ps) scope = true) (hl : (ms.length == ps.length && ms.all fun m => decide (m ≠ .own) && decide (m ≠ .lol)) = true) (hc : chkU G U (self :: N) scope us (.frz :: (ms ++ List.replicate (N.length - ms.length) .frz)) body = true)
    (hb : ∀ b ∈ G.blts, mg b = none) (hs : ∀ x z, G.gss.lookup x = some z → ∃ u, mg x = some u ∧ RelV (.str z) u) (hf : ∀ i fi, G.fns[i]? = some fi → FL P w K mg base T Φ k i fi) (hU : ∀ i ui, U[i]? = some ui → UL P w K mg base T Ψ cs k i ui)
    (hC : ∀ c ∈ cs, Cls K (T.cl c) ∧ ∀ nm ∈ fldsU us, NoAttr K (T.cl c) nm) (hlam : ("<lambda>" : Str) ∉ G.blts := by (decide +kernel)) : FnOk P w K mg base CX0 (k + 1) f fd (self :: ps) (spUp T cs ms (inD' Φ Ψ (self :: N).length us)) := by
  have S := C8.fnScope_by hS
  rw [Bool.and_eq_true, beq_iff_eq, List.all_eq_true] at hl
  obtain ⟨hl1, hl2⟩ := hl
  have hms : ∀ m ∈ ms, m ≠ .own ∧ m ≠ .lol := fun m hm => by simpa using hl2 m hm
  refine F.ok S (fun vs H Q E ⟨c, _, x, dx, ws, F', ds, fsD, ev, _, _, _, _, ha, _⟩ => by rw [ev, List.length_cons, List.length_cons, ha.length.1, hl1]) fun cdv A outer s H vs Q E hr ⟨c, hc', x, dx, ws, F', ds, fsD, evs, hx, hfx, hd, ht, ha, hg, hgo⟩ => ?_
  subst evs
  have gs : GoodS (cxOf CX0 P w K mg base (self :: N) qual scope f cdv A outer s H E).nox T Φ G (self :: N) scope NoXE := by
    refine ⟨⟨hT.symm, rfl, S.nd, rfl, S.kind, rfl, hr.mono (Nat.zero_le _), fun i fi h => ?_, hs, fun b hb' => hb b hb', fun z => absurd z hlam⟩, takesNo, rfl, rfl, rfl, PassesOwn.never, fun _ _ => rfl⟩
    exact FL.fok (X := (cxOf CX0 P w K mg base (self :: N) qual scope f cdv A outer s H E).nox) (hf i fi h) hr
  obtain ⟨t, pt, st⟩ := chkU_sound (X := (cxOf CX0 P w K mg base (self :: N) qual scope f cdv A outer s H E).nox) (Φ := Φ) cs (fun i ui h => ⟨k, hU i ui h, hr⟩) gs us _ _ hc hC
  refine ⟨t, pt.nox, ?_⟩
  have s0 := (sr_start (N := N) hd ht ha hms).hide hx hfx
  have s1 := s0.cons0 .frz (some (.ref x))
  have eσ : L2.start (self :: N) (.ref x :: ws) = some (.ref x) :: L2.start N ws := by
    unfold L2.start
    rw [List.map_cons, List.length_cons, List.length_cons, Nat.add_sub_add_right]
    rfl
  rw [eσ]
  unfold inD' outF at hg
  split at hg
  · rename_i gs' eg
    injection hg with hg
    subst hg
    refine st (noX H x) F' _ H F' _ _ c x dx [] [] gs' hc' s1 rfl noX_x hfx hx .nil ?_ fun σ' F2 H2 fsV' x2 hf2 e2 fr2 => ?_
    · rw [List.length_cons, Nat.add_sub_cancel] at eg
      exact eg
    · refine hgo F2 H2 fsV' ⟨fun a o ha ho n => x2.keep a o (by rw [noX_ne ha]; exact ho) n, fun a ps h => x2.tb a ps (by rw [noX_ne fun z => by rw [z, hx] at h; cases h]; exact h), fun t => x2.tabs (t.same fun a o h c => (by
      rw [noX_ne fun z => ?_]
      · exact h
      · rw [z, hx] at h; cases h
        rcases c with c | ⟨φ, c⟩
        · cases c
        · cases c)), x2.sub, fun a ha => ?_⟩ e2 fr2
      rcases x2.new a ha with h1 | ⟨h1, h2⟩
      · exact .inl h1
      · have hne : a ≠ x := fun z => hf2 (by rw [← z]; exact ha)
        exact .inr ⟨hne, by unfold Nw at h1 ⊢; rw [noX_ne hne] at h1; exact h1, h2⟩
  · cases hg
theorem ArgsOk.ext {H H' : Hp} {F F' : Addr → Prop} (x : Ext F H F' H') : ∀ {ms : List Mo} {vs : List V} {ds : List D}, ArgsOk T H F ms vs ds → ArgsOk T H' F' ms vs ds
  | _, _, _, .nil => .nil
  | _, _, _, .cons h t => .cons (h.ext x) (ArgsOk.ext x t)
/-- from such a promise to that of a making -/
theorem mk_of_up {c : Nat} {cs : List Nat} {ms : List Mo} {g : List D → Option (List (Str × D))} {f : Addr} {fd : FuncData} {ps : List Str} (hc : c ∈ cs) (F : FnOk P w K mg base CX0 k f fd ps (spUp T cs ms g)) : FnOk P w K mg base CX0 k f fd ps (spMk T (T.cl c) ms fun ds => (g ds).map fun fs => .obj c fs) := by
  refine F.imp fun vs H Q E ⟨x, dx, ws, Hb, F', ds, d, ev, hx, hdx, hne, eH, hd, ht, ha, hg, hgo⟩ => ?_
  obtain ⟨fs, hg1, rfl⟩ := Option.map_eq_some_iff.mp hg
  have hfx : ¬ F' x := fun z => by obtain ⟨o, ho⟩ := hd x z; rw [hx] at ho; cases ho
  have hfd : ¬ F' dx := fun z => by obtain ⟨o, ho⟩ := hd dx z; rw [hdx] at ho; cases ho
  have x1 : Ext F' Hb F' (upd Hb dx (.own x)) := Ext.laid hdx
  have x2 : Ext F' (upd Hb dx (.own x)) F' (upd (upd Hb dx (.own x)) x (.ins (T.cl c) dx [])) := Ext.laid (by rw [upd_ne (Ne.symm hne)]; exact hx)
  have x3 := x1.trans x2
  have ha2 : ArgsOk T H F' ms ws ds := by rw [eH]; exact ha.ext x3
  refine ⟨c, hc, x, dx, ws, F', ds, fs, ev, by rw [eH]; exact upd_same, hfx, by rw [eH]; exact x3.dom hd, by rw [eH]; exact x3.tabs ht, ha2, hg1, fun F2 H2 fsV u e2 fr => ?_⟩
  have hf2 : ¬ F2 x := fun z => by
    rcases u.new x z with z | ⟨z, _⟩
    · exact hfx z
    · exact z rfl
  refine hgo (fun b => F2 b ∨ b = x) H2 ⟨fun a o ho n => ?_, fun a ps h => (x3.tb a ps h).elim fun ps' h' => u.tb a ps' (by rw [eH]; exact h'), fun a h => .inl (u.sub a h), fun a h => ?_, fun t => u.tabs (by rw [eH]; exact x3.tabs t)⟩ (.obj (.inr rfl) e2 (fr.mono (fun _ h => .inl h) fun _ _ _ h _ => h))
  · have hax : a ≠ x := fun z => by rw [z, hx] at ho; cases ho
    exact u.keep a o hax (by rw [eH]; exact x3.keep a o ho n) n
  · rcases h with h | rfl
    · rcases u.new a h with h1 | ⟨h0, h1, h2⟩
      · exact .inl h1
      · refine .inr ⟨?_, h2⟩
        rw [eH] at h1
        rcases h1 with h1 | ⟨vs, h1⟩
        · exact .inl (x3.non a h1)
        · cases z : Hb a with
          | none => exact .inl z
          | some o => cases x3.back z h1 rfl; exact .inr ⟨vs, z⟩
    · exact .inr ⟨.inl hx, _, e2⟩
end
end Ev

set_option maxHeartbeats 4000000
/-! Ev: classes in the table; what the head tells of them -/
namespace Ev
open PySem PySem.Spec PyProof.Rows L2
variable [Tbs]
section
variable {P : Program} {w : World} {K : PySem.W.Frag} {mg : Str → Option Value} {base : Heap} {T : Tab} {k k' : Nat} {l : List (List D → Option D)} {fis : List FI}
/-- an attribute of the objects of some classes -/
def attrF (nm : Str) (cs : List Nat) : List D → Option D
  | [.obj c fs] => if c ∈ cs then fs.lookup nm else none
  | _ => none
theorem FLs.attr {nm : Str} {cs : List Nat} (h : FLs P w K mg base T k l fis) (hC : ∀ c ∈ cs, Cls T.K (T.cl c) ∧ NoAttr T.K (T.cl c) nm) : FLs P w K mg base T k (l ++ [attrF nm cs]) (fis ++ [⟨.attr, nm, [], .clean⟩]) := by
  refine h.snoc (Nat.le_refl _) ?_
  intro x d e
  replace e : attrF nm cs [x] = some d := e
  unfold attrF at e
  split at e
  · rename_i c fs e1
    cases e1
    split at e
    · rename_i hc
      exact .inl ⟨c, fs, rfl, e, (hC c hc).1, (hC c hc).2⟩
    · cases e
  · cases e
/-- a field of the caught exceptions of some classes -/
def attrXF (nm : Str) (cs : List Nat) : List D → Option D
  | [.exv c fs] => if c ∈ cs then (fs.lookup nm).map .int else none
  | _ => none
theorem FLs.attrX {nm : Str} {cs : List Nat} (h : FLs P w K mg base T k l fis) (hC : ∀ c ∈ cs, XfC T.K (T.cl c) ∧ PySem.W.findIn T.K (.ref (T.cl c)) nm = some none) : FLs P w K mg base T k (l ++ [attrXF nm cs]) (fis ++ [⟨.attr, nm, [], .clean⟩]) := by
  refine h.snoc (Nat.le_refl _) ?_
  intro x d e
  replace e : attrXF nm cs [x] = some d := e
  unfold attrXF at e
  split at e
  · rename_i c fs e1
    cases e1
    split at e
    · rename_i hc
      obtain ⟨i, e2, rfl⟩ := Option.map_eq_some_iff.mp e
      exact .inr ⟨c, fs, i, rfl, e2, rfl, (hC c hc).1, (hC c hc).2⟩
    · cases e
  · cases e
/-- a making -/
def makeF (c : Nat) (g : List D → Option (List (Str × D))) : List D → Option D := fun ds => (g ds).map fun fs => .obj c fs
theorem FLs.make {x : Str} {c : Nat} {cs : List Nat} {ms : List Mo} {g : List D → Option (List (Str × D))} {f : Addr} {fd : FuncData} {ps : List Str} {j : Nat} (h : FLs P w K mg base T k l fis) (hk : k ≤ k') (hj : j + 1 ≤ k') (hc : c ∈ cs) (hM : Mk K (T.cl c) f) (Fn : FnOk P w K mg base CX0 j f fd ps (spUp T cs ms g))
    (hm : mg x = some (.ref (T.cl c))) (hB : Binds K fd ps []) : FLs P w K mg base T k' (l ++ [makeF c g]) (fis ++ [⟨.make, x, ms, .fresh⟩]) := by
  refine h.snoc hk ?_
  refine ⟨rfl, j, T.cl c, f, fd, ps, [], [], [], makeF c g, hj, hM, ?_, hm, hB, .nil, .nil, fun l => by rw [List.append_nil], fun l d e => ?_⟩
  · rw [List.map_nil, List.append_nil]
    exact mk_of_up hc Fn
  · unfold makeF at e
    obtain ⟨fs, _, rfl⟩ := Option.map_eq_some_iff.mp e
    rfl
/-- a method, by the object's class -/
def methF (nm : Str) (tab : List (Nat × (List D → Option D))) : List D → Option D
  | .obj c fs :: ds => if (fs.lookup nm).isNone then (tab.lookup c).bind fun g => g (.obj c fs :: ds) else none
  | _ => none
theorem lookup_mem {α : Type} : ∀ {l : List (Nat × α)} {c : Nat} {g : α}, l.lookup c = some g → c ∈ l.map (·.1)
  | (a, x) :: r, c, g, h => by
    rw [List.lookup_cons] at h
    rw [List.map_cons, List.mem_cons]
    split at h
    · rename_i e; exact .inl (beq_iff_eq.mp e)
    · exact .inr (lookup_mem h)
theorem lookup_of_mem {α : Type} : ∀ {l : List (Nat × α)} {c : Nat} {g : α}, (l.map (·.1)).Nodup → (c, g) ∈ l → l.lookup c = some g
  | [], _, _, _, h => by cases h
  | (a, x) :: r, c, g, hu, h => by
    rw [List.map_cons, List.nodup_cons] at hu
    rw [List.lookup_cons]
    rcases List.mem_cons.mp h with h1 | h1
    · cases h1
      rw [beq_self_eq_true]
    · have hne : (c == a) = false := by
        rw [beq_eq_false_iff_ne]
        intro z
        subst z
        exact hu.1 (List.mem_map.mpr ⟨_, h1, rfl⟩)
      rw [hne]
      exact lookup_of_mem hu.2 h1
theorem mem_of_lookup' {α : Type} : ∀ {l : List (Nat × α)} {c : Nat} {g : α}, l.lookup c = some g → (c, g) ∈ l
  | (a, x) :: r, c, g, h => by
    rw [List.lookup_cons] at h
    split at h
    · rename_i e
      cases h
      rw [beq_iff_eq.mp e]
      exact List.mem_cons_self
    · exact List.mem_cons_of_mem _ (mem_of_lookup' h)
theorem me_of_fn {c : Nat} {ms : List Mo} {q : Qu} {g gm : List D → Option D} {f : Addr} {fd : FuncData} {ps : List Str} (F : FnOk P w K mg base CX0 k f fd ps (spN T (.frz :: ms) q g)) (h : ∀ fs ds d, gm (.obj c fs :: ds) = some d → g (.obj c fs :: ds) = some d) : FnOk P w K mg base CX0 k f fd ps (spMe T c ms q gm) :=
  F.imp fun vs H Q E ⟨F', v, fs, ws, ds, d, ev, hd, ht, hr, ha, hg, hgo⟩ => ⟨F', .obj c fs :: ds, d, hd, ht, by rw [ev]; exact .cons hr ha, h _ _ _ hg, hgo⟩
/-- one class's method -/
def MeL (P : Program) (w : World) (K : PySem.W.Frag) (mg : Str → Option Value) (base : Heap) (T : Tab) (k : Nat) (nm : Str) (ms : List Mo) (q : Qu) (e : Nat × (List D → Option D)) : Prop := ∃ f fd ps, FnOk P w K mg base CX0 k f fd ps (spN T (.frz :: ms) q e.2) ∧ Cls K (T.cl e.1) ∧ Meth K (T.cl e.1) nm f ∧ Binds K fd ps []
theorem FLs.meth {nm : Str} {tab : List (Nat × (List D → Option D))} {ms : List Mo} {q : Qu} (h : FLs P w K mg base T k l fis) (hk : k ≤ k') (ht : ∀ e ∈ tab, MeL P w K mg base T k' nm ms q e) (hu : (tab.map (·.1)).Nodup) : FLs P w K mg base T k' (l ++ [methF nm tab]) (fis ++ [⟨.meth, nm, ms, q⟩]) := by
  refine h.snoc hk ?_
  refine ⟨tab.map (·.1), fun c hc => ?_, fun x ds d e => ?_⟩
  · obtain ⟨⟨c', g⟩, he, rfl⟩ := List.mem_map.mp hc
    obtain ⟨f, fd, ps, Fn, h1, h2, h3⟩ := ht _ he
    refine ⟨f, fd, ps, me_of_fn Fn fun fs ds d e => ?_, h1, h2, h3⟩
    replace e : methF nm tab (.obj c' fs :: ds) = some d := e
    unfold methF at e
    dsimp only at e
    split at e
    · rw [lookup_of_mem hu he] at e
      exact e
    · cases e
  · replace e : methF nm tab (x :: ds) = some d := e
    unfold methF at e
    split at e
    · rename_i c fs ds' e1
      cases e1
      split at e
      · rename_i hn
        obtain ⟨g, e2, _⟩ := Option.bind_eq_some_iff.mp e
        exact ⟨c, lookup_mem e2, fs, rfl, by simpa using hn⟩
      · cases e
    · cases e
/-- isinstance of a class -/
def iscF (tab : List (Nat × Bool)) : List D → Option D
  | [.obj c _] => (tab.lookup c).map .bl
  | _ => none
theorem FLs.isc {x : Str} {C : Addr} {tab : List (Nat × Bool)} (h : FLs P w K mg base T k l fis) (hm : mg x = some (.ref C)) (ht : ∀ e ∈ tab, TyC T.K (T.cl e.1) ∧ PySem.W.kitOne T.K (.ref (T.cl e.1)) (.ref C) = some e.2) : FLs P w K mg base T k (l ++ [iscF tab]) (fis ++ [⟨.isc, x, [], .fresh⟩]) := by
  refine h.snoc (Nat.le_refl _) ?_
  refine ⟨rfl, .ref C, .own hm, fun y d e => ?_⟩
  replace e : iscF tab [y] = some d := e
  unfold iscF at e
  split at e
  · rename_i c fs e1
    cases e1
    obtain ⟨b, e2, rfl⟩ := Option.map_eq_some_iff.mp e
    have mem : (c, b) ∈ tab := mem_of_lookup' e2
    obtain ⟨h1, h2⟩ := ht _ mem
    exact .inl ⟨c, fs, b, rfl, rfl, h1, h2⟩
  · cases e
/-- isinstance of a caught exception -/
def iscXF (tab : List (Nat × Bool)) : List D → Option D
  | [.exv c _] => (tab.lookup c).map .bl
  | _ => none
theorem FLs.iscX {x : Str} {u : Value} {tab : List (Nat × Bool)} (h : FLs P w K mg base T k l fis) (hm : NmM mg x u) (ht : ∀ e ∈ tab, ExcC T.K (T.cl e.1) ∧ PySem.W.kitOne T.K (.ref (T.cl e.1)) u = some e.2) : FLs P w K mg base T k (l ++ [iscXF tab]) (fis ++ [⟨.isc, x, [], .fresh⟩]) := by
  refine h.snoc (Nat.le_refl _) ?_
  refine ⟨rfl, u, hm, fun y d e => ?_⟩
  replace e : iscXF tab [y] = some d := e
  unfold iscXF at e
  split at e
  · rename_i c fs e1
    cases e1
    obtain ⟨b, e2, rfl⟩ := Option.map_eq_some_iff.mp e
    have mem : (c, b) ∈ tab := mem_of_lookup' e2
    obtain ⟨h1, h2⟩ := ht _ mem
    exact .inr ⟨c, fs, b, rfl, rfl, h1, h2⟩
  · cases e
/-- isinstance of a caught exception, several classes -/
theorem FLs.isT {cs : List Str} {us : List Value} {tab : List (Nat × Bool)} (h : FLs P w K mg base T k l fis) (hm : Paired (NmM mg) cs us) (ht : ∀ e ∈ tab, ExcC T.K (T.cl e.1) ∧ PySem.W.kitAny T.K (.ref (T.cl e.1)) us = some e.2) : FLs P w K mg base T k (l ++ [iscXF tab]) (fis ++ [⟨.isT cs, "isinstance", [], .fresh⟩]) := by
  refine h.snoc (Nat.le_refl _) ?_
  refine ⟨rfl, us, hm, fun y d e => ?_⟩
  replace e : iscXF tab [y] = some d := e
  unfold iscXF at e
  split at e
  · rename_i c fs e1
    cases e1
    obtain ⟨b, e2, rfl⟩ := Option.map_eq_some_iff.mp e
    have mem : (c, b) ∈ tab := mem_of_lookup' e2
    obtain ⟨h1, h2⟩ := ht _ mem
    exact ⟨c, fs, b, rfl, rfl, h1, h2⟩
  · cases e
end
/-! ### the head's facts -/
inductive XF where
  | up (x m : Str) | ty (x : Str) | kit (x y : Str) (b : Bool) | kitT (x : Str) (n : String) (b : Bool) | any (x : Str) (ys : List Str) (b : Bool) | xc (x : Str) | xf (x f : Str) | ox (x : Str) | hup (x : Str)
def oxB (K : PySem.W.Frag) (C : Addr) : Bool := match K.lookup C with
  | some ⟨.type "type", _, .cls cd, sl⟩ => (match cd.mro, sl.toList with
    | .ref C' :: bm, [_, _, _, _, some (.builtin n), _] => C' == C && n == "ValueError.__new__" && !cd.hasDel && cd.hasDict && HandSPX.refsVE bm
    | _, _ => false)
  | _ => false
def XF.ok (K : PySem.W.Frag) : XF → Bool
  | .up x m => PySem.W.readsIn K (He.ga K x) (.type "type") && (He.eqO (PySem.W.specialIn K (.ref (He.ga K x)) "__getattribute__") (some (some (.builtin "type.__getattribute__"))) && (match PySem.W.findCls K (.ref (He.ga K x)) (.type "type") m with
    | some (.val (.ref a)) => decide (a = He.ma K (He.ga K x) m)
    | _ => false))
  | .ty x => He.eqO (PySem.W.findIn K (.ref (He.ga K x)) "__class__") (some (some (.builtin "object.__class__"))) && (He.eqO (PySem.W.specialIn K (.builtin "object.__class__") "__get__") (some (some (.builtin "getset_descriptor.__get__"))) && (decide (PySem.W.takesIn K (.builtin "object.__class__") = some true) && decide (PySem.W.mroIn K (He.ga K x) (.type "object") = some true)))
  | .kit x y b => decide (PySem.W.kitOne K (.ref (He.ga K x)) (.ref (He.ga K y)) = some b)
  | .kitT x n b => decide (PySem.W.kitOne K (.ref (He.ga K x)) (.type n) = some b)
  | .any x ys b => decide (PySem.W.kitAny K (.ref (He.ga K x)) (ys.map fun y => .ref (He.ga K y)) = some b)
  | .xc x => He.eqO (PySem.W.findIn K (.ref (He.ga K x)) "__getattribute__") (some (some (.builtin "BaseException.__getattribute__"))) && (He.eqO (PySem.W.findIn K (.ref (He.ga K x)) "__getattr__") (some none) && (decide (PySem.W.subIn K (.ref (He.ga K x)) (.type "BaseException") = some true) && (PySem.W.hasDictIn K (He.ga K x) && (He.eqO (PySem.W.findIn K (.ref (He.ga K x)) "__class__") (some (some (.builtin "object.__class__"))) && (He.eqO (PySem.W.specialIn K (.builtin "object.__class__") "__get__") (some (some (.builtin "getset_descriptor.__get__"))) && (decide (PySem.W.takesIn K (.builtin "object.__class__") = some true) && decide (PySem.W.mroIn K (He.ga K x) (.type "object") = some true)))))))
  | .xf x f => xfB K (He.ga K x) && He.eqO (PySem.W.findIn K (.ref (He.ga K x)) f) (some none)
  | .ox x => oxB K (He.ga K x) && (He.eqO (PySem.W.findIn K (.ref (He.ga K x)) "__setattr__") (some (some (.builtin "object.__setattr__"))) && (decide (PySem.W.subIn K (.ref (He.ga K x)) (.type "BaseException") = some true) && (decide (PySem.W.typeIn K (.ref (He.ga K x)) = some (.type "type")) && (PySem.W.keepIn K (.ref (He.ga K x)) && (He.eqO (PySem.W.findIn K (.ref (He.ga K x)) "__init__") (some (some (.ref (He.ma K (He.ga K x) "__init__")))) && decide (PySem.W.typeIn K (.ref (He.ma K (He.ga K x) "__init__")) = some (.type "function")))))))
  | .hup x => PySem.W.readsIn K (He.ga K x) (.type "type") && (He.eqO (PySem.W.specialIn K (.ref (He.ga K x)) "__getattribute__") (some (some (.builtin "type.__getattribute__"))) && (match PySem.W.findCls K (.ref (He.ga K x)) (.type "type") "__init__" with
    | some (.val (.builtin n)) => n == "ValueError.__init__"
    | _ => false))
section
variable {K : PySem.W.Frag} {x y m : Str} {b : Bool}
theorem up_ok (h : (XF.up x m).ok K = true) : ClX.CRead K (He.ga K x) (.type "type") ∧ ClX.CVal K (He.ga K x) (.type "type") m (.ref (He.ma K (He.ga K x) m)) (.ref (He.ma K (He.ga K x) m)) := by
  unfold XF.ok at h
  rw [Bool.and_eq_true, Bool.and_eq_true] at h
  obtain ⟨h1, h2, h3⟩ := h
  refine ⟨⟨h1, He.eqO_ok h2⟩, ⟨?_, rfl⟩⟩
  split at h3
  · rename_i a e
    rw [decide_eq_true_eq] at h3
    rw [e, h3]
  · cases h3
theorem ty_ok (h : (XF.ty x).ok K = true) (c : Cls K (He.ga K x)) : TyC K (He.ga K x) := by
  unfold XF.ok at h
  rw [Bool.and_eq_true, Bool.and_eq_true, Bool.and_eq_true, decide_eq_true_eq, decide_eq_true_eq] at h
  obtain ⟨h1, h2, h3, h4⟩ := h
  exact ⟨c, He.eqO_ok h1, He.eqO_ok h2, h3, h4⟩
theorem kitT_ok {n : String} (h : (XF.kitT x n b).ok K = true) : PySem.W.kitOne K (.ref (He.ga K x)) (.type n) = some b := of_decide_eq_true h
theorem any_ok {ys : List Str} (h : (XF.any x ys b).ok K = true) : PySem.W.kitAny K (.ref (He.ga K x)) (ys.map fun y => .ref (He.ga K y)) = some b := of_decide_eq_true h
theorem xc_ok (h : (XF.xc x).ok K = true) : ExcC K (He.ga K x) := by
  unfold XF.ok at h
  simp only [Bool.and_eq_true, decide_eq_true_eq] at h
  obtain ⟨h1, h2, h3, h4, h5, h6, h7, h8⟩ := h
  exact ⟨He.eqO_ok h1, He.eqO_ok h2, h3, h4, He.eqO_ok h5, He.eqO_ok h6, h7, h8⟩
theorem xf_ok {f : Str} (h : (XF.xf x f).ok K = true) : XfC K (He.ga K x) ∧ PySem.W.findIn K (.ref (He.ga K x)) f = some none := by
  unfold XF.ok at h
  rw [Bool.and_eq_true] at h
  exact ⟨xfB_ok h.1, He.eqO_ok h.2⟩
theorem oxB_ok {C : Addr} (h : oxB K C = true) : ∃ nm q N bs bm sn sub ab col dd k0 k1 k2 k3 k5, K.lookup C = some (excClassObj nm q C N bs bm true sn sub ab col dd k0 k1 k2 k3 k5 "ValueError.__new__") ∧ PySem.HandSPX.refsVE bm = true := by
  unfold oxB at h
  split at h
  · rename_i dd cd sl e
    split at h
    · rename_i C' bm k0 k1 k2 k3 n k5 em es
      simp only [Bool.and_eq_true, beq_iff_eq, Bool.not_eq_true'] at h
      obtain ⟨⟨⟨⟨rfl, rfl⟩, h3⟩, h4⟩, h5⟩ := h
      obtain ⟨nm, bs, mro, ns, qn, hd, sn, sub, ab, col, del⟩ := cd
      obtain ⟨l⟩ := sl
      simp only at em es h3 h4
      subst em es h3 h4
      exact ⟨nm, qn, ns, bs, bm, sn, sub, ab, col, dd, k0, k1, k2, k3, k5, e, h5⟩
    · cases h
  · cases h
theorem ox_ok (h : (XF.ox x).ok K = true) : OexC K (He.ga K x) ∧ PySem.W.findIn K (.ref (He.ga K x)) "__init__" = some (some (.ref (He.ma K (He.ga K x) "__init__"))) ∧ PySem.W.typeIn K (.ref (He.ma K (He.ga K x) "__init__")) = some (.type "function") := by
  unfold XF.ok at h
  simp only [Bool.and_eq_true, decide_eq_true_eq] at h
  obtain ⟨h1, h2, h3, h4, h5, h6, h7⟩ := h
  exact ⟨⟨oxB_ok h1, He.eqO_ok h2, h3, h4, h5⟩, He.eqO_ok h6, h7⟩
theorem hup_ok (h : (XF.hup x).ok K = true) : ClX.CRead K (He.ga K x) (.type "type") ∧ PySem.W.findCls K (.ref (He.ga K x)) (.type "type") "__init__" = some (.val (.builtin "ValueError.__init__")) := by
  unfold XF.ok at h
  rw [Bool.and_eq_true, Bool.and_eq_true] at h
  obtain ⟨h1, h2, h3⟩ := h
  refine ⟨⟨h1, He.eqO_ok h2⟩, ?_⟩
  split at h3
  · rename_i n e
    rw [beq_iff_eq] at h3
    rw [e, h3]
  · cases h3
theorem rse_ok (h : (He.Fa.exc x).ok K = true) : RseC K (He.ga K x) := by
  obtain ⟨h1, h2, h3, h4⟩ := He.exc_ok h
  exact ⟨h1, h2, h3, h4⟩
theorem kit_ok (h : (XF.kit x y b).ok K = true) : PySem.W.kitOne K (.ref (He.ga K x)) (.ref (He.ga K y)) = some b := of_decide_eq_true h
end
def asE (g : Addr → Option Obj) : Nat → List Addr
  | 0 => [mainGlobals, cStatics]
  | n + 1 => He.growD g (asE g n)
abbrev AlE : Type := He.AlD × Bool
def SaysE (fa : List He.Fa) (fn : List He.DefD) (fe : List XF) (K : PySem.W.Frag) : Prop := He.SaysD fa fn K ∧ (fe.all fun f => f.ok K) = true
def obE (fa : List He.Fa) (fn : List He.DefD) (fe : List XF) (K : PySem.W.Frag) : AlE := (He.obsD fa fn K, fe.all fun f => f.ok K)
def obsE (n : Nat) (fa : List He.Fa) (fn : List He.DefD) (fe : List XF) (g : Addr → Option Obj) : AlE := obE fa fn fe (He.frG g (asE g n))
def hookE (n : Nat) (fa : List He.Fa) (fn : List He.DefD) (fe : List XF) : PySem.W.Hook where
  α := AlE
  obs := fun s => obsE n fa fn fe s.heap.get?
  val := fun _ => (He.valD fn, true)
  says := fun _ h => ∃ K : PySem.W.Frag, K.In h ∧ SaysE fa fn fe K
  of := fun _ s e => ⟨He.frG s.heap.get? (asE s.heap.get? n), He.frG_in, congrArg (fun z : AlE => z.1) e, congrArg (fun z : AlE => z.2) e⟩
  keeps := fun _ _ _ ⟨K, hK, c⟩ k => ⟨K, PySem.W.Frag.In.keeps hK k, c⟩
theorem obsE_eq {n : Nat} {fa : List He.Fa} {fn : List He.DefD} {fe : List XF} {g : Addr → Option Obj} {s : Shared} (h : ∀ a, g a = s.heap.get? a) : obsE n fa fn fe g = (hookE n fa fn fe).obs s := by
  have e : g = s.heap.get? := funext h
  rw [e] <;> rfl
theorem SaysE.more {fa : List He.Fa} {fn : List He.DefD} {fe : List XF} {K : PySem.W.Frag} (c : SaysE fa fn fe K) (i : Nat) {f : XF} (h : fe[i]? = some f) : f.ok K = true := List.all_eq_true.mp c.2 f (List.mem_of_getElem? h)
/-- a law's end over a head by facts, each number of at most 2 ^ 20 bits -/
theorem walk_ofEB {l : PySem.W.OpenLaw} {n k : Nat} {q : Program} {loose : List Str} {XP : (Str → Option Value) → Heap → Prop} {YP : World → Heap → Prop} {d : DefRec} {CX : CXT} {x : Str}
    (hn : l.most = some n) (hn2 : n ≤ sizeLine) (hdf : d.params.defaults = []) (hr : Room k callerA)
    (F : ∀ (w : World) (mg : Str → Option Value) (fa : Addr) (h : Heap), YP w h → h.Ns mainGlobals mg → mg d.name = some (.ref fa) →
      ∃ (K : PySem.W.Frag) (fd : FuncData) (sp : Sp), K.In h ∧ (∀ (s : Shared) (u : Value), BindsTo s fd ⟨[u], []⟩ [(x, u)]) ∧
        (∀ (H : Hp) (a : Addr) (ns : List Int), ns.length ≤ n → (∀ z ∈ ns, Builtin.Int.intBits z ≤ 1048576) → SqL K H a (ns.map V.int) → sp [.ref a] H (fun v _ => v = .bl true) fun _ _ _ => False) ∧
        ∀ base : Heap, K.In base → base.Ns mainGlobals mg → FnOk l.prog w K mg base CX k fa fd [x] sp)
    (hCX : ∀ (H : Hp) (s : Shared) (e : Value) (s' : Shared), CX [] H s (fun _ _ _ => False) e s' → False) :
    PySem.W.WalkO q loose XP YP l.row.toRowW d [] (fun f vs => PySem.call f vs) := by
  refine Att.attach_callB hn hdf fun w s₀ s₁ mg mb fa o pm cd doc a vs ns G Y ho hd hcd hmg hobj hints hlen hbits hg => ?_
  obtain ⟨K, fd, sp, KX, hb, hsp, hF⟩ := F w mg fa _ Y G.T.g hmg
  exact law_call KX G.T.g G.T.b G.T.builtins G.T.nolimit hg hobj hints (Nat.le_trans hlen hn2) hr hF hb (fun H hO hS => hsp H a ns hlen hbits hS) fun H e s' => hCX H s₁ e s'
/-! ### .. with tables of code objects -/
def obsL (n : Nat) (fa : List He.Fa) (fn : List He.DefD) (fe : List XF) (tf : List He.Defn) (g : Addr → Option Obj) : AlE := (He.obsD fa fn (He.frT g (asE g n)), (fe.all fun f => f.ok (He.frT g (asE g n))) && He.tabsB g tf (He.frT g (asE g n)))
structure SaysL (fa : List He.Fa) (fn : List He.DefD) (fe : List XF) (tf : List He.Defn) (h : Heap) (K : PySem.W.Frag) : Prop where
  e : SaysE fa fn fe K
  hd : ∀ p ∈ tf, PySem.W.codeHdIn K (He.cT K p).1 (He.cT K p).2 = true
  out : ∀ p ∈ tf, K.lookup (He.cT K p).2 = none
  empty : ∀ p ∈ tf, h.get? (He.cT K p).2 = some { cls := .none, data := .fields #[] }
theorem saysL_of {n : Nat} {fa : List He.Fa} {fn : List He.DefD} {fe : List XF} {tf : List He.Defn} {h : Heap} (e : obsL n fa fn fe tf h.get? = (He.valD fn, true)) : SaysL fa fn fe tf h (He.frT h.get? (asE h.get? n)) := by
  have e1 : He.obsD fa fn (He.frT h.get? (asE h.get? n)) = He.valD fn := congrArg (fun z : AlE => z.1) e
  have e2 : ((fe.all fun f => f.ok (He.frT h.get? (asE h.get? n))) && He.tabsB h.get? tf (He.frT h.get? (asE h.get? n))) = true := congrArg (fun z : AlE => z.2) e
  rw [Bool.and_eq_true] at e2
  obtain ⟨h1, h2⟩ := e2
  have key : ∀ p ∈ tf, PySem.W.codeHdIn (He.frT h.get? (asE h.get? n)) (He.cT (He.frT h.get? (asE h.get? n)) p).1 (He.cT (He.frT h.get? (asE h.get? n)) p).2 = true ∧ ∃ o, h.get? (He.cT (He.frT h.get? (asE h.get? n)) p).2 = some o ∧ He.emptyTab o = true := fun p hp => by
    have h3 := List.all_eq_true.mp h2 p hp
    rw [Bool.and_eq_true] at h3
    obtain ⟨h3, h4⟩ := h3
    refine ⟨h3, ?_⟩
    split at h4
    · rename_i o q
      exact ⟨o, q, h4⟩
    · cases h4
  exact ⟨⟨e1, h1⟩, fun p hp => (key p hp).1, fun p hp => by
    obtain ⟨_, o, q, z⟩ := key p hp
    exact He.frT_none q z, fun p hp => by
    obtain ⟨_, o, q, z⟩ := key p hp
    rw [q, He.emptyTab_eq z]⟩
def hookL (n : Nat) (fa : List He.Fa) (fn : List He.DefD) (fe : List XF) (tf : List He.Defn) : PySem.W.Hook where
  α := AlE
  obs := fun s => obsL n fa fn fe tf s.heap.get?
  val := fun _ => (He.valD fn, true)
  says := fun _ h => ∃ K : PySem.W.Frag, K.In h ∧ SaysL fa fn fe tf h K
  of := fun _ _ e => ⟨_, He.frT_in, saysL_of e⟩
  keeps := fun _ _ _ ⟨K, hK, c⟩ k => ⟨K, PySem.W.Frag.In.keeps hK k, ⟨c.e, c.hd, c.out, fun p hp => k _ _ (c.empty p hp)⟩⟩
theorem obsL_eq {n : Nat} {fa : List He.Fa} {fn : List He.DefD} {fe : List XF} {tf : List He.Defn} {g : Addr → Option Obj} {s : Shared} (h : ∀ a, g a = s.heap.get? a) : obsL n fa fn fe tf g = (hookL n fa fn fe tf).obs s := by
  have e : g = s.heap.get? := funext h
  rw [e] <;> rfl
/-- the place of a lambda's code objects, of a def's own table -/
theorem lamG_of {K : PySem.W.Frag} {base : Heap} {mg : Str → Option Value} {p : He.Defn} {x qual q : Str} {params : Arguments} {body : List Stmt} {scope : Scope} {dvs : List V} {kws : List (Str × V)} {fd : FuncData} (F : FunD K x qual params body scope dvs kws (He.fAd K p) fd) (TB : LamX.TabB base mg (He.cT K p).1 (He.cT K p).2) (h : Tbs.l = [((He.cT K p).2, q ++ "<lambda>")]) : LamG base mg fd.code q := by
  obtain ⟨oc, od, dV, kV, doc, pm, an, cdv, ct, osl, rfl, lk, hcd, _, _⟩ := F.ex
  obtain ⟨c, rfl⟩ := He.codeIn_ref hcd
  have e : He.codeOf K p = c := He.codeOf_eq lk rfl
  have e1 : (He.cT K p).1 = c := e
  refine ⟨c, (He.cT K p).2, by rw [← e1]; exact TB, rfl, by rw [h]; exact List.mem_cons_self, fun z hz _ => ?_⟩
  rw [h, List.mem_singleton] at hz
  rw [hz]
/-- a law's end, as walk_ofEB, with defs whose tables are written -/
theorem walk_ofEL {l : PySem.W.OpenLaw} {n k : Nat} {q : Program} {loose : List Str} {XP : (Str → Option Value) → Heap → Prop} {YP : World → Heap → Prop} {d : DefRec} {CX : CXT} {x : Str}
    (hn : l.most = some n) (hn2 : n ≤ sizeLine) (hdf : d.params.defaults = []) (hr : Room k callerA)
    (F : ∀ (w : World) (mg : Str → Option Value) (fa : Addr) (h : Heap), YP w h → h.Ns mainGlobals mg → mg d.name = some (.ref fa) →
      ∃ (K : PySem.W.Frag) (fd : FuncData) (cs : List (Addr × Addr)) (sp : Sp), K.In h ∧ (∀ p ∈ cs, h.get? p.2 = some { cls := .none, data := .fields #[] }) ∧ (∀ p ∈ cs, K.lookup p.2 = none) ∧ (∀ p ∈ cs, PySem.W.CodeHd h p.1 p.2) ∧ (∀ (s : Shared) (u : Value), BindsTo s fd ⟨[u], []⟩ [(x, u)]) ∧
        (∀ (H : Hp) (a : Addr) (ns : List Int), ns.length ≤ n → (∀ z ∈ ns, Builtin.Int.intBits z ≤ 1048576) → (∀ p ∈ cs, H p.2 = some (.tbl #[])) → SqL K H a (ns.map V.int) → sp [.ref a] H (fun v _ => v = .bl true) fun _ _ _ => False) ∧
        ∀ base : Heap, K.In base → base.Ns mainGlobals mg → (∀ p ∈ cs, LamX.TabB base mg p.1 p.2) → FnOk l.prog w K mg base CX k fa fd [x] sp)
    (hCX : ∀ (H : Hp) (s : Shared) (e : Value) (s' : Shared), CX [] H s (fun _ _ _ => False) e s' → False) :
    PySem.W.WalkO q loose XP YP l.row.toRowW d [] (fun f vs => PySem.call f vs) := by
  refine Att.attach_callB hn hdf fun w s₀ s₁ mg mb fa o pm cd doc a vs ns G Y ho hd hcd hmg hobj hints hlen hbits hg => ?_
  obtain ⟨K, fd, cs, sp, KX, hT, nT, C, hb, hsp, hF⟩ := F w mg fa _ Y G.T.g hmg
  exact LamX.law_callTs KX G.T.g G.T.b G.T.builtins G.T.nolimit hg hT nT C G.T.bmain hobj hints (Nat.le_trans hlen hn2) hr hF hb (fun H hH hS => hsp H a ns hlen hbits hH hS) fun H e s' => hCX H s₁ e s'
end Ev

set_option maxHeartbeats 2000000
/-! Ev: more plain lemmas: lists of naturals, of truths, sets of eight things, searches, dicts -/
namespace Ev
open PySem PySem.Spec PyProof.Rows L2
/-! ### loops -/
theorem forL_acc {α σ : Type} {t : Tg} {b : Ev → Ev.R (Ev × Fl)} (e : α → D) (step : σ → α → σ) (J : σ → Ev → Prop) : ∀ (xs : List α) (s : σ) (env : Ev), J s env → (∀ s env x, x ∈ xs → J s env → Nx ((bindT t (e x) env).bind b) (J (step s x))) → Nx (forL t b (xs.map e) env) (J (xs.foldl step s))
  | [], s, env, h, _ => ⟨env, rfl, h⟩
  | x :: xs, s, env, h, hs => by
    obtain ⟨env1, h1, h2⟩ := hs s env x List.mem_cons_self h
    have ih := forL_acc e step J xs (step s x) env1 h2 fun s env y hy hj => hs s env y (List.mem_cons_of_mem _ hy) hj
    rw [List.map_cons]
    unfold forL
    cases e0 : bindT t (e x) env with
    | bad => rw [e0] at h1; cases h1
    | exc c fs => rw [e0] at h1; cases h1
    | ok env0 =>
      rw [e0, R.bind_ok] at h1
      rw [R.bind_ok, h1, R.bind_ok]
      exact ih
/-- an invariant alone -/
theorem forL_keep {α : Type} {t : Tg} {b : Ev → Ev.R (Ev × Fl)} (e : α → D) (J : Ev → Prop) (xs : List α) (env : Ev) (h : J env) (hs : ∀ env x, x ∈ xs → J env → Nx ((bindT t (e x) env).bind b) J) : Nx (forL t b (xs.map e) env) J :=
  forL_acc e (fun (s : Unit) _ => s) (fun _ => J) xs () env h fun _ env x hx hj => hs env x hx hj
/-- an invariant by the number of turns -/
theorem forL_cnt {α : Type} {t : Tg} {b : Ev → Ev.R (Ev × Fl)} (e : α → D) (J : Nat → Ev → Prop) (xs : List α) (env : Ev) (h : J 0 env) (hs : ∀ i env x, i < xs.length → xs[i]? = some x → J i env → Nx ((bindT t (e x) env).bind b) (J (i + 1))) : Nx (forL t b (xs.map e) env) (J xs.length) := by
  have := forL_nx (t := t) (b := b) (ds := xs.map e) (env := env) J h fun i env d hd hj => by
    rw [List.getElem?_map] at hd
    obtain ⟨x, hx, rfl⟩ := Option.map_eq_some_iff.mp hd
    exact hs i env x (List.getElem?_eq_some_iff.mp hx).1 hx hj
  rw [List.length_map] at this
  exact this
/-- it goes on with J, or returns what is found -/
def Fnd (r : R (Ev × Fl)) (J : Ev → Prop) (o : Option D) : Prop := match o with
  | none => Nx r J
  | some d => Rets r d
theorem forL_find {α : Type} {t : Tg} {b : Ev → Ev.R (Ev × Fl)} (e : α → D) (g : α → Option D) (J : Ev → Prop) : ∀ (xs : List α) (env : Ev), J env → (∀ env x, x ∈ xs → J env → Fnd ((bindT t (e x) env).bind b) J (g x)) → Fnd (forL t b (xs.map e) env) J (xs.findSome? g)
  | [], env, h, _ => ⟨env, rfl, h⟩
  | x :: xs, env, h, hs => by
    have h0 := hs env x List.mem_cons_self h
    have ih : ∀ env1, J env1 → Fnd (forL t b (xs.map e) env1) J (xs.findSome? g) := fun env1 h2 => forL_find e g J xs env1 h2 fun env y hy hj => hs env y (List.mem_cons_of_mem _ hy) hj
    rw [List.map_cons, List.findSome?_cons]
    unfold forL
    cases eg : g x with
    | none =>
      rw [eg] at h0
      obtain ⟨env1, h1, h2⟩ := h0
      cases e0 : bindT t (e x) env with
      | bad => rw [e0] at h1; cases h1
      | exc c fs => rw [e0] at h1; cases h1
      | ok env0 =>
        rw [e0, R.bind_ok] at h1
        rw [R.bind_ok, h1, R.bind_ok]
        exact ih env1 h2
    | some d =>
      rw [eg] at h0
      obtain ⟨env1, h1⟩ := h0
      cases e0 : bindT t (e x) env with
      | bad => rw [e0] at h1; cases h1
      | exc c fs => rw [e0] at h1; cases h1
      | ok env0 =>
        rw [e0, R.bind_ok] at h1
        rw [R.bind_ok, h1, R.bind_ok]
        exact ⟨env1, rfl⟩
/-- behind it comes k -/
theorem Fnd.seq {r : R (Ev × Fl)} {J J' : Ev → Prop} {o : Option D} {k : Ev → R (Ev × Fl)} (h : Fnd r J o) (hk : ∀ env, J env → Nx (k env) J') : Fnd (r.bind fun z => match z with
    | (env', .nx) => k env'
    | z => .ok z) J' o := by
  cases o with
  | none =>
    obtain ⟨e, h1, h2⟩ := h
    rw [h1, R.bind_ok]
    exact hk e h2
  | some d =>
    obtain ⟨e, h1⟩ := h
    rw [h1, R.bind_ok]
    exact ⟨e, rfl⟩
theorem Fnd.one {r : R (Ev × Fl)} {J : Ev → Prop} {o : Option D} (h : Fnd r J o) : Fnd (r.bind fun z => match z with
    | (env', .nx) => R.ok (env', Fl.nx)
    | z => .ok z) J o := h.seq fun env hj => nx hj
/-- behind it comes what returns d -/
theorem Fnd.rets {r : R (Ev × Fl)} {J : Ev → Prop} {o : Option D} {k : Ev → R (Ev × Fl)} {d : D} (h : Fnd r J o) (hk : ∀ env, J env → Rets (k env) d) : Rets (r.bind fun z => match z with
    | (env', .nx) => k env'
    | z => .ok z) (o.getD d) := by
  cases o with
  | none =>
    obtain ⟨e, h1, h2⟩ := h
    rw [h1, R.bind_ok]
    exact hk e h2
  | some d =>
    obtain ⟨e, h1⟩ := h
    rw [h1, R.bind_ok]
    exact ⟨e, rfl⟩
theorem Nx.mono {r : R (Ev × Fl)} {J J' : Ev → Prop} (h : Nx r J) (hj : ∀ e, J e → J' e) : Nx r J' := by
  obtain ⟨e, h1, h2⟩ := h
  exact ⟨e, h1, hj e h2⟩
/-! ### naturals -/
def dN (ns : List Nat) : List D := ns.map fun k => .int (k : Nat)
theorem dN_len (ns : List Nat) : (dN ns).length = ns.length := List.length_map _
theorem len_dN (ns : List Nat) : lenD [.lst (dN ns)] = .ok (.int (ns.length : Nat)) := by rw [len_lst, dN_len]
theorem sub_dN (xs : List Nat) (k : Nat) (h : k < xs.length) : subD (.lst (dN xs)) (.int (k : Nat)) = .ok (.int (xs[k] : Nat)) := by
  rw [sub_lst _ _ (by rw [dN_len]; exact h)]
  unfold dN
  rw [List.getElem_map]
theorem dN_iL (ns : List Nat) : dN ns = iL (ns.map Int.ofNat) := map_nat ns
theorem seq_dN (ns : List Nat) : (D.lst (dN ns)).seq = some (ns.map fun k : Nat => D.int (k : Nat)) := rfl
theorem app_dN (xs : List Nat) (k : Nat) (h : xs.length < 16777216) : appD (.lst (dN xs)) [.int (k : Nat)] = .ok (.lst (dN (xs ++ [k]))) := by
  rw [app_lst _ _ (by rw [dN_len]; exact h)]
  unfold dN
  rw [List.map_append]
  rfl
theorem add_dN (xs ys : List Nat) (h : xs.length + ys.length ≤ 16777216) : addD (.lst (dN xs)) (.lst (dN ys)) = .ok (.lst (dN (xs ++ ys))) := by
  rw [add_lst _ _ (by rw [dN_len, dN_len]; exact h)]
  unfold dN
  rw [List.map_append]
theorem mem_ofNat (k : Nat) (ns : List Nat) : (k : Int) ∈ ns.map Int.ofNat ↔ k ∈ ns := by
  rw [List.mem_map]
  constructor
  · rintro ⟨j, hj, e⟩
    have e : (j : Int) = (k : Int) := e
    have : j = k := by omega
    rw [← this]; exact hj
  · intro h; exact ⟨k, h, rfl⟩
theorem in_dN (neg : Bool) (k : Nat) (ns : List Nat) : inD neg (.int (k : Nat)) (.lst (dN ns)) = .ok (xor neg (decide (k ∈ ns))) := by
  rw [dN_iL, in_ints]
  have : (ns.map Int.ofNat).contains (k : Int) = decide (k ∈ ns) := by
    rw [Bool.eq_iff_iff, List.contains_iff_mem, decide_eq_true_iff, mem_ofNat]
  rw [this]
theorem eq_dN (xs ys : List Nat) : eqD (.lst (dN xs)) (.lst (dN ys)) = .ok (decide (xs = ys)) := by
  rw [dN_iL, dN_iL, eq_ints]
  congr 1
  rw [decide_eq_decide]
  constructor
  · intro h
    have := congrArg (List.map Int.toNat) h
    rw [List.map_map, List.map_map] at this
    have e : ∀ l : List Nat, l.map (Int.toNat ∘ Int.ofNat) = l := fun l => by
      have : (Int.toNat ∘ Int.ofNat) = id := funext fun k => rfl
      rw [this, List.map_id]
    rw [e, e] at this
    exact this
  · intro h; rw [h]
theorem eqN (a b : Nat) : eqD (.int (a : Nat)) (.int (b : Nat)) = .ok (decide (a = b)) := by
  rw [eqI]
  congr 1
  rw [decide_eq_decide]
  omega
theorem take_dN (xs : List Nat) (k : Nat) : sliceD none (some (k : Int)) (.lst (dN xs)) = .ok (.lst (dN (xs.take k))) := by
  show R.ok (D.lst (cutD _ _ _)) = _
  rw [cut_min]
  unfold dN
  rw [List.map_take]
theorem drop_dN (xs : List Nat) (k : Nat) (h : k ≤ xs.length) : sliceD (some (k : Int)) none (.lst (dN xs)) = .ok (.lst (dN (xs.drop k))) := by
  show R.ok (D.lst (cutD _ _ _)) = _
  rw [cut_from _ _ (by rw [dN_len]; exact h)]
  unfold dN
  rw [List.map_drop]
theorem ins_dN (xs : List Nat) (k : Nat) (h : xs.length < 16777216) : insD (.lst (dN xs)) [.int 0, .int (k : Nat)] = .ok (.lst (dN (k :: xs))) := by
  rw [dN_iL]
  have := ins_iL (xs.map Int.ofNat) 0 (k : Int) (by rw [List.length_map]; exact h) (Nat.zero_le _)
  have e : insD (.lst (iL (xs.map Int.ofNat))) [.int 0, .int (k : Nat)] = _ := this
  rw [e, dN_iL]
  rfl
theorem set_dN (xs : List Nat) (k v : Nat) (h : k < xs.length) : setD (.lst (dN xs)) (.int (k : Nat)) (.int (v : Nat)) = .ok (.lst (dN (xs.set k v))) := by
  unfold setD
  dsimp only
  have e : ixN (dN xs).length (k : Int) = some k := by
    unfold L2.ixN
    rw [dN_len, if_pos (by omega), if_pos (by omega), Int.toNat_natCast]
  rw [e]
  show R.ok (D.lst ((dN xs).set k _)) = _
  unfold dN
  rw [List.map_set]
/-- ints, none below 0, are naturals -/
theorem toN (ns : List Int) (h : ∀ n ∈ ns, 0 ≤ n) : iL ns = dN (ns.map Int.toNat) := by
  unfold iL dN
  rw [List.map_map]
  exact List.map_congr_left fun n hn => by
    show D.int n = D.int ((n.toNat : Nat) : Int)
    rw [Int.toNat_of_nonneg (h n hn)]
/-- sorted(set(xs)) -/
theorem sset_dN (xs : List Nat) (h : xs.length < 1024) : ∃ ys : List Nat, ssetD (.lst (dN xs)) = .ok (.lst (dN ys)) ∧ (∀ k, k ∈ ys ↔ k ∈ xs) ∧ ys.Pairwise (· < ·) ∧ ys = (sset (xs.map Int.ofNat)).map Int.toNat := by
  have h0 : ∀ n ∈ sset (xs.map Int.ofNat), 0 ≤ n := fun n hn => by
    rw [sset_mem, List.mem_map] at hn
    obtain ⟨k, _, rfl⟩ := hn
    exact Int.natCast_nonneg k
  refine ⟨(sset (xs.map Int.ofNat)).map Int.toNat, ?_, fun k => ?_, ?_, rfl⟩
  · unfold ssetD
    dsimp only
    rw [dN_iL, allI_ints, R.bind_ok, if_pos (by rw [List.length_map]; exact h), ← toN _ h0]
  · rw [List.mem_map]
    constructor
    · rintro ⟨n, hn, rfl⟩
      rw [sset_mem, List.mem_map] at hn
      obtain ⟨k, hk, rfl⟩ := hn
      exact hk
    · intro hk
      exact ⟨(k : Int), (sset_mem _ _).mpr ((mem_ofNat k xs).mpr hk), rfl⟩
  · rw [List.pairwise_map]
    refine List.Pairwise.imp_of_mem (fun {a b} ha hb hab => ?_) (sset_up _)
    have := h0 a ha
    have := h0 b hb
    omega
/-- sorted(xs) -/
theorem sorted_dN (xs : List Nat) : ∃ ys : List Nat, sortedD [.lst (dN xs)] = .ok (.lst (dN ys)) ∧ ys.Perm xs ∧ ys.Pairwise (· ≤ ·) := by
  have h0 : ∀ n ∈ sortI (xs.map Int.ofNat), 0 ≤ n := fun n hn => by
    rw [(sortI_perm _).mem_iff, List.mem_map] at hn
    obtain ⟨k, _, rfl⟩ := hn
    exact Int.natCast_nonneg k
  refine ⟨(sortI (xs.map Int.ofNat)).map Int.toNat, ?_, ?_, ?_⟩
  · unfold sortedD
    dsimp only
    rw [dN_iL, allI_ints, R.bind_ok, ← toN _ h0]
  · refine ((sortI_perm _).map Int.toNat).trans ?_
    rw [List.map_map]
    have : (Int.toNat ∘ Int.ofNat) = id := funext fun k => rfl
    rw [this, List.map_id]
  · rw [List.pairwise_map]
    refine List.Pairwise.imp_of_mem (fun {a b} ha hb hab => ?_) (sortI_sorted _)
    have := h0 a ha
    have := h0 b hb
    omega
/-- a comprehension over naturals -/
theorem ev_compN {Φ : Nat → List D → Option D} {elt : ME} {own : List (Str × Nat)} {t : Tg} {src : MI} {cond : Option ME} {env : Ev} (xs : List Nat) (p : Nat → Bool) (g : Nat → Nat) (h1 : evI Φ src env = .ok (dN xs))
    (h2 : ∀ x ∈ xs, ∃ env', bindT t (.int (x : Nat)) (wipeE env (own.map (·.2))) = .ok env' ∧ evC Φ cond env' = .ok (.bl (p x)) ∧ (p x = true → ev Φ elt env' = .ok (.int (g x : Nat)))) (h3 : xs.length ≤ 16777216) :
    ev Φ (.comp elt own t src cond) env = .ok (.lst (dN ((xs.filter p).map g))) := by
  rw [ev_compM xs (fun k => .int (k : Nat)) p (fun x => .int (g x : Nat)) h1 h2 (filter_len _ _ _ h3)]
  unfold dN
  rw [List.map_map]
  rfl
/-- one that keeps some -/
theorem ev_compF {Φ : Nat → List D → Option D} {elt : ME} {own : List (Str × Nat)} {t : Tg} {src : MI} {cond : Option ME} {env : Ev} (xs : List Nat) (p : Nat → Bool) (h1 : evI Φ src env = .ok (dN xs))
    (h2 : ∀ x ∈ xs, ∃ env', bindT t (.int (x : Nat)) (wipeE env (own.map (·.2))) = .ok env' ∧ evC Φ cond env' = .ok (.bl (p x)) ∧ (p x = true → ev Φ elt env' = .ok (.int (x : Nat)))) (h3 : xs.length ≤ 16777216) :
    ev Φ (.comp elt own t src cond) env = .ok (.lst (dN (xs.filter p))) := by
  rw [ev_compN xs p id h1 h2 h3, List.map_id]
/-- one that changes all -/
theorem ev_compG {Φ : Nat → List D → Option D} {elt : ME} {own : List (Str × Nat)} {t : Tg} {src : MI} {env : Ev} (xs : List Nat) (g : Nat → Nat) (h1 : evI Φ src env = .ok (dN xs))
    (h2 : ∀ x ∈ xs, ∃ env', bindT t (.int (x : Nat)) (wipeE env (own.map (·.2))) = .ok env' ∧ ev Φ elt env' = .ok (.int (g x : Nat))) (h3 : xs.length ≤ 16777216) :
    ev Φ (.comp elt own t src none) env = .ok (.lst (dN (xs.map g))) := by
  rw [ev_compN xs (fun _ => true) g h1 (fun x hx => by
    obtain ⟨env', a, b⟩ := h2 x hx
    exact ⟨env', a, evC_none, fun _ => b⟩) h3]
  rw [show xs.filter (fun _ => true) = xs from List.filter_eq_self.mpr fun _ _ => rfl]
theorem rg_dN {n : Nat} (h : n < 2 ^ 62) : rangeD 0 (n : Int) = .ok (dN (List.range n)) := rangeD_nat h
/-! ### truths -/
def fl (n : Nat) (P : Nat → Bool) : List D := (List.range n).map fun x => .bl (P x)
theorem fl_len (n : Nat) (P : Nat → Bool) : (fl n P).length = n := by unfold fl; rw [List.length_map, List.length_range]
theorem fl_get (n : Nat) (P : Nat → Bool) (k : Nat) (h : k < (fl n P).length) : (fl n P)[k] = .bl (P k) := by
  simp only [fl, List.getElem_map, List.getElem_range]
theorem sub_fl (n : Nat) (P : Nat → Bool) (k : Nat) (h : k < n) : subD (.lst (fl n P)) (.int (k : Nat)) = .ok (.bl (P k)) := by
  rw [sub_lst _ _ (by rw [fl_len]; exact h), fl_get]
theorem fl_set (n : Nat) (P : Nat → Bool) (k : Nat) (h : k < n) : setD (.lst (fl n P)) (.int (k : Nat)) (.bl true) = .ok (.lst (fl n fun x => decide (x = k) || P x)) := by
  unfold setD
  dsimp only
  have e : ixN (fl n P).length (k : Int) = some k := by
    unfold L2.ixN
    rw [fl_len, if_pos (by omega), if_pos (by omega), Int.toNat_natCast]
  rw [e]
  show R.ok (D.lst ((fl n P).set k (.bl true))) = _
  congr 2
  apply List.ext_getElem
  · rw [List.length_set, fl_len, fl_len]
  · intro i h1 h2
    rw [List.getElem_set, fl_get, fl_get]
    by_cases e : k = i
    · rw [if_pos e, decide_eq_true e.symm]
      rfl
    · rw [if_neg e, decide_eq_false (fun z => e z.symm)]
      rfl
theorem marks (some : List Nat) (P : Nat → Bool) : some.foldl (fun (P : Nat → Bool) t => fun x => decide (x = t) || P x) P = fun x => decide (x ∈ some) || P x := by
  induction some generalizing P with
  | nil => funext x; simp
  | cons t r ih =>
    rw [List.foldl_cons, ih]
    funext x
    simp only [List.mem_cons]
    by_cases h1 : x = t <;> by_cases h2 : x ∈ r <;> simp [h1, h2]
/-! ### numbers -/
theorem shl_ok (m : Nat) (h : m ≤ 8) : shlD (.int 1) (.int (m : Nat)) = .ok (.int ((2 ^ m : Nat) : Int)) := by
  unfold shlD
  dsimp only
  rw [if_pos (by simp only [Bool.and_eq_true, decide_eq_true_eq]; exact ⟨⟨by omega, by omega⟩, by decide⟩), Int.toNat_natCast]
  simp
theorem shr_ok (s k : Nat) : shrD (.int (s : Nat)) (.int (k : Nat)) = .ok (.int ((s : Int) / 2 ^ k)) := by
  unfold shrD
  dsimp only
  rw [if_pos (by omega), Int.toNat_natCast]
def mx (i j : Nat) : Nat := if j > i then j else i
def mnN (i j : Nat) : Nat := if j < i then j else i
theorem max_ok (i j : Nat) : max2D [.int (i : Nat), .int (j : Nat)] = .ok (.int (mx i j : Nat)) := by
  unfold max2D mx
  dsimp only
  by_cases h : j > i
  · rw [if_pos h, if_pos (by omega)]
  · rw [if_neg h, if_neg (by omega)]
theorem min_ok (i j : Nat) : min2D [.int (i : Nat), .int (j : Nat)] = .ok (.int (mnN i j : Nat)) := by
  unfold min2D mnN
  dsimp only
  by_cases h : j < i
  · rw [if_pos h, if_pos (by omega)]
  · rw [if_neg h, if_neg (by omega)]
theorem mnN_lt {i j n : Nat} (h1 : i < n) (h2 : j < n) : mnN i j < n := by unfold mnN; split <;> omega
theorem bit_ok (s k : Nat) (hs : s < 256) (hk : k < 8) : decide (Builtin.bitAnd ((s : Int) / 2 ^ k) 1 = 1) = s.testBit k := by
  have h := all_range (n := 256) (p := fun s => (List.range 8).all fun k => decide (Builtin.bitAnd ((s : Int) / 2 ^ k) 1 = 1) == s.testBit k) (by decide +kernel) s hs
  exact beq_iff_eq.mp (all_range (n := 8) (p := fun k => decide (Builtin.bitAnd ((s : Int) / 2 ^ k) 1 = 1) == s.testBit k) h k hk)
theorem bit_ok0 (s k : Nat) (hs : s < 256) (hk : k < 8) : decide (Builtin.bitAnd ((s : Int) / 2 ^ k) 1 = 0) = !s.testBit k := by
  have h := all_range (n := 256) (p := fun s => (List.range 8).all fun k => decide (Builtin.bitAnd ((s : Int) / 2 ^ k) 1 = 0) == !s.testBit k) (by decide +kernel) s hs
  exact beq_iff_eq.mp (all_range (n := 8) (p := fun k => decide (Builtin.bitAnd ((s : Int) / 2 ^ k) 1 = 0) == !s.testBit k) h k hk)
theorem or_and (a b : Nat) : a ||| b = (a &&& b) + (a ^^^ b) := by
  have h1 : (a &&& b) ||| (a ^^^ b) = a ||| b := Nat.eq_of_testBit_eq fun j => by
    rw [Nat.testBit_or, Nat.testBit_and, Nat.testBit_xor, Nat.testBit_or]
    cases a.testBit j <;> cases b.testBit j <;> rfl
  have h2 : (a &&& b) &&& (a ^^^ b) = 0 := Nat.eq_of_testBit_eq fun j => by
    rw [Nat.testBit_and, Nat.testBit_and, Nat.testBit_xor, Nat.zero_testBit]
    cases a.testBit j <;> cases b.testBit j <;> rfl
  rw [← h1]
  exact (add_or _ _ h2).symm
where
  add_or : ∀ x y : Nat, x &&& y = 0 → x + y = x ||| y := fun x y => by
    induction x using Nat.strongRecOn generalizing y with
    | _ x ih =>
      intro h
      by_cases hx : x = 0
      · subst hx; simp
      · have hd : x / 2 < x := by omega
        have h1 : x / 2 &&& y / 2 = 0 := by
          rw [← Nat.and_div_two, h]
        have i := ih (x / 2) hd (y / 2) h1
        have e1 : (x ||| y) / 2 = x / 2 ||| y / 2 := Nat.or_div_two
        have e2 : (x ||| y) % 2 = (x % 2 ||| y % 2) := Nat.or_mod_two_pow (n := 1)
        have e3 : (x &&& y) % 2 = (x % 2 &&& y % 2) := Nat.and_mod_two_pow (n := 1)
        rw [h] at e3
        have e4 : (x % 2 ||| y % 2) = x % 2 + y % 2 := by
          rcases Nat.mod_two_eq_zero_or_one x with a | a <;> rcases Nat.mod_two_eq_zero_or_one y with b | b <;> rw [a, b] at e3 ⊢ <;> first | rfl | (exfalso; revert e3; decide)
        have e5 : x % 2 + y % 2 < 2 := by
          rw [← e4, ← e2]; exact Nat.mod_lt _ (by omega)
        omega
theorem xor_nat (a b : Nat) : Builtin.bitXor (a : Int) (b : Int) = ((a ^^^ b : Nat) : Int) := by
  show Builtin.bitOr (a : Int) (b : Int) - Builtin.bitAnd (a : Int) (b : Int) = _
  rw [bitOr_nat, bitAnd_nat, or_and]
  omega
/-! ### sets of eight things -/
def bits (s : Nat) : List Nat := (List.range 8).filter fun k => s.testBit k
theorem mem_bits {s k : Nat} (h : s < 256) : k ∈ bits s ↔ s.testBit k = true := by
  unfold bits
  rw [List.mem_filter, List.mem_range]
  refine ⟨fun h => h.2, fun z => ⟨?_, z⟩⟩
  rcases Nat.lt_or_ge k 8 with c | c
  · exact c
  · rw [Nat.testBit_lt_two_pow (Nat.lt_of_lt_of_le h (Nat.pow_le_pow_right (n := 2) (by omega) c))] at z
    cases z
theorem bits_len (s : Nat) : (bits s).length ≤ 8 := filter_len _ _ _ (by rw [List.length_range]; omega)
theorem bit_lt {s m j : Nat} (hs : s < 2 ^ m) (h : s.testBit j = true) : j < m := by
  rcases Nat.lt_or_ge j m with hj | hj
  · exact hj
  · rw [Nat.testBit_lt_two_pow (Nat.lt_of_lt_of_le hs (Nat.pow_le_pow_right (n := 2) (by omega) hj))] at h
    cases h
theorem p8 {m : Nat} (h : m ≤ 8) : 2 ^ m ≤ 256 := Nat.pow_le_pow_right (n := 2) (by omega) h
/-! ### dicts -/
theorem any_put {κ : Type} [DecidableEq κ] (k k' : κ) (d : D) (kvs : List (κ × D)) : ((putD k d kvs).any fun kv => decide (kv.1 = k')) = (decide (k' = k) || kvs.any fun kv => decide (kv.1 = k')) := by
  rw [Bool.eq_iff_iff]
  unfold putD
  split
  · rename_i h
    obtain ⟨kv, hkv, e⟩ := List.any_eq_true.mp h
    have e := of_decide_eq_true e
    simp only [List.any_eq_true, List.mem_map, Bool.or_eq_true, decide_eq_true_eq]
    constructor
    · rintro ⟨x, ⟨y, hy, rfl⟩, hx⟩
      split at hx
      · exact .inr ⟨y, hy, hx⟩
      · exact .inr ⟨y, hy, hx⟩
    · rintro (rfl | ⟨y, hy, hx⟩)
      · exact ⟨_, ⟨kv, hkv, rfl⟩, by rw [if_pos e]; exact e⟩
      · exact ⟨_, ⟨y, hy, rfl⟩, by split <;> exact hx⟩
  · simp only [List.any_append, Bool.or_eq_true, List.any_cons, List.any_nil, Bool.or_false, decide_eq_true_eq, List.any_eq_true]
    constructor
    · rintro (h | h)
      · exact .inr h
      · exact .inl h.symm
    · rintro (h | h)
      · exact .inr h.symm
      · exact .inl h
theorem getK_put {κ : Type} [DecidableEq κ] (k k' : κ) (d : D) (kvs : List (κ × D)) : getK k' (putD k d kvs) = if k' = k then some d else getK k' kvs := by
  unfold putD
  split
  · rename_i h
    have key : ∀ l : List (κ × D), getK k' (l.map fun kv => if kv.1 = k then (kv.1, d) else kv) = if k' = k then (if l.any fun kv => decide (kv.1 = k) then some d else none) else getK k' l := by
      intro l
      induction l with
      | nil => unfold getK; split <;> rfl
      | cons x l ih =>
        unfold getK at ih ⊢
        rw [List.map_cons, List.find?_cons, List.any_cons, List.find?_cons]
        by_cases e : x.1 = k
        · rw [if_pos e, decide_eq_true e]
          by_cases e2 : k' = k
          · subst e2
            rw [decide_eq_true e]
            simp
          · have : ¬ x.1 = k' := fun z => e2 (by rw [← z, e])
            rw [decide_eq_false this]
            simp only [Bool.true_or] at ih ⊢
            rw [if_neg e2] at ih ⊢
            exact ih
        · rw [if_neg e, decide_eq_false e, Bool.false_or]
          by_cases e2 : x.1 = k'
          · rw [decide_eq_true e2]
            have : ¬ k' = k := fun z => e (by rw [e2, z])
            rw [if_neg this]
          · rw [decide_eq_false e2]
            exact ih
    rw [key, h]
    rfl
  · rename_i h
    unfold getK
    rw [List.find?_append]
    by_cases e : k' = k
    · subst e
      rw [if_pos rfl]
      have : kvs.find? (fun kv => decide (kv.1 = k')) = none := by
        rw [List.find?_eq_none]
        intro x hx hc
        exact h (List.any_eq_true.mpr ⟨x, hx, hc⟩)
      rw [this]
      simp
    · rw [if_neg e]
      have : ¬ k = k' := fun z => e z.symm
      simp [this]
theorem put_len {κ : Type} [DecidableEq κ] (k : κ) (d : D) (kvs : List (κ × D)) : (putD k d kvs).length ≤ kvs.length + 1 := by
  unfold putD
  split
  · rw [List.length_map]; omega
  · rw [List.length_append]; exact Nat.le_refl _
/-- a dict of ints: which keys it has, what stands there -/
structure DictI (kvs : List (Key × D)) (ks : List Nat) (g : Nat → D) : Prop where
  has : ∀ k : Int, (kvs.any fun kv => decide (kv.1 = Sum.inl k)) = decide (k ∈ ks.map Int.ofNat)
  val : ∀ k ∈ ks, getK (Sum.inl ((k : Nat) : Int)) kvs = some (g k)
theorem DictI.nil {g : Nat → D} : DictI [] [] g := ⟨fun k => by simp, fun k h => by cases h⟩
theorem DictI.put {kvs : List (Key × D)} {ks : List Nat} {g : Nat → D} (h : DictI kvs ks g) (k : Nat) : DictI (putD (Sum.inl ((k : Nat) : Int)) (g k) kvs) (ks ++ [k]) g where
  has := fun j => by
    rw [any_put, h.has, Bool.eq_iff_iff, Bool.or_eq_true, decide_eq_true_iff, decide_eq_true_iff, decide_eq_true_iff, List.map_append, List.mem_append]
    constructor
    · rintro (e | e)
      · injection e with e
        exact .inr (by rw [e]; exact List.mem_singleton.mpr rfl)
      · exact .inl e
    · rintro (e | e)
      · exact .inr e
      · exact .inl (by rw [List.mem_singleton.mp e]; rfl)
  val := fun j hj => by
    rw [getK_put]
    by_cases e : j = k
    · subst e; rw [if_pos rfl]
    · rw [if_neg (fun z => by injection z with z; omega)]
      rcases List.mem_append.mp hj with hj | hj
      · exact h.val j hj
      · exact absurd (List.mem_singleton.mp hj) e
theorem set_dK {kvs : List (Key × D)} {ks : List Nat} {g : Nat → D} (h : DictI kvs ks g) (k : Nat) (hl : kvs.length < 16777216) : ∃ kvs', setD (.dK kvs) (.int (k : Nat)) (g k) = .ok (.dK kvs') ∧ DictI kvs' (ks ++ [k]) g ∧ kvs'.length ≤ kvs.length + 1 :=
  ⟨_, by unfold setD; dsimp only; rw [if_pos hl], h.put k, put_len _ _ _⟩
theorem in_dK {kvs : List (Key × D)} {ks : List Nat} {g : Nat → D} (h : DictI kvs ks g) (neg : Bool) (k : Int) : inD neg (.int k) (.dK kvs) = .ok (xor neg (decide (k ∈ ks.map Int.ofNat))) := by
  unfold inD
  dsimp only
  rw [h.has]
theorem sub_dK {kvs : List (Key × D)} {ks : List Nat} {g : Nat → D} (h : DictI kvs ks g) (k : Nat) (hk : k ∈ ks) : subD (.dK kvs) (.int (k : Nat)) = .ok (g k) := by
  unfold subD
  dsimp only
  rw [h.val k hk]
  rfl
end Ev

set_option maxHeartbeats 0
namespace K05
open Ev PySem PySem.Spec PyProof.Rows L2
def top (i : Nat) : Stmt := PySem.Challenge.pw_basehouse_k05_sets_written.main.body.getD i (.Pass ⟨0, 0, 0, 0⟩)
abbrev fuel : Nat := 100000
def blts : List Str := ["bool", "int", "isinstance", "len", "list", "range", "str", "sum"]
def gss : List (Str × Str) := [("LETTERS", "abcdefgh")]
def f_rse_NoSet : List D → Option D := rseF 0
def i_rse_NoSet : FI := ⟨.rse, "NoSet", [], .fresh⟩
/-- things -/
abbrev s_things : Stmt := top 4
def n_things : List Str := ["s", "k"]
def e_things_1 : ME :=
  (.var 1)
def q_things_0 : ME :=
  (.cmp .Eq (.bin .BitAnd (.bin .RShift (.var 0) (.var 1)) (.int 1)) (.int 1))
def k_things_2 : ME :=
  .comp e_things_1 [("k", 1)] (.one 1) (.range1 (.bm .bitLength (.var 0) .nil)) (some q_things_0)
def b_things : MSs :=
  .cons (.ret k_things_2) <| .nil
def p_things : Nat → List D → Option D := phiOf [f_rse_NoSet]
theorem pp_things : p_things 0 = f_rse_NoSet ∧ True := ⟨rfl, trivial⟩
def f_things : List D → Option D := fnD p_things fuel 2 b_things
theorem fr_things {a0 d : D} (h : Rets (exs p_things fuel b_things [some a0, none]) d) : f_things [a0] = some d := fn_ret h
def i_things : FI := ⟨.fn, "things", [.brw], .fresh⟩
theorem c_things : (chkSs ⟨[i_rse_NoSet], gss, blts⟩ n_things (defScope s_things) .fresh b_things ([.brw] ++ List.replicate (n_things.length - 1) .frz) [] (defBody s_things)).isSome = true := by decide +kernel
theorem t_things {P : Program} {w : World} {K : PySem.W.Frag} {mg : Str → Option Value} {base : Heap} {T : Tab} {f : Addr} {fd : FuncData} (h : FLs P w K mg base T 0 [f_rse_NoSet] [i_rse_NoSet]) (hT : T.K = K) (hb : ∀ b ∈ blts, mg b = none) (hs : ∀ x z, gss.lookup x = some z → ∃ u, mg x = some u ∧ RelV (.str z) u) (F : FunD K "things" "things" (defArgs s_things) (defBody s_things) (defScope s_things) [] [] f fd) (hm : mg "things" = some (.ref f)) : FLs P w K mg base T 1 [f_rse_NoSet, f_things] [i_rse_NoSet, i_things] :=
  FLs.fn (N := n_things) (ps := ["s"]) (ms := [.brw]) (mb := b_things) (fuel := fuel) h hT F (by decide +kernel) (by decide +kernel) (by decide) c_things hb hs hm (F.bindsN fun _ _ _ _ _ _ us hl => match us, hl with | [_], _ => rfl)
/-- shown -/
abbrev s_shown : Stmt := top 7
def n_shown : List Str := ["s", "thing"]
def e_shown_0 : ME :=
  (.sub (.gstr "LETTERS" "abcdefgh") (.var 1))
def k_shown_1 : ME :=
  .comp e_shown_0 [("thing", 1)] (.one 1) (.plain (.call 1 (.cons (.var 0) .nil))) none
def r_shown_2 : MSs :=
  .cons (.ret (.tx .join (.cons (.str "") (.cons k_shown_1 .nil)))) <| .nil
def b_shown : MSs :=
  .cons (.iff (.cmp .Eq (.var 0) (.int 0)) (
    .cons (.ret (.str "-")) <| .nil) (
    .nil)) <| r_shown_2
def p_shown : Nat → List D → Option D := phiOf [f_rse_NoSet, f_things]
theorem pp_shown : p_shown 0 = f_rse_NoSet ∧ p_shown 1 = f_things := ⟨rfl, rfl⟩
def f_shown : List D → Option D := fnD p_shown fuel 2 b_shown
theorem fr_shown {a0 d : D} (h : Rets (exs p_shown fuel b_shown [some a0, none]) d) : f_shown [a0] = some d := fn_ret h
def i_shown : FI := ⟨.fn, "shown", [.brw], .fresh⟩
theorem c_shown : (chkSs ⟨[i_rse_NoSet, i_things], gss, blts⟩ n_shown (defScope s_shown) .fresh b_shown ([.brw] ++ List.replicate (n_shown.length - 1) .frz) [] (defBody s_shown)).isSome = true := by decide +kernel
theorem t_shown {P : Program} {w : World} {K : PySem.W.Frag} {mg : Str → Option Value} {base : Heap} {T : Tab} {f : Addr} {fd : FuncData} (h : FLs P w K mg base T 1 [f_rse_NoSet, f_things] [i_rse_NoSet, i_things]) (hT : T.K = K) (hb : ∀ b ∈ blts, mg b = none) (hs : ∀ x z, gss.lookup x = some z → ∃ u, mg x = some u ∧ RelV (.str z) u) (F : FunD K "shown" "shown" (defArgs s_shown) (defBody s_shown) (defScope s_shown) [] [] f fd) (hm : mg "shown" = some (.ref f)) : FLs P w K mg base T 2 [f_rse_NoSet, f_things, f_shown] [i_rse_NoSet, i_things, i_shown] :=
  FLs.fn (N := n_shown) (ps := ["s"]) (ms := [.brw]) (mb := b_shown) (fuel := fuel) h hT F (by decide +kernel) (by decide +kernel) (by decide) c_shown hb hs hm (F.bindsN fun _ _ _ _ _ _ us hl => match us, hl with | [_], _ => rfl)
/-- shown_all -/
abbrev s_shown_all : Stmt := top 9
def n_shown_all : List Str := ["sets", "s"]
def e_shown_all_0 : ME :=
  (.call 2 (.cons (.var 1) .nil))
def k_shown_all_1 : ME :=
  .comp e_shown_all_0 [("s", 1)] (.one 1) (.plain (.var 0)) none
def b_shown_all : MSs :=
  .cons (.ret (.tx .join (.cons (.str " ") (.cons k_shown_all_1 .nil)))) <| .nil
def p_shown_all : Nat → List D → Option D := phiOf [f_rse_NoSet, f_things, f_shown]
theorem pp_shown_all : p_shown_all 0 = f_rse_NoSet ∧ p_shown_all 1 = f_things ∧ p_shown_all 2 = f_shown := ⟨rfl, rfl, rfl⟩
def f_shown_all : List D → Option D := fnD p_shown_all fuel 2 b_shown_all
theorem fr_shown_all {a0 d : D} (h : Rets (exs p_shown_all fuel b_shown_all [some a0, none]) d) : f_shown_all [a0] = some d := fn_ret h
def i_shown_all : FI := ⟨.fn, "shown_all", [.brw], .fresh⟩
theorem c_shown_all : (chkSs ⟨[i_rse_NoSet, i_things, i_shown], gss, blts⟩ n_shown_all (defScope s_shown_all) .fresh b_shown_all ([.brw] ++ List.replicate (n_shown_all.length - 1) .frz) [] (defBody s_shown_all)).isSome = true := by decide +kernel
theorem t_shown_all {P : Program} {w : World} {K : PySem.W.Frag} {mg : Str → Option Value} {base : Heap} {T : Tab} {f : Addr} {fd : FuncData} (h : FLs P w K mg base T 2 [f_rse_NoSet, f_things, f_shown] [i_rse_NoSet, i_things, i_shown]) (hT : T.K = K) (hb : ∀ b ∈ blts, mg b = none) (hs : ∀ x z, gss.lookup x = some z → ∃ u, mg x = some u ∧ RelV (.str z) u) (F : FunD K "shown_all" "shown_all" (defArgs s_shown_all) (defBody s_shown_all) (defScope s_shown_all) [] [] f fd) (hm : mg "shown_all" = some (.ref f)) : FLs P w K mg base T 3 [f_rse_NoSet, f_things, f_shown, f_shown_all] [i_rse_NoSet, i_things, i_shown, i_shown_all] :=
  FLs.fn (N := n_shown_all) (ps := ["sets"]) (ms := [.brw]) (mb := b_shown_all) (fuel := fuel) h hT F (by decide +kernel) (by decide +kernel) (by decide) c_shown_all hb hs hm (F.bindsN fun _ _ _ _ _ _ us hl => match us, hl with | [_], _ => rfl)
def f_exc_NoSet : List D → Option D := excF [0]
def i_exc_NoSet : FI := ⟨.exc, "NoSet", [], .fresh⟩
/-- _law_set -/
abbrev s__law_set : Stmt := top 14
def n__law_set : List Str := ["_law_word", "_law_total", "_law_last", "_law_sign", "_law_at", "_law_bit", "_law_k"]
def r__law_set_5 : MSs :=
  .cons (.iff (.cmp .Lt (.var 4) (.int 0)) (
    .cons (.asg 5 (.bin .Mult (.var 5) (.int 2))) <|
    .frz 5 <| .nil) (
    .nil)) <| .nil
def l__law_set_0 : MSs :=
  .cons (.iff (.cmp .Eq (.sub (.str "abcdefgh") (.var 6)) (.var 3)) (
    .cons (.asg 4 (.var 6)) <| .nil) (
    .nil)) <| r__law_set_5
def r__law_set_4 : MSs :=
  .cons (.asg 1 (.bin .Add (.var 1) (.var 5))) <|
  .frz 1 <|
  .cons (.asg 2 (.var 4)) <| .nil
def l__law_set_1 : MSs :=
  .cons (.asg 4 (.neg (.int 1))) <|
  .frz 4 <|
  .cons (.asg 5 (.int 1)) <|
  .frz 5 <|
  .cons (.for_ [.brw, .frz, .frz, .frz, .frz, .frz, .frz] (.one 6) (.range1 (.int 8)) l__law_set_0) <|
  .cons (.iff (.cmp .LtE (.var 4) (.var 2)) (
    .cons (.ret .non) <| .nil) (
    .nil)) <| r__law_set_4
def r__law_set_3 : MSs :=
  .cons (.ret (.var 1)) <| .nil
def r__law_set_2 : MSs :=
  .cons (.asg 1 (.int 0)) <|
  .frz 1 <|
  .cons (.asg 2 (.neg (.int 1))) <|
  .frz 2 <|
  .cons (.for_ [.brw, .frz, .frz, .frz, .frz, .frz, .frz] (.one 3) (.chars (.var 0)) l__law_set_1) <|
  .cons (.iff (.cmp .Eq (.var 1) (.int 0)) (
    .cons (.ret .non) <| .nil) (
    .nil)) <| r__law_set_3
def b__law_set : MSs :=
  .cons (.iff (.cmp .Eq (.var 0) (.str "-")) (
    .cons (.ret (.int 0)) <| .nil) (
    .nil)) <| r__law_set_2
def p__law_set : Nat → List D → Option D := phiOf [f_rse_NoSet, f_things, f_shown, f_shown_all, f_exc_NoSet]
theorem pp__law_set : p__law_set 0 = f_rse_NoSet ∧ p__law_set 1 = f_things ∧ p__law_set 2 = f_shown ∧ p__law_set 3 = f_shown_all ∧ p__law_set 4 = f_exc_NoSet := ⟨rfl, rfl, rfl, rfl, rfl⟩
def f__law_set : List D → Option D := fnD p__law_set fuel 7 b__law_set
theorem fr__law_set {a0 d : D} (h : Rets (exs p__law_set fuel b__law_set [some a0, none, none, none, none, none, none]) d) : f__law_set [a0] = some d := fn_ret h
def i__law_set : FI := ⟨.fn, "_law_set", [.brw], .clean⟩
theorem c__law_set : (chkSs ⟨[i_rse_NoSet, i_things, i_shown, i_shown_all, i_exc_NoSet], gss, blts⟩ n__law_set (defScope s__law_set) .clean b__law_set ([.brw] ++ List.replicate (n__law_set.length - 1) .frz) [] (defBody s__law_set)).isSome = true := by decide +kernel
theorem t__law_set {P : Program} {w : World} {K : PySem.W.Frag} {mg : Str → Option Value} {base : Heap} {T : Tab} {f : Addr} {fd : FuncData} (h : FLs P w K mg base T 3 [f_rse_NoSet, f_things, f_shown, f_shown_all, f_exc_NoSet] [i_rse_NoSet, i_things, i_shown, i_shown_all, i_exc_NoSet]) (hT : T.K = K) (hb : ∀ b ∈ blts, mg b = none) (hs : ∀ x z, gss.lookup x = some z → ∃ u, mg x = some u ∧ RelV (.str z) u) (F : FunD K "_law_set" "_law_set" (defArgs s__law_set) (defBody s__law_set) (defScope s__law_set) [] [] f fd) (hm : mg "_law_set" = some (.ref f)) : FLs P w K mg base T 4 [f_rse_NoSet, f_things, f_shown, f_shown_all, f_exc_NoSet, f__law_set] [i_rse_NoSet, i_things, i_shown, i_shown_all, i_exc_NoSet, i__law_set] :=
  FLs.fn (N := n__law_set) (ps := ["_law_word"]) (ms := [.brw]) (mb := b__law_set) (fuel := fuel) h hT F (by decide +kernel) (by decide +kernel) (by decide) c__law_set hb hs hm (F.bindsN fun _ _ _ _ _ _ us hl => match us, hl with | [_], _ => rfl)
/-- _law_due -/
abbrev s__law_due : Stmt := top 15
def n__law_due : List Str := ["_law_text_here", "_law_made", "_law_word", "_law_sign", "_law_number"]
def r__law_due_2 : MSs :=
  .cons (.mut .app 1 (.cons (.var 4) .nil)) <|
  .cons (.asg 2 (.str "")) <|
  .frz 2 <| .nil
def l__law_due_0 : MSs :=
  .cons (.iff (.cmp .Eq (.var 3) (.str " ")) (
    .cons (.asg 4 (.call 5 (.cons (.var 2) .nil))) <|
    .cons (.iff (.isN (.var 4)) (
      .cons (.ret .non) <| .nil) (
      .nil)) <| r__law_due_2) (
    .cons (.asg 2 (.bin .Add (.var 2) (.var 3))) <|
    .frz 2 <| .nil)) <| .nil
def r__law_due_1 : MSs :=
  .cons (.asg 1 (.lst .nil)) <|
  .cons (.asg 2 (.str "")) <|
  .frz 2 <|
  .cons (.for_ [.brw, .own, .frz, .frz, .frz] (.one 3) (.chars (.bin .Add (.var 0) (.str " "))) l__law_due_0) <|
  .cons (.ret (.var 1)) <| .nil
def b__law_due : MSs :=
  .cons (.iff (.cmp .Eq (.var 0) (.str "")) (
    .cons (.ret (.lst .nil)) <| .nil) (
    .nil)) <| r__law_due_1
def p__law_due : Nat → List D → Option D := phiOf [f_rse_NoSet, f_things, f_shown, f_shown_all, f_exc_NoSet, f__law_set]
theorem pp__law_due : p__law_due 0 = f_rse_NoSet ∧ p__law_due 1 = f_things ∧ p__law_due 2 = f_shown ∧ p__law_due 3 = f_shown_all ∧ p__law_due 4 = f_exc_NoSet ∧ p__law_due 5 = f__law_set := ⟨rfl, rfl, rfl, rfl, rfl, rfl⟩
def f__law_due : List D → Option D := fnD p__law_due fuel 5 b__law_due
theorem fr__law_due {a0 d : D} (h : Rets (exs p__law_due fuel b__law_due [some a0, none, none, none, none]) d) : f__law_due [a0] = some d := fn_ret h
def i__law_due : FI := ⟨.fn, "_law_due", [.brw], .fresh⟩
theorem c__law_due : (chkSs ⟨[i_rse_NoSet, i_things, i_shown, i_shown_all, i_exc_NoSet, i__law_set], gss, blts⟩ n__law_due (defScope s__law_due) .fresh b__law_due ([.brw] ++ List.replicate (n__law_due.length - 1) .frz) [] (defBody s__law_due)).isSome = true := by decide +kernel
theorem t__law_due {P : Program} {w : World} {K : PySem.W.Frag} {mg : Str → Option Value} {base : Heap} {T : Tab} {f : Addr} {fd : FuncData} (h : FLs P w K mg base T 4 [f_rse_NoSet, f_things, f_shown, f_shown_all, f_exc_NoSet, f__law_set] [i_rse_NoSet, i_things, i_shown, i_shown_all, i_exc_NoSet, i__law_set]) (hT : T.K = K) (hb : ∀ b ∈ blts, mg b = none) (hs : ∀ x z, gss.lookup x = some z → ∃ u, mg x = some u ∧ RelV (.str z) u) (F : FunD K "_law_due" "_law_due" (defArgs s__law_due) (defBody s__law_due) (defScope s__law_due) [] [] f fd) (hm : mg "_law_due" = some (.ref f)) : FLs P w K mg base T 5 [f_rse_NoSet, f_things, f_shown, f_shown_all, f_exc_NoSet, f__law_set, f__law_due] [i_rse_NoSet, i_things, i_shown, i_shown_all, i_exc_NoSet, i__law_set, i__law_due] :=
  FLs.fn (N := n__law_due) (ps := ["_law_text_here"]) (ms := [.brw]) (mb := b__law_due) (fuel := fuel) h hT F (by decide +kernel) (by decide +kernel) (by decide) c__law_due hb hs hm (F.bindsN fun _ _ _ _ _ _ us hl => match us, hl with | [_], _ => rfl)
/-- read -/
abbrev s_read : Stmt := top 8
def n_read : List Str := ["text", "s", "last", "sign", "at"]
def r_read_3 : MSs :=
  .cons (.asg 1 (.bin .BitOr (.var 1) (.bin .LShift (.int 1) (.var 4)))) <|
  .frz 1 <|
  .cons (.asg 2 (.var 4)) <| .nil
def l_read_0 : MSs :=
  .cons (.asg 4 (.tx .find (.cons (.gstr "LETTERS" "abcdefgh") (.cons (.var 3) .nil)))) <|
  .frz 4 <|
  .cons (.iff (.cmp .LtE (.var 4) (.var 2)) (
    .cons (.raise 0 .nil) <| .nil) (
    .nil)) <| r_read_3
def r_read_2 : MSs :=
  .cons (.asg 1 (.int 0)) <|
  .frz 1 <|
  .cons (.asg 2 (.neg (.int 1))) <|
  .frz 2 <|
  .cons (.for_ [.brw, .frz, .frz, .frz, .frz] (.one 3) (.chars (.var 0)) l_read_0) <|
  .cons (.ret (.var 1)) <| .nil
def r_read_1 : MSs :=
  .cons (.iff (.cmp .Eq (.var 0) (.str "")) (
    .cons (.raise 0 .nil) <| .nil) (
    .nil)) <| r_read_2
def b_read : MSs :=
  .cons (.iff (.cmp .Eq (.var 0) (.str "-")) (
    .cons (.ret (.int 0)) <| .nil) (
    .nil)) <| r_read_1
def p_read : Nat → List D → Option D := phiOf [f_rse_NoSet, f_things, f_shown, f_shown_all, f_exc_NoSet, f__law_set, f__law_due]
theorem pp_read : p_read 0 = f_rse_NoSet ∧ p_read 1 = f_things ∧ p_read 2 = f_shown ∧ p_read 3 = f_shown_all ∧ p_read 4 = f_exc_NoSet ∧ p_read 5 = f__law_set ∧ p_read 6 = f__law_due := ⟨rfl, rfl, rfl, rfl, rfl, rfl, rfl⟩
def f_read : List D → Option D := Ev.fnX p_read fuel 5 b_read
theorem fr_read {a0 d : D} (h : Rets (exs p_read fuel b_read [some a0, none, none, none, none]) d) (hd : notX d = true) : f_read [a0] = some d := fnx_ret h hd
theorem fx_read {a0 : D} {c : Nat} {fs : List D} (h : exs p_read fuel b_read [some a0, none, none, none, none] = .exc c fs) : f_read [a0] = some (.xc c fs) := fnx_exc h
def i_read : FI := ⟨.fnX, "read", [.brw], .clean⟩
theorem c_read : (chkSs ⟨[i_rse_NoSet, i_things, i_shown, i_shown_all, i_exc_NoSet, i__law_set, i__law_due], gss, blts⟩ n_read (defScope s_read) .clean b_read ([.brw] ++ List.replicate (n_read.length - 1) .frz) [] (defBody s_read)).isSome = true := by decide +kernel
theorem t_read {P : Program} {w : World} {K : PySem.W.Frag} {mg : Str → Option Value} {base : Heap} {T : Tab} {f : Addr} {fd : FuncData} (h : FLs P w K mg base T 5 [f_rse_NoSet, f_things, f_shown, f_shown_all, f_exc_NoSet, f__law_set, f__law_due] [i_rse_NoSet, i_things, i_shown, i_shown_all, i_exc_NoSet, i__law_set, i__law_due]) (hT : T.K = K) (hb : ∀ b ∈ blts, mg b = none) (hs : ∀ x z, gss.lookup x = some z → ∃ u, mg x = some u ∧ RelV (.str z) u) (F : FunD K "read" "read" (defArgs s_read) (defBody s_read) (defScope s_read) [] [] f fd) (hm : mg "read" = some (.ref f)) : FLs P w K mg base T 6 [f_rse_NoSet, f_things, f_shown, f_shown_all, f_exc_NoSet, f__law_set, f__law_due, f_read] [i_rse_NoSet, i_things, i_shown, i_shown_all, i_exc_NoSet, i__law_set, i__law_due, i_read] :=
  FLs.fnX (N := n_read) (ps := ["text"]) (ms := [.brw]) (mb := b_read) (fuel := fuel) h hT F (by decide +kernel) (by decide +kernel) (by decide) c_read hb hs hm (F.bindsN fun _ _ _ _ _ _ us hl => match us, hl with | [_], _ => rfl)
/-- read_all -/
abbrev s_read_all : Stmt := top 10
def n_read_all : List Str := ["text", "word"]
def r_read_all_0 : MSs :=
  .cons (.retX (.comp (.call 7 (.cons (.var 1) .nil)) [("word", 1)] (.one 1) (.plain (.tx .split (.cons (.var 0) (.cons (.str " ") .nil)))))) <| .nil
def b_read_all : MSs :=
  .cons (.iff (.cmp .Eq (.var 0) (.str "")) (
    .cons (.ret (.lst .nil)) <| .nil) (
    .nil)) <| r_read_all_0
def p_read_all : Nat → List D → Option D := phiOf [f_rse_NoSet, f_things, f_shown, f_shown_all, f_exc_NoSet, f__law_set, f__law_due, f_read]
theorem pp_read_all : p_read_all 0 = f_rse_NoSet ∧ p_read_all 1 = f_things ∧ p_read_all 2 = f_shown ∧ p_read_all 3 = f_shown_all ∧ p_read_all 4 = f_exc_NoSet ∧ p_read_all 5 = f__law_set ∧ p_read_all 6 = f__law_due ∧ p_read_all 7 = f_read := ⟨rfl, rfl, rfl, rfl, rfl, rfl, rfl, rfl⟩
def f_read_all : List D → Option D := Ev.fnX p_read_all fuel 2 b_read_all
theorem fr_read_all {a0 d : D} (h : Rets (exs p_read_all fuel b_read_all [some a0, none]) d) (hd : notX d = true) : f_read_all [a0] = some d := fnx_ret h hd
theorem fx_read_all {a0 : D} {c : Nat} {fs : List D} (h : exs p_read_all fuel b_read_all [some a0, none] = .exc c fs) : f_read_all [a0] = some (.xc c fs) := fnx_exc h
def i_read_all : FI := ⟨.fnX, "read_all", [.brw], .fresh⟩
theorem c_read_all : (chkSs ⟨[i_rse_NoSet, i_things, i_shown, i_shown_all, i_exc_NoSet, i__law_set, i__law_due, i_read], gss, blts⟩ n_read_all (defScope s_read_all) .fresh b_read_all ([.brw] ++ List.replicate (n_read_all.length - 1) .frz) [] (defBody s_read_all)).isSome = true := by decide +kernel
theorem t_read_all {P : Program} {w : World} {K : PySem.W.Frag} {mg : Str → Option Value} {base : Heap} {T : Tab} {f : Addr} {fd : FuncData} (h : FLs P w K mg base T 6 [f_rse_NoSet, f_things, f_shown, f_shown_all, f_exc_NoSet, f__law_set, f__law_due, f_read] [i_rse_NoSet, i_things, i_shown, i_shown_all, i_exc_NoSet, i__law_set, i__law_due, i_read]) (hT : T.K = K) (hb : ∀ b ∈ blts, mg b = none) (hs : ∀ x z, gss.lookup x = some z → ∃ u, mg x = some u ∧ RelV (.str z) u) (F : FunD K "read_all" "read_all" (defArgs s_read_all) (defBody s_read_all) (defScope s_read_all) [] [] f fd) (hm : mg "read_all" = some (.ref f)) : FLs P w K mg base T 7 [f_rse_NoSet, f_things, f_shown, f_shown_all, f_exc_NoSet, f__law_set, f__law_due, f_read, f_read_all] [i_rse_NoSet, i_things, i_shown, i_shown_all, i_exc_NoSet, i__law_set, i__law_due, i_read, i_read_all] :=
  FLs.fnX (N := n_read_all) (ps := ["text"]) (ms := [.brw]) (mb := b_read_all) (fuel := fuel) h hT F (by decide +kernel) (by decide +kernel) (by decide) c_read_all hb hs hm (F.bindsN fun _ _ _ _ _ _ us hl => match us, hl with | [_], _ => rfl)
/-- _law_whole -/
abbrev s__law_whole : Stmt := top 12
def n__law_whole : List Str := ["_law_found"]
def b__law_whole : MSs :=
  .cons (.ret (.and_ (.isi (.var 0) "int") (.not_ (.isi (.var 0) "bool")))) <| .nil
def p__law_whole : Nat → List D → Option D := phiOf [f_rse_NoSet, f_things, f_shown, f_shown_all, f_exc_NoSet, f__law_set, f__law_due, f_read, f_read_all]
theorem pp__law_whole : p__law_whole 0 = f_rse_NoSet ∧ p__law_whole 1 = f_things ∧ p__law_whole 2 = f_shown ∧ p__law_whole 3 = f_shown_all ∧ p__law_whole 4 = f_exc_NoSet ∧ p__law_whole 5 = f__law_set ∧ p__law_whole 6 = f__law_due ∧ p__law_whole 7 = f_read ∧ p__law_whole 8 = f_read_all := ⟨rfl, rfl, rfl, rfl, rfl, rfl, rfl, rfl, rfl⟩
def f__law_whole : List D → Option D := fnD p__law_whole fuel 1 b__law_whole
theorem fr__law_whole {a0 d : D} (h : Rets (exs p__law_whole fuel b__law_whole [some a0]) d) : f__law_whole [a0] = some d := fn_ret h
def i__law_whole : FI := ⟨.fn, "_law_whole", [.brw], .fresh⟩
theorem c__law_whole : (chkSs ⟨[i_rse_NoSet, i_things, i_shown, i_shown_all, i_exc_NoSet, i__law_set, i__law_due, i_read, i_read_all], gss, blts⟩ n__law_whole (defScope s__law_whole) .fresh b__law_whole ([.brw] ++ List.replicate (n__law_whole.length - 1) .frz) [] (defBody s__law_whole)).isSome = true := by decide +kernel
theorem t__law_whole {P : Program} {w : World} {K : PySem.W.Frag} {mg : Str → Option Value} {base : Heap} {T : Tab} {f : Addr} {fd : FuncData} (h : FLs P w K mg base T 7 [f_rse_NoSet, f_things, f_shown, f_shown_all, f_exc_NoSet, f__law_set, f__law_due, f_read, f_read_all] [i_rse_NoSet, i_things, i_shown, i_shown_all, i_exc_NoSet, i__law_set, i__law_due, i_read, i_read_all]) (hT : T.K = K) (hb : ∀ b ∈ blts, mg b = none) (hs : ∀ x z, gss.lookup x = some z → ∃ u, mg x = some u ∧ RelV (.str z) u) (F : FunD K "_law_whole" "_law_whole" (defArgs s__law_whole) (defBody s__law_whole) (defScope s__law_whole) [] [] f fd) (hm : mg "_law_whole" = some (.ref f)) : FLs P w K mg base T 8 [f_rse_NoSet, f_things, f_shown, f_shown_all, f_exc_NoSet, f__law_set, f__law_due, f_read, f_read_all, f__law_whole] [i_rse_NoSet, i_things, i_shown, i_shown_all, i_exc_NoSet, i__law_set, i__law_due, i_read, i_read_all, i__law_whole] :=
  FLs.fn (N := n__law_whole) (ps := ["_law_found"]) (ms := [.brw]) (mb := b__law_whole) (fuel := fuel) h hT F (by decide +kernel) (by decide +kernel) (by decide) c__law_whole hb hs hm (F.bindsN fun _ _ _ _ _ _ us hl => match us, hl with | [_], _ => rfl)
/-- _law_reads -/
abbrev s__law_reads : Stmt := top 16
def n__law_reads : List Str := ["_law_text_here", "_law_due_here", "_law_found", "_law_refused", "_law_k"]
def l__law_reads_0 : MSs :=
  .cons (.iff (.or_ (.not_ (.call 9 (.cons (.sub (.var 2) (.var 4)) .nil))) (.cmp .NotEq (.sub (.var 2) (.var 4)) (.sub (.var 1) (.var 4)))) (
    .cons (.ret (.bl false)) <| .nil) (
    .nil)) <| .nil
def r__law_reads_2 : MSs :=
  .cons (.for_ [.brw, .frz, .frz, .frz, .frz] (.one 4) (.range1 (.bf .len (.cons (.var 1) .nil))) l__law_reads_0) <|
  .cons (.ret (.bl true)) <| .nil
def r__law_reads_1 : MSs :=
  .cons (.iff (.or_ (.var 3) (.or_ (.not_ (.isi (.var 2) "list")) (.cmp .NotEq (.bf .len (.cons (.var 2) .nil)) (.bf .len (.cons (.var 1) .nil))))) (
    .cons (.ret (.bl false)) <| .nil) (
    .nil)) <| r__law_reads_2
def b__law_reads : MSs :=
  .cons (.asg 1 (.call 6 (.cons (.var 0) .nil))) <|
  .frz 1 <|
  .cons (.asg 2 .non) <|
  .frz 2 <|
  .cons (.asg 3 (.bl false)) <|
  .frz 3 <|
  .cons (.tryB (some 2) (.call 8 (.cons (.var 0) .nil)) 4 3 true) <|
  .cons (.iff (.isN (.var 1)) (
    .cons (.ret (.var 3)) <| .nil) (
    .nil)) <| r__law_reads_1
def p__law_reads : Nat → List D → Option D := phiOf [f_rse_NoSet, f_things, f_shown, f_shown_all, f_exc_NoSet, f__law_set, f__law_due, f_read, f_read_all, f__law_whole]
theorem pp__law_reads : p__law_reads 0 = f_rse_NoSet ∧ p__law_reads 1 = f_things ∧ p__law_reads 2 = f_shown ∧ p__law_reads 3 = f_shown_all ∧ p__law_reads 4 = f_exc_NoSet ∧ p__law_reads 5 = f__law_set ∧ p__law_reads 6 = f__law_due ∧ p__law_reads 7 = f_read ∧ p__law_reads 8 = f_read_all ∧ p__law_reads 9 = f__law_whole := ⟨rfl, rfl, rfl, rfl, rfl, rfl, rfl, rfl, rfl, rfl⟩
def f__law_reads : List D → Option D := fnD p__law_reads fuel 5 b__law_reads
theorem fr__law_reads {a0 d : D} (h : Rets (exs p__law_reads fuel b__law_reads [some a0, none, none, none, none]) d) : f__law_reads [a0] = some d := fn_ret h
def i__law_reads : FI := ⟨.fn, "_law_reads", [.brw], .clean⟩
theorem c__law_reads : (chkSs ⟨[i_rse_NoSet, i_things, i_shown, i_shown_all, i_exc_NoSet, i__law_set, i__law_due, i_read, i_read_all, i__law_whole], gss, blts⟩ n__law_reads (defScope s__law_reads) .clean b__law_reads ([.brw] ++ List.replicate (n__law_reads.length - 1) .frz) [] (defBody s__law_reads)).isSome = true := by decide +kernel
theorem t__law_reads {P : Program} {w : World} {K : PySem.W.Frag} {mg : Str → Option Value} {base : Heap} {T : Tab} {f : Addr} {fd : FuncData} (h : FLs P w K mg base T 8 [f_rse_NoSet, f_things, f_shown, f_shown_all, f_exc_NoSet, f__law_set, f__law_due, f_read, f_read_all, f__law_whole] [i_rse_NoSet, i_things, i_shown, i_shown_all, i_exc_NoSet, i__law_set, i__law_due, i_read, i_read_all, i__law_whole]) (hT : T.K = K) (hb : ∀ b ∈ blts, mg b = none) (hs : ∀ x z, gss.lookup x = some z → ∃ u, mg x = some u ∧ RelV (.str z) u) (F : FunD K "_law_reads" "_law_reads" (defArgs s__law_reads) (defBody s__law_reads) (defScope s__law_reads) [] [] f fd) (hm : mg "_law_reads" = some (.ref f)) : FLs P w K mg base T 9 [f_rse_NoSet, f_things, f_shown, f_shown_all, f_exc_NoSet, f__law_set, f__law_due, f_read, f_read_all, f__law_whole, f__law_reads] [i_rse_NoSet, i_things, i_shown, i_shown_all, i_exc_NoSet, i__law_set, i__law_due, i_read, i_read_all, i__law_whole, i__law_reads] :=
  FLs.fn (N := n__law_reads) (ps := ["_law_text_here"]) (ms := [.brw]) (mb := b__law_reads) (fuel := fuel) h hT F (by decide +kernel) (by decide +kernel) (by decide) c__law_reads hb hs hm (F.bindsN fun _ _ _ _ _ _ us hl => match us, hl with | [_], _ => rfl)
/-- _law_text -/
abbrev s__law_text : Stmt := top 13
def n__law_text : List Str := ["_law_number", "_law_made", "_law_k"]
def r__law_text_2 : MSs :=
  .cons (.asg 0 (.bin .FloorDiv (.var 0) (.int 2))) <|
  .frz 0 <| .nil
def l__law_text_0 : MSs :=
  .cons (.iff (.cmp .Eq (.bin .Mod (.var 0) (.int 2)) (.int 1)) (
    .cons (.asg 1 (.bin .Add (.var 1) (.sub (.str "abcdefgh") (.var 2)))) <|
    .frz 1 <| .nil) (
    .nil)) <| r__law_text_2
def r__law_text_1 : MSs :=
  .cons (.asg 1 (.str "")) <|
  .frz 1 <|
  .cons (.for_ [.brw, .frz, .frz] (.one 2) (.range1 (.int 8)) l__law_text_0) <|
  .cons (.ret (.var 1)) <| .nil
def b__law_text : MSs :=
  .cons (.iff (.cmp .Eq (.var 0) (.int 0)) (
    .cons (.ret (.str "-")) <| .nil) (
    .nil)) <| r__law_text_1
def p__law_text : Nat → List D → Option D := phiOf [f_rse_NoSet, f_things, f_shown, f_shown_all, f_exc_NoSet, f__law_set, f__law_due, f_read, f_read_all, f__law_whole, f__law_reads]
theorem pp__law_text : p__law_text 0 = f_rse_NoSet ∧ p__law_text 1 = f_things ∧ p__law_text 2 = f_shown ∧ p__law_text 3 = f_shown_all ∧ p__law_text 4 = f_exc_NoSet ∧ p__law_text 5 = f__law_set ∧ p__law_text 6 = f__law_due ∧ p__law_text 7 = f_read ∧ p__law_text 8 = f_read_all ∧ p__law_text 9 = f__law_whole ∧ p__law_text 10 = f__law_reads := ⟨rfl, rfl, rfl, rfl, rfl, rfl, rfl, rfl, rfl, rfl, rfl⟩
def f__law_text : List D → Option D := fnD p__law_text fuel 3 b__law_text
theorem fr__law_text {a0 d : D} (h : Rets (exs p__law_text fuel b__law_text [some a0, none, none]) d) : f__law_text [a0] = some d := fn_ret h
def i__law_text : FI := ⟨.fn, "_law_text", [.brw], .clean⟩
theorem c__law_text : (chkSs ⟨[i_rse_NoSet, i_things, i_shown, i_shown_all, i_exc_NoSet, i__law_set, i__law_due, i_read, i_read_all, i__law_whole, i__law_reads], gss, blts⟩ n__law_text (defScope s__law_text) .clean b__law_text ([.brw] ++ List.replicate (n__law_text.length - 1) .frz) [] (defBody s__law_text)).isSome = true := by decide +kernel
theorem t__law_text {P : Program} {w : World} {K : PySem.W.Frag} {mg : Str → Option Value} {base : Heap} {T : Tab} {f : Addr} {fd : FuncData} (h : FLs P w K mg base T 9 [f_rse_NoSet, f_things, f_shown, f_shown_all, f_exc_NoSet, f__law_set, f__law_due, f_read, f_read_all, f__law_whole, f__law_reads] [i_rse_NoSet, i_things, i_shown, i_shown_all, i_exc_NoSet, i__law_set, i__law_due, i_read, i_read_all, i__law_whole, i__law_reads]) (hT : T.K = K) (hb : ∀ b ∈ blts, mg b = none) (hs : ∀ x z, gss.lookup x = some z → ∃ u, mg x = some u ∧ RelV (.str z) u) (F : FunD K "_law_text" "_law_text" (defArgs s__law_text) (defBody s__law_text) (defScope s__law_text) [] [] f fd) (hm : mg "_law_text" = some (.ref f)) : FLs P w K mg base T 10 [f_rse_NoSet, f_things, f_shown, f_shown_all, f_exc_NoSet, f__law_set, f__law_due, f_read, f_read_all, f__law_whole, f__law_reads, f__law_text] [i_rse_NoSet, i_things, i_shown, i_shown_all, i_exc_NoSet, i__law_set, i__law_due, i_read, i_read_all, i__law_whole, i__law_reads, i__law_text] :=
  FLs.fn (N := n__law_text) (ps := ["_law_number"]) (ms := [.brw]) (mb := b__law_text) (fuel := fuel) h hT F (by decide +kernel) (by decide +kernel) (by decide) c__law_text hb hs hm (F.bindsN fun _ _ _ _ _ _ us hl => match us, hl with | [_], _ => rfl)
/-- law -/
abbrev s_law : Stmt := top 17
def n_law : List Str := ["_law_script", "_law_some", "_law_text_here", "_law_s", "_law_kept", "_law_found", "_law_line", "_law_cell", "_law_mixed", "_law_at", "_law_sign"]
def e_law_0 : ME :=
  (.bin .Mod (.var 7) (.int 256))
def k_law_1 : ME :=
  .comp e_law_0 [("_law_cell", 7)] (.one 7) (.plain (.slice (.var 0) none (some (.int 63)))) none
def l_law_2 : MSs :=
  .cons (.asg 2 (.bin .Add (.bin .Add (.var 2) (.str " ")) (.call 11 (.cons (.var 3) .nil)))) <|
  .frz 2 <| .nil
def l_law_3 : MSs :=
  .cons (.asg 6 (.bin .Add (.var 6) (.sub (.str " - a bcdefghi") (.bin .Mod (.bin .Mod (.bin .Mult (.var 7) (.int 16807)) (.int 65521)) (.int 13))))) <|
  .frz 6 <| .nil
def r_law_9 : MSs :=
  .cons (.ret (.call 10 (.cons (.bin .Add (.bin .Add (.slice (.var 2) none (some (.var 9))) (.var 10)) (.slice (.var 2) (some (.var 9)) none)) .nil))) <| .nil
def r_law_8 : MSs :=
  .cons (.iff (.cmp .Eq (.bin .Mod (.bin .FloorDiv (.var 8) (.int 4099)) (.int 3)) (.int 0)) (
    .cons (.ret (.call 10 (.cons (.bin .Add (.slice (.var 2) none (some (.var 9))) (.slice (.var 2) (some (.bin .Add (.var 9) (.int 1))) none)) .nil))) <| .nil) (
    .nil)) <| r_law_9
def r_law_7 : MSs :=
  .cons (.asg 8 (.bin .Mod (.var 8) (.int 2147483647))) <|
  .frz 8 <|
  .cons (.asg 9 (.bin .Mod (.var 8) (.bin .Add (.bf .len (.cons (.var 2) .nil)) (.int 1)))) <|
  .frz 9 <|
  .cons (.asg 10 (.str " ")) <|
  .frz 10 <|
  .cons (.iff (.cmp .Eq (.bin .Mod (.bin .FloorDiv (.var 8) (.int 1009)) (.int 2)) (.int 1)) (
    .cons (.asg 10 (.sub (.str "abcdefghi-") (.bin .Mod (.bin .FloorDiv (.var 8) (.int 2018)) (.int 10)))) <| .nil) (
    .nil)) <| r_law_8
def r_law_6 : MSs :=
  .cons (.asg 8 (.bin .Add (.bin .Mult (.bf .sum (.cons (.var 1) .nil)) (.int 48271)) (.bin .Mult (.bf .len (.cons (.var 1) .nil)) (.int 7919)))) <|
  .frz 8 <|
  .cons (.iff (.cmp .Gt (.bf .len (.cons (.var 0) .nil)) (.int 0)) (
    .cons (.asg 8 (.bin .Add (.var 8) (.bin .Mult (.sub (.var 0) (.int 0)) (.int 16807)))) <|
    .frz 8 <| .nil) (
    .nil)) <| r_law_7
def r_law_5 : MSs :=
  .cons (.asg 6 (.str "")) <|
  .frz 6 <|
  .cons (.for_ [.brw, .frz, .frz, .frz, .frz, .frz, .frz, .frz, .frz, .frz, .frz] (.one 7) (.plain (.slice (.var 0) none (some (.int 63)))) l_law_3) <|
  .cons (.iff (.or_ (.not_ (.call 10 (.cons (.var 6) .nil))) (.not_ (.call 10 (.cons (.slice (.var 6) none (some (.int 3))) .nil)))) (
    .cons (.ret (.bl false)) <| .nil) (
    .nil)) <| r_law_6
def r_law_4 : MSs :=
  .cons (.iff (.not_ (.call 10 (.cons (.var 2) .nil))) (
    .cons (.ret (.bl false)) <| .nil) (
    .nil)) <| r_law_5
def b_law : MSs :=
  .cons (.asg 1 k_law_1) <|
  .frz 1 <|
  .cons (.asg 2 (.str "")) <|
  .frz 2 <|
  .cons (.for_ [.brw, .frz, .frz, .frz, .frz, .frz, .frz, .frz, .frz, .frz, .frz] (.one 3) (.plain (.var 1)) l_law_2) <|
  .cons (.asg 2 (.slice (.var 2) (some (.int 1)) none)) <|
  .frz 2 <|
  .cons (.asg 4 (.bf .list (.cons (.var 1) .nil))) <|
  .frz 4 <|
  .cons (.asg 5 (.call 3 (.cons (.var 1) .nil))) <|
  .frz 5 <|
  .cons (.iff (.or_ (.not_ (.isi (.var 5) "str")) (.or_ (.cmp .NotEq (.var 5) (.var 2)) (.cmp .NotEq (.var 1) (.var 4)))) (
    .cons (.ret (.bl false)) <| .nil) (
    .nil)) <| r_law_4
def p_law : Nat → List D → Option D := phiOf [f_rse_NoSet, f_things, f_shown, f_shown_all, f_exc_NoSet, f__law_set, f__law_due, f_read, f_read_all, f__law_whole, f__law_reads, f__law_text]
theorem pp_law : p_law 0 = f_rse_NoSet ∧ p_law 1 = f_things ∧ p_law 2 = f_shown ∧ p_law 3 = f_shown_all ∧ p_law 4 = f_exc_NoSet ∧ p_law 5 = f__law_set ∧ p_law 6 = f__law_due ∧ p_law 7 = f_read ∧ p_law 8 = f_read_all ∧ p_law 9 = f__law_whole ∧ p_law 10 = f__law_reads ∧ p_law 11 = f__law_text := ⟨rfl, rfl, rfl, rfl, rfl, rfl, rfl, rfl, rfl, rfl, rfl, rfl⟩
def f_law : List D → Option D := fnD p_law fuel 11 b_law
theorem fr_law {a0 d : D} (h : Rets (exs p_law fuel b_law [some a0, none, none, none, none, none, none, none, none, none, none]) d) : f_law [a0] = some d := fn_ret h
def i_law : FI := ⟨.fn, "law", [.brw], .clean⟩
theorem c_law : (chkSs ⟨[i_rse_NoSet, i_things, i_shown, i_shown_all, i_exc_NoSet, i__law_set, i__law_due, i_read, i_read_all, i__law_whole, i__law_reads, i__law_text], gss, blts⟩ n_law (defScope s_law) .clean b_law ([.brw] ++ List.replicate (n_law.length - 1) .frz) [] (defBody s_law)).isSome = true := by decide +kernel
def cn : List Str := ["NoSet"]
def tab (K : PySem.W.Frag) : Tab := ⟨K, fun c => He.ga K (cn.getD c ""), fun _ => 0⟩
def d_of (x : Str) (i : Nat) : He.DefD := ⟨(x, none), x, x, defArgs (top i), defBody (top i), defScope (top i), [], []⟩
def d_in (x m q : Str) (i j : Nat) : He.DefD := ⟨(x, some m), m, q, defArgs (inClass (top i) j), defBody (inClass (top i) j), defScope (inClass (top i) j), [], []⟩
def fn : List He.DefD := [d_of "things" 4, d_of "shown" 7, d_of "shown_all" 9, d_of "_law_set" 14, d_of "_law_due" 15, d_of "read" 8, d_of "read_all" 10, d_of "_law_whole" 12, d_of "_law_reads" 16, d_of "_law_text" 13, d_of "law" 17]
def fa : List He.Fa := [.glo "NoSet", .exc "NoSet", .glo "things", .glo "shown", .glo "shown_all", .exm "NoSet" "NoSet" true, .glo "_law_set", .glo "_law_due", .glo "read", .glo "read_all", .glo "_law_whole", .glo "_law_reads", .glo "_law_text", .glo "law", .free "bool", .free "int", .free "isinstance", .free "len", .free "list", .free "range", .free "str", .free "sum", .str "LETTERS" "abcdefgh"]
def fe : List XF := []
abbrev R : PySem.W.OpenRow := PySem.W.OpenLaw.row PySem.Challenge.rw_basehouse_k05_sets_written
abbrev hk : PySem.W.Hook := hookE 8 fa fn fe
def ob (s : PySem.W.SharedT) : AlE := obsE 8 fa fn fe (HandSHeadRun.getT s)
theorem ob_eq (s : PySem.W.SharedT) : ob s = hk.obs s.abs := obsE_eq (HandSHeadRun.getT_eq s)
def loose : List Str := [("HouseError" : Str), ("NoSet" : Str), ("things" : Str), ("LETTERS" : Str), ("shown" : Str), ("read" : Str), ("shown_all" : Str), ("read_all" : Str), ("_law_whole" : Str), ("_law_text" : Str), ("_law_set" : Str), ("_law_due" : Str), ("_law_reads" : Str)]
theorem run (w : World) : HandSHeadRun.RunEq R (PySem.W.view R.prog [17]) hk ob 3300 loose w := by
  intro os
  kernel_rfl
/-- what is left: the law's value -/
def Aim : Prop := ∀ ns : List Int, ns.length ≤ 63 → (∀ z ∈ ns, Builtin.Int.intBits z ≤ 1048576) → f_law [.scr ns] = some (.bl true)
theorem facts (aim : Aim) {P : Program} {w : World} {K : PySem.W.Frag} {h : Heap} {mg : Str → Option Value} {f : Addr} (X : K.In h) (G : h.Ns mainGlobals mg) (hfa : mg ("law" : Str) = some (.ref f)) (c : SaysE fa fn fe K) :
    ∃ fd : FuncData, (∀ (s : Shared) (v : Value), BindsTo s fd ⟨[v], []⟩ [("_law_script", v)]) ∧ ∀ base : Heap, K.In base → base.Ns mainGlobals mg → FnOk P w K mg base CX0 11 f fd ["_law_script"] (spN (tab K) [.brw] .clean f_law) := by
  obtain ⟨fd0, F0⟩ := c.1.def_ 0 (d := d_of "things" 4) rfl
  obtain ⟨fd1, F1⟩ := c.1.def_ 1 (d := d_of "shown" 7) rfl
  obtain ⟨fd2, F2⟩ := c.1.def_ 2 (d := d_of "shown_all" 9) rfl
  obtain ⟨fd3, F3⟩ := c.1.def_ 3 (d := d_of "_law_set" 14) rfl
  obtain ⟨fd4, F4⟩ := c.1.def_ 4 (d := d_of "_law_due" 15) rfl
  obtain ⟨fd5, F5⟩ := c.1.def_ 5 (d := d_of "read" 8) rfl
  obtain ⟨fd6, F6⟩ := c.1.def_ 6 (d := d_of "read_all" 10) rfl
  obtain ⟨fd7, F7⟩ := c.1.def_ 7 (d := d_of "_law_whole" 12) rfl
  obtain ⟨fd8, F8⟩ := c.1.def_ 8 (d := d_of "_law_reads" 16) rfl
  obtain ⟨fd9, F9⟩ := c.1.def_ 9 (d := d_of "_law_text" 13) rfl
  obtain ⟨fd10, F10⟩ := c.1.def_ 10 (d := d_of "law" 17) rfl
  have e0 := He.free_ok X G (c.1.fact 14 (f := .free "bool") rfl)
  have e1 := He.free_ok X G (c.1.fact 15 (f := .free "int") rfl)
  have e2 := He.free_ok X G (c.1.fact 16 (f := .free "isinstance") rfl)
  have e3 := He.free_ok X G (c.1.fact 17 (f := .free "len") rfl)
  have e4 := He.free_ok X G (c.1.fact 18 (f := .free "list") rfl)
  have e5 := He.free_ok X G (c.1.fact 19 (f := .free "range") rfl)
  have e6 := He.free_ok X G (c.1.fact 20 (f := .free "str") rfl)
  have e7 := He.free_ok X G (c.1.fact 21 (f := .free "sum") rfl)
  have hb : ∀ b ∈ blts, mg b = none := by
    intro b hb
    unfold blts at hb
    simp only [List.mem_cons, List.not_mem_nil, or_false] at hb
    rcases hb with rfl | rfl | rfl | rfl | rfl | rfl | rfl | rfl
    · exact e0
    · exact e1
    · exact e2
    · exact e3
    · exact e4
    · exact e5
    · exact e6
    · exact e7
  have g0 := He.str_ok X G (c.1.fact 22 (f := .str "LETTERS" "abcdefgh") rfl)
  have hs : ∀ x z, gss.lookup x = some z → ∃ u, mg x = some u ∧ RelV (.str z) u := by
    intro x z h
    unfold gss at h
    rw [List.lookup_cons] at h
    split at h
    · rename_i e
      have e := eq_of_beq e
      subst e
      cases h
      obtain ⟨t, ht⟩ := g0
      exact ⟨_, ht, ⟨_, rfl⟩⟩
    cases h
  have ml := He.glo_ok X G (c.1.fact 13 (f := .glo "law") rfl)
  have e := hfa.symm.trans ml
  cases e
  have b := FunD.bindsA (ps := ["_law_script"]) F10 fun _ _ _ _ _ _ us hl => match us, hl with | [_], _ => rfl
  refine ⟨fd10, fun s v => b s [v] rfl, fun base _ _ => ?_⟩
  have h0 : FLs P w K mg base (tab K) 0 [] [] := FLs.nil
  have h1 : FLs P w K mg base (tab K) 0 [f_rse_NoSet] [i_rse_NoSet] := FLs.rse (x := "NoSet") (c := 0) h0 (rse_ok (c.1.fact 1 (f := .exc "NoSet") rfl)) (He.glo_ok X G (c.1.fact 0 (f := .glo "NoSet") rfl))
  have h2 := t_things h1 rfl hb hs F0 (He.glo_ok X G (c.1.fact 2 (f := .glo "things") rfl))
  have h3 := t_shown h2 rfl hb hs F1 (He.glo_ok X G (c.1.fact 3 (f := .glo "shown") rfl))
  have h4 := t_shown_all h3 rfl hb hs F2 (He.glo_ok X G (c.1.fact 4 (f := .glo "shown_all") rfl))
  have h5 : FLs P w K mg base (tab K) 3 [f_rse_NoSet, f_things, f_shown, f_shown_all, f_exc_NoSet] [i_rse_NoSet, i_things, i_shown, i_shown_all, i_exc_NoSet] := FLs.exc (x := "NoSet") (tab := [0]) h4 (He.glo_ok X G (c.1.fact 0 (f := .glo "NoSet") rfl)) (by
    intro d hd
    simp only [List.mem_cons, List.not_mem_nil, or_false] at hd
    subst hd
    exact He.exm_ok (c.1.fact 5 (f := .exm "NoSet" "NoSet" true) rfl))
  have h6 := t__law_set h5 rfl hb hs F3 (He.glo_ok X G (c.1.fact 6 (f := .glo "_law_set") rfl))
  have h7 := t__law_due h6 rfl hb hs F4 (He.glo_ok X G (c.1.fact 7 (f := .glo "_law_due") rfl))
  have h8 := t_read h7 rfl hb hs F5 (He.glo_ok X G (c.1.fact 8 (f := .glo "read") rfl))
  have h9 := t_read_all h8 rfl hb hs F6 (He.glo_ok X G (c.1.fact 9 (f := .glo "read_all") rfl))
  have h10 := t__law_whole h9 rfl hb hs F7 (He.glo_ok X G (c.1.fact 10 (f := .glo "_law_whole") rfl))
  have h11 := t__law_reads h10 rfl hb hs F8 (He.glo_ok X G (c.1.fact 11 (f := .glo "_law_reads") rfl))
  have h12 := t__law_text h11 rfl hb hs F9 (He.glo_ok X G (c.1.fact 12 (f := .glo "_law_text") rfl))
  exact fn_ev (N := n_law) (ps := ["_law_script"]) (ms := [.brw]) (mb := b_law) (G := ⟨[i_rse_NoSet, i_things, i_shown, i_shown_all, i_exc_NoSet, i__law_set, i__law_due, i_read, i_read_all, i__law_whole, i__law_reads, i__law_text], gss, blts⟩) (fuel := fuel) (T := tab K) (Φ := p_law) rfl F10 (by decide +kernel) (by decide +kernel) (by decide) c_law hb hs h12.2
end K05
open PySem PySem.W PySem.Calls PyProof.Rows
theorem K05.holds (aim : K05.Aim) : PySem.Challenge.rw_basehouse_k05_sets_written.Holds := by
  w_on; o_law
  refine HandSHeadRun.head_any (r := OpenLaw.row PySem.Challenge.rw_basehouse_k05_sets_written) (q := view (OpenLaw.row PySem.Challenge.rw_basehouse_k05_sets_written).prog [17]) (H := K05.hk) (ob := K05.ob) (M := 3300) (loose := K05.loose) (d := HandSHeadRun.topDef (OpenLaw.row PySem.Challenge.rw_basehouse_k05_sets_written).prog 17) (kwd := []) K05.ob_eq
    (by kernel_rfl) (fun s => by kernel_rfl) K05.run (by kernel_rfl) (by kernel_rfl) (by kernel_rfl) (by rfl) (by first | assumption | decide +kernel) (by decide +kernel) ⟨rfl, rfl, rfl, rfl, rfl, by decide +kernel⟩ ?hw ?hc
  case hw => w_witness2
  case hc =>
    refine Ev.walk_ofEB (l := PySem.Challenge.rw_basehouse_k05_sets_written) (n := 63) (k := 11) (x := "_law_script") (CX := L2.CX0) rfl (by decide) (by kernel_rfl) ⟨rfl, by decide, by decide⟩ ?F (fun _ _ _ _ z => z)
    intro w mg fa h Y G hmg0
    obtain ⟨K, KX, c⟩ := Y
    have hmg : mg ("law" : PySem.Str) = some (.ref fa) := by
      have e : (HandSHeadRun.topDef (OpenLaw.row PySem.Challenge.rw_basehouse_k05_sets_written).prog 17).name = ("law" : PySem.Str) := by kernel_rfl
      rw [← e]
      exact hmg0
    obtain ⟨fd, hb, hF⟩ := K05.facts aim (P := (PySem.Challenge.rw_basehouse_k05_sets_written).prog) (w := w) KX G hmg c
    exact ⟨K, fd, _, KX, hb, fun H a ns hl hz hS => Ev.law_sp rfl (Ev.noTbs_ok H) hS (aim ns hl hz), hF⟩

set_option maxHeartbeats 2000000
namespace K05
open Ev PySem PySem.Spec PyProof.Rows L2
/-! ### texts -/
theorem forL_go {t : Tg} {b : Ev → Ev.R (Ev × Fl)} {d : D} {ds : List D} {env e2 : Ev} (h : (bindT t d env).bind b = .ok (e2, .nx)) : forL t b (d :: ds) env = forL t b ds e2 := by
  show (bindT t d env).bind _ = _
  cases e : bindT t d env with
  | bad => rw [e] at h; cases h
  | exc c fs => rw [e] at h; cases h
  | ok e1 =>
    rw [e, R.bind_ok] at h
    rw [R.bind_ok, h]
    rfl
theorem forL_stop {t : Tg} {b : Ev → Ev.R (Ev × Fl)} {d x : D} {ds : List D} {env e2 : Ev} (h : (bindT t d env).bind b = .ok (e2, .ret x)) : forL t b (d :: ds) env = .ok (e2, .ret x) := by
  show (bindT t d env).bind _ = _
  cases e : bindT t d env with
  | bad => rw [e] at h; cases h
  | exc c fs => rw [e] at h; cases h
  | ok e1 =>
    rw [e, R.bind_ok] at h
    rw [R.bind_ok, h]
    rfl
theorem forL_exc {t : Tg} {b : Ev → Ev.R (Ev × Fl)} {d : D} {ds : List D} {env : Ev} {c : Nat} {fs : List D} (h : (bindT t d env).bind b = .exc c fs) : forL t b (d :: ds) env = .exc c fs := by
  show (bindT t d env).bind _ = _
  cases e : bindT t d env with
  | bad => rw [e] at h; cases h
  | exc c fs => rw [e] at h; cases h; rfl
  | ok e1 =>
    rw [e, R.bind_ok] at h
    rw [R.bind_ok, h]
    rfl
abbrev sg (c : Nat) : Str := ⟨#[c]⟩
abbrev ch (z : Str) : List Nat := z.cps.toList
theorem ch_len (z : Str) : (ch z).length = z.length := Array.length_toList
/-- signs below 128 -/
def Asc (z : Str) : Prop := ∀ c ∈ ch z, c < 128
theorem sub_str (S : Str) (k : Nat) (h : k < (ch S).length) (hl : S.length ≤ 16777216) : subD (.str S) (.int (k : Nat)) = .ok (.str (sg ((ch S)[k]))) := by
  show (if S.length ≤ 16777216 then ofO ((L2.atI (ch S) (k : Int)).map fun c => D.str ⟨#[c]⟩) else .bad) = _
  rw [if_pos hl, atI_nat _ _ h]
  rfl
theorem eq_str (a b : Str) : eqD (.str a) (.str b) = .ok (decide (a = b)) := by rfl
theorem sg_eq (a b : Nat) : decide (sg a = sg b) = decide (a = b) := decide_eq_decide.mpr ⟨fun h => by injection h with h; injection h with h; injection h, fun h => by rw [h]⟩
theorem asc_add {x y : Str} (hx : Asc x) (hy : Asc y) : Asc (x ++ y) := fun c hc => by
  have e : ch (x ++ y) = ch x ++ ch y := by show (x.cps ++ y.cps).toList = _; rw [Array.toList_append]
  rw [e] at hc
  rcases List.mem_append.mp hc with h | h
  · exact hx c h
  · exact hy c h
theorem len_add (x y : Str) : (x ++ y).length = x.length + y.length := by show (x.cps ++ y.cps).size = _; rw [Array.size_append]; rfl
theorem asc_cut {z : Str} (hz : Asc z) (lo hi : Option Int) : Asc (cutS z lo hi) := fun c hc => by
  have hc : c ∈ ((z.cps.toList.drop (HT.sIx z.length 0 lo)).take (HT.sIx z.length z.length hi - HT.sIx z.length 0 lo)) := hc
  exact hz c (List.mem_of_mem_drop (List.mem_of_mem_take hc))
theorem asc_sg {c : Nat} (h : c < 128) : Asc (sg c) := fun d hd => by
  have : d ∈ [c] := hd
  rw [List.mem_singleton.mp this]
  exact h
theorem slice_str (z : Str) (lo hi : Option Int) (h : z.length ≤ 16777216) : sliceD lo hi (.str z) = .ok (.str (cutS z lo hi)) := if_pos h
theorem add_str (x y : Str) (h : x.length + y.length ≤ 16777216) : addD (.str x) (.str y) = .ok (.str (x ++ y)) := if_pos h
theorem len_str (z : Str) (h : z.length ≤ 16777216) : lenD [.str z] = .ok (.int (z.length : Nat)) := if_pos h
theorem chars_ok (z : Str) : charsD (.str z) = .ok ((ch z).map fun c => D.str (sg c)) := rfl
/-! ### the letters -/
abbrev LT : Str := ("abcdefgh" : Str)
theorem lt_at (i : Nat) (h : i < 8) : subD (.str LT) (.int (i : Nat)) = .ok (.str (sg (97 + i))) := by
  have e : ch LT = [97, 98, 99, 100, 101, 102, 103, 104] := by decide +kernel
  rw [sub_str LT i (by rw [e]; exact h) (by decide +kernel)]
  have g : ∀ k : Fin 8, (ch LT)[k.val]? = some (97 + k.val) := by decide +kernel
  have g := g ⟨i, h⟩
  rw [List.getElem?_eq_getElem (by rw [e]; exact h)] at g
  injection g with g
  exact congrArg (fun c => Ev.R.ok (D.str (sg c))) g
def aI (c i : Nat) : Int := if 97 ≤ c ∧ c < 97 + i then ((c - 97 : Nat) : Int) else -1
def bI (c i : Nat) : Nat := if 97 ≤ c ∧ c < 97 + i then 2 ^ (c - 97) else 2 ^ i
theorem find_all : (List.range 128).all (fun c => decide (Txt.find LT (sg c) = aI c 8)) = true := by decide +kernel
theorem find_ok {c : Nat} (h : c < 128) : txD .find [.str LT, .str (sg c)] = .ok (.int (aI c 8)) := by
  show R.ok (D.int (Txt.find LT (sg c))) = _
  rw [of_decide_eq_true (all_range (n := 128) (p := fun c => decide (Txt.find LT (sg c) = aI c 8)) find_all c h)]
def goS : List Nat → Nat → Int → Option Nat
  | [], t, _ => some t
  | c :: r, t, l => if aI c 8 ≤ l then none else goS r (t + 2 ^ (aI c 8).toNat) (aI c 8)
theorem aI_lt (c : Nat) : aI c 8 < 8 := by unfold aI; split <;> omega
theorem rg8 : rangeD 0 8 = .ok ((List.range 8).map fun k : Nat => D.int (k : Nat)) := rangeD_nat (n := 8) (by decide)
theorem due_in (z : Str) (t l c : Nat) (tt ll : D) (o6 : Option D) : ∃ o6', forL (.one 6) (fun env => exs p__law_set fuel l__law_set_0 env) ((List.range 8).map fun k : Nat => D.int (k : Nat)) [some (.str z), some tt, some ll, some (.str (sg c)), some (.int (-1)), some (.int 1), o6] = .ok ([some (.str z), some tt, some ll, some (.str (sg c)), some (.int (aI c 8)), some (.int (bI c 8 : Nat)), o6'], .nx) := by
  have z0 : aI c 0 = -1 := if_neg (by omega)
  have z1 : bI c 0 = 1 := if_neg (by omega)
  have key := forL_cnt (t := .one 6) (b := fun env => exs p__law_set fuel l__law_set_0 env) (fun k : Nat => D.int (k : Nat)) (fun i env => ∃ o6, env = [some (.str z), some tt, some ll, some (.str (sg c)), some (.int (aI c i)), some (.int (bI c i : Nat)), o6]) (List.range 8) [some (.str z), some tt, some ll, some (.str (sg c)), some (.int (-1)), some (.int 1), o6] ⟨o6, by rw [z0, z1]; rfl⟩ (by
    rintro i env x hi hx ⟨o6, rfl⟩
    rw [List.length_range] at hi
    obtain ⟨_, hx⟩ := List.getElem?_eq_some_iff.mp hx
    rw [List.getElem_range] at hx
    subst hx
    have s1 := lt_at i hi
    have e1 := eq_str (sg (97 + i)) (sg c)
    rw [sg_eq] at e1
    unfold l__law_set_0 r__law_set_5
    by_cases e : 97 + i = c
    · rw [decide_eq_true e] at e1
      have a1 : aI c (i + 1) = (i : Nat) := by unfold aI; rw [if_pos (by omega)]; omega
      have b0 : bI c i = 2 ^ i := if_neg (by omega)
      have b1 : bI c (i + 1) = 2 ^ i := by unfold bI; rw [if_pos (by omega), show c - 97 = i by omega]
      have l0 : decide (((i : Nat) : Int) < 0) = false := decide_eq_false (by omega)
      simp -implicitDefEqProofs only [Ev.fnD, Ev.outO, Ev.run, Ev.exs, Ev.ex, Ev.evs, Ev.ev, Ev.evO, Ev.evC, Ev.evI, Ev.getV, Ev.R.bind_ok, Ev.R.bind_bad, Ev.bindT, Ev.bindMany, Ev.binD, Ev.augD, Ev.addI, Ev.subID, Ev.shrD, Ev.shlD, Ev.powD, Ev.andD, Ev.orD, Ev.xorD, Ev.cmpD, Ev.neD, Ev.ltD, Ev.leD, Ev.gtD, Ev.geD, Ev.truthD, Ev.D.asB, Ev.D.asI, Ev.isNonD, Ev.isiD, Ev.tagD, Ev.isTy, Ev.ofO, Ev.bfD, Ev.bmD, Option.bind_some, Option.bind_none, List.map_cons, List.map_nil, List.replicate_succ, List.replicate_zero, List.length_cons, List.length_nil, List.cons_append, List.nil_append, List.getElem?_cons_zero, List.getElem?_cons_succ, List.set_cons_zero, List.set_cons_succ, Ev.wipeE, Ev.rep1, Ev.rep2, Ev.rep3, Ev.rep4, Ev.evX, Ev.evXs, Ev.R.bind_exc, Ev.tryD, Ev.setO, Ev.raiseD, Ev.ofX_xc, Ev.ofX_nope, Ev.ofX_non, Ev.ofX_int, Ev.ofX_bl, Ev.ofX_str, Ev.ofX_lst, Ev.ofX_tup, Ev.ofX_obj, s1, e1, l0]
      exact nx ⟨_, by rw [a1, b1, b0]⟩
    · rw [decide_eq_false e] at e1
      by_cases h : 97 ≤ c ∧ c < 97 + i
      · have a0 : aI c i = ((c - 97 : Nat) : Int) := if_pos h
        have a1 : aI c (i + 1) = ((c - 97 : Nat) : Int) := if_pos (by omega)
        have b0 : bI c i = 2 ^ (c - 97) := if_pos h
        have b1 : bI c (i + 1) = 2 ^ (c - 97) := if_pos (by omega)
        have l0 : decide (aI c i < 0) = false := decide_eq_false (by rw [a0]; omega)
        simp -implicitDefEqProofs only [Ev.fnD, Ev.outO, Ev.run, Ev.exs, Ev.ex, Ev.evs, Ev.ev, Ev.evO, Ev.evC, Ev.evI, Ev.getV, Ev.R.bind_ok, Ev.R.bind_bad, Ev.bindT, Ev.bindMany, Ev.binD, Ev.augD, Ev.addI, Ev.subID, Ev.shrD, Ev.shlD, Ev.powD, Ev.andD, Ev.orD, Ev.xorD, Ev.cmpD, Ev.neD, Ev.ltD, Ev.leD, Ev.gtD, Ev.geD, Ev.truthD, Ev.D.asB, Ev.D.asI, Ev.isNonD, Ev.isiD, Ev.tagD, Ev.isTy, Ev.ofO, Ev.bfD, Ev.bmD, Option.bind_some, Option.bind_none, List.map_cons, List.map_nil, List.replicate_succ, List.replicate_zero, List.length_cons, List.length_nil, List.cons_append, List.nil_append, List.getElem?_cons_zero, List.getElem?_cons_succ, List.set_cons_zero, List.set_cons_succ, Ev.wipeE, Ev.rep1, Ev.rep2, Ev.rep3, Ev.rep4, Ev.evX, Ev.evXs, Ev.R.bind_exc, Ev.tryD, Ev.setO, Ev.raiseD, Ev.ofX_xc, Ev.ofX_nope, Ev.ofX_non, Ev.ofX_int, Ev.ofX_bl, Ev.ofX_str, Ev.ofX_lst, Ev.ofX_tup, Ev.ofX_obj, s1, e1, l0]
        exact nx ⟨_, by rw [a1, b1, a0, b0]⟩
      · have a0 : aI c i = -1 := if_neg h
        have a1 : aI c (i + 1) = -1 := if_neg (by omega)
        have b0 : bI c i = 2 ^ i := if_neg h
        have b1 : bI c (i + 1) = 2 ^ (i + 1) := if_neg (by omega)
        have l0 : decide (aI c i < 0) = true := decide_eq_true (by rw [a0]; omega)
        have m1 := mulR ((bI c i : Nat) : Int) (j := 2) (fits_of (by omega) (by omega))
        simp -implicitDefEqProofs only [Ev.fnD, Ev.outO, Ev.run, Ev.exs, Ev.ex, Ev.evs, Ev.ev, Ev.evO, Ev.evC, Ev.evI, Ev.getV, Ev.R.bind_ok, Ev.R.bind_bad, Ev.bindT, Ev.bindMany, Ev.binD, Ev.augD, Ev.addI, Ev.subID, Ev.shrD, Ev.shlD, Ev.powD, Ev.andD, Ev.orD, Ev.xorD, Ev.cmpD, Ev.neD, Ev.ltD, Ev.leD, Ev.gtD, Ev.geD, Ev.truthD, Ev.D.asB, Ev.D.asI, Ev.isNonD, Ev.isiD, Ev.tagD, Ev.isTy, Ev.ofO, Ev.bfD, Ev.bmD, Option.bind_some, Option.bind_none, List.map_cons, List.map_nil, List.replicate_succ, List.replicate_zero, List.length_cons, List.length_nil, List.cons_append, List.nil_append, List.getElem?_cons_zero, List.getElem?_cons_succ, List.set_cons_zero, List.set_cons_succ, Ev.wipeE, Ev.rep1, Ev.rep2, Ev.rep3, Ev.rep4, Ev.evX, Ev.evXs, Ev.R.bind_exc, Ev.tryD, Ev.setO, Ev.raiseD, Ev.ofX_xc, Ev.ofX_nope, Ev.ofX_non, Ev.ofX_int, Ev.ofX_bl, Ev.ofX_str, Ev.ofX_lst, Ev.ofX_tup, Ev.ofX_obj, s1, e1, l0, m1]
        exact nx ⟨_, by
          have : ((bI c i : Nat) : Int) * 2 = ((bI c (i + 1) : Nat) : Int) := by rw [b0, b1, Nat.pow_succ]; omega
          rw [a1, a0, this]⟩)
  obtain ⟨e1, h1, o6', rfl⟩ := key
  exact ⟨o6', h1⟩
theorem due_loop (z : Str) : ∀ (L : List Nat) (t : Nat) (l : Int) (o3 o4 o5 o6 : Option D), -1 ≤ l →
    (goS L t l = none → Rets (forL (.one 3) (fun env => exs p__law_set fuel l__law_set_1 env) (L.map fun c => D.str (sg c)) [some (.str z), some (.int (t : Nat)), some (.int l), o3, o4, o5, o6]) .non) ∧
    ∀ t', goS L t l = some t' → Nx (forL (.one 3) (fun env => exs p__law_set fuel l__law_set_1 env) (L.map fun c => D.str (sg c)) [some (.str z), some (.int (t : Nat)), some (.int l), o3, o4, o5, o6]) fun env => ∃ o2 o3 o4 o5 o6, env = [some (.str z), some (.int (t' : Nat)), o2, o3, o4, o5, o6]
  | [], t, l, o3, o4, o5, o6, hl => ⟨(fun h => by cases h), fun t' h => by
    cases h
    exact nx ⟨_, _, _, _, _, rfl⟩⟩
  | c :: L, t, l, o3, o4, o5, o6, hl => by
    obtain ⟨o6', h6⟩ := due_in z 0 0 c (.int (t : Nat)) (.int l) o6
    unfold goS
    by_cases h : aI c 8 ≤ l
    · rw [if_pos h]
      refine ⟨fun _ => ?_, fun t' z => by cases z⟩
      rw [List.map_cons]
      have l1 : leD (.int (aI c 8)) (.int l) = .ok true := by
        show R.ok (decide (aI c 8 ≤ l)) = _
        rw [decide_eq_true h]
      have st : (bindT (.one 3) (D.str (sg c)) [some (.str z), some (.int (t : Nat)), some (.int l), o3, o4, o5, o6]).bind (fun env => exs p__law_set fuel l__law_set_1 env) = .ok ([some (.str z), some (.int (t : Nat)), some (.int l), some (.str (sg c)), some (.int (aI c 8)), some (.int (bI c 8 : Nat)), o6'], .ret .non) := by
        unfold l__law_set_1
        simp -implicitDefEqProofs only [Ev.fnD, Ev.outO, Ev.run, Ev.exs, Ev.ex, Ev.evs, Ev.ev, Ev.evO, Ev.evC, Ev.evI, Ev.getV, Ev.R.bind_ok, Ev.R.bind_bad, Ev.bindT, Ev.bindMany, Ev.binD, Ev.augD, Ev.addI, Ev.subID, Ev.shrD, Ev.shlD, Ev.powD, Ev.andD, Ev.orD, Ev.xorD, Ev.cmpD, Ev.neD, Ev.ltD, Ev.leD, Ev.gtD, Ev.geD, Ev.truthD, Ev.D.asB, Ev.D.asI, Ev.isNonD, Ev.isiD, Ev.tagD, Ev.isTy, Ev.ofO, Ev.bfD, Ev.bmD, Option.bind_some, Option.bind_none, List.map_cons, List.map_nil, List.replicate_succ, List.replicate_zero, List.length_cons, List.length_nil, List.cons_append, List.nil_append, List.getElem?_cons_zero, List.getElem?_cons_succ, List.set_cons_zero, List.set_cons_succ, Ev.wipeE, Ev.rep1, Ev.rep2, Ev.rep3, Ev.rep4, Ev.evX, Ev.evXs, Ev.R.bind_exc, Ev.tryD, Ev.setO, Ev.raiseD, Ev.ofX_xc, Ev.ofX_nope, Ev.ofX_non, Ev.ofX_int, Ev.ofX_bl, Ev.ofX_str, Ev.ofX_lst, Ev.ofX_tup, Ev.ofX_obj, rg8, h6, decide_eq_true h]
      rw [forL_stop st]
      exact rets _ _
    · rw [if_neg h]
      rw [List.map_cons]
      have a0 : 97 ≤ c ∧ c < 97 + 8 := Classical.byContradiction fun w => h (by
        have : aI c 8 = -1 := if_neg w
        omega)
      have b1 : bI c 8 = 2 ^ (aI c 8).toNat := by
        unfold bI aI
        rw [if_pos a0, if_pos a0]
        rfl
      have st : (bindT (.one 3) (D.str (sg c)) [some (.str z), some (.int (t : Nat)), some (.int l), o3, o4, o5, o6]).bind (fun env => exs p__law_set fuel l__law_set_1 env) = .ok ([some (.str z), some (.int ((t + 2 ^ (aI c 8).toNat : Nat) : Int)), some (.int (aI c 8)), some (.str (sg c)), some (.int (aI c 8)), some (.int (bI c 8 : Nat)), o6'], .nx) := by
        have ea : (t : Int) + ((bI c 8 : Nat) : Int) = ((t + 2 ^ (aI c 8).toNat : Nat) : Int) := by rw [b1]; omega
        unfold l__law_set_1 r__law_set_4
        simp -implicitDefEqProofs only [Ev.fnD, Ev.outO, Ev.run, Ev.exs, Ev.ex, Ev.evs, Ev.ev, Ev.evO, Ev.evC, Ev.evI, Ev.getV, Ev.R.bind_ok, Ev.R.bind_bad, Ev.bindT, Ev.bindMany, Ev.binD, Ev.augD, Ev.addI, Ev.subID, Ev.shrD, Ev.shlD, Ev.powD, Ev.andD, Ev.orD, Ev.xorD, Ev.cmpD, Ev.neD, Ev.ltD, Ev.leD, Ev.gtD, Ev.geD, Ev.truthD, Ev.D.asB, Ev.D.asI, Ev.isNonD, Ev.isiD, Ev.tagD, Ev.isTy, Ev.ofO, Ev.bfD, Ev.bmD, Option.bind_some, Option.bind_none, List.map_cons, List.map_nil, List.replicate_succ, List.replicate_zero, List.length_cons, List.length_nil, List.cons_append, List.nil_append, List.getElem?_cons_zero, List.getElem?_cons_succ, List.set_cons_zero, List.set_cons_succ, Ev.wipeE, Ev.rep1, Ev.rep2, Ev.rep3, Ev.rep4, Ev.evX, Ev.evXs, Ev.R.bind_exc, Ev.tryD, Ev.setO, Ev.raiseD, Ev.ofX_xc, Ev.ofX_nope, Ev.ofX_non, Ev.ofX_int, Ev.ofX_bl, Ev.ofX_str, Ev.ofX_lst, Ev.ofX_tup, Ev.ofX_obj, rg8, h6, decide_eq_false h, ea]
      rw [forL_go st]
      exact due_loop z L _ _ _ _ _ _ (by unfold aI; rw [if_pos a0]; omega)
theorem raise_ok : raiseD (α := Ev × Fl) (f_rse_NoSet []) = .exc 0 [.exv 0 []] := rfl
theorem read_loop (z : Str) : ∀ (L : List Nat) (t : Nat) (l : Int) (o3 o4 : Option D), (∀ c ∈ L, c < 128) → -1 ≤ l → t < 2 ^ (l + 1).toNat →
    (goS L t l = none → forL (.one 3) (fun env => exs p_read fuel l_read_0 env) (L.map fun c => D.str (sg c)) [some (.str z), some (.int (t : Nat)), some (.int l), o3, o4] = .exc 0 [.exv 0 []]) ∧
    ∀ t', goS L t l = some t' → Nx (forL (.one 3) (fun env => exs p_read fuel l_read_0 env) (L.map fun c => D.str (sg c)) [some (.str z), some (.int (t : Nat)), some (.int l), o3, o4]) fun env => ∃ o2 o3 o4, env = [some (.str z), some (.int (t' : Nat)), o2, o3, o4]
  | [], t, l, o3, o4, _, hl, _ => ⟨(fun h => by cases h), fun t' h => by
    cases h
    exact nx ⟨_, _, _, rfl⟩⟩
  | c :: L, t, l, o3, o4, hc, hl, ht => by
    have f1 := find_ok (hc c List.mem_cons_self)
    unfold goS
    by_cases h : aI c 8 ≤ l
    · rw [if_pos h]
      refine ⟨fun _ => ?_, fun t' z => by cases z⟩
      rw [List.map_cons]
      refine forL_exc ?_
      unfold l_read_0
      simp -implicitDefEqProofs only [Ev.fnD, Ev.outO, Ev.run, Ev.exs, Ev.ex, Ev.evs, Ev.ev, Ev.evO, Ev.evC, Ev.evI, Ev.getV, Ev.R.bind_ok, Ev.R.bind_bad, Ev.bindT, Ev.bindMany, Ev.binD, Ev.augD, Ev.addI, Ev.subID, Ev.shrD, Ev.shlD, Ev.powD, Ev.andD, Ev.orD, Ev.xorD, Ev.cmpD, Ev.neD, Ev.ltD, Ev.leD, Ev.gtD, Ev.geD, Ev.truthD, Ev.D.asB, Ev.D.asI, Ev.isNonD, Ev.isiD, Ev.tagD, Ev.isTy, Ev.ofO, Ev.bfD, Ev.bmD, Option.bind_some, Option.bind_none, List.map_cons, List.map_nil, List.replicate_succ, List.replicate_zero, List.length_cons, List.length_nil, List.cons_append, List.nil_append, List.getElem?_cons_zero, List.getElem?_cons_succ, List.set_cons_zero, List.set_cons_succ, Ev.wipeE, Ev.rep1, Ev.rep2, Ev.rep3, Ev.rep4, Ev.evX, Ev.evXs, Ev.R.bind_exc, Ev.tryD, Ev.setO, Ev.raiseD, Ev.ofX_xc, Ev.ofX_nope, Ev.ofX_non, Ev.ofX_int, Ev.ofX_bl, Ev.ofX_str, Ev.ofX_lst, Ev.ofX_tup, Ev.ofX_obj, f1, decide_eq_true h, pp_read]
      exact raise_ok
    · rw [if_neg h]
      rw [List.map_cons]
      have a0 : 97 ≤ c ∧ c < 97 + 8 := Classical.byContradiction fun w => h (by
        have : aI c 8 = -1 := if_neg w
        omega)
      have a1 : aI c 8 = ((c - 97 : Nat) : Int) := if_pos a0
      have sh := shl_ok (c - 97) (by omega)
      rw [← a1] at sh
      have lt : t < 2 ^ (c - 97) := Nat.lt_of_lt_of_le ht (Nat.pow_le_pow_right (by omega) (by omega))
      have bo : Builtin.bitOr (t : Int) ((2 ^ (c - 97) : Nat) : Int) = ((t + 2 ^ (aI c 8).toNat : Nat) : Int) := by
        have e := Nat.two_pow_add_eq_or_of_lt lt 1
        rw [Nat.mul_one] at e
        rw [bitOr_nat, a1, Int.toNat_natCast, Nat.or_comm, ← e, Nat.add_comm]
      have st : (bindT (.one 3) (D.str (sg c)) [some (.str z), some (.int (t : Nat)), some (.int l), o3, o4]).bind (fun env => exs p_read fuel l_read_0 env) = .ok ([some (.str z), some (.int ((t + 2 ^ (aI c 8).toNat : Nat) : Int)), some (.int (aI c 8)), some (.str (sg c)), some (.int (aI c 8))], .nx) := by
        unfold l_read_0 r_read_3
        simp -implicitDefEqProofs only [Ev.fnD, Ev.outO, Ev.run, Ev.exs, Ev.ex, Ev.evs, Ev.ev, Ev.evO, Ev.evC, Ev.evI, Ev.getV, Ev.R.bind_ok, Ev.R.bind_bad, Ev.bindT, Ev.bindMany, Ev.binD, Ev.augD, Ev.addI, Ev.subID, Ev.andD, Ev.orD, Ev.xorD, Ev.cmpD, Ev.neD, Ev.ltD, Ev.leD, Ev.gtD, Ev.geD, Ev.truthD, Ev.D.asB, Ev.D.asI, Ev.isNonD, Ev.isiD, Ev.tagD, Ev.isTy, Ev.ofO, Ev.bfD, Ev.bmD, Option.bind_some, Option.bind_none, List.map_cons, List.map_nil, List.replicate_succ, List.replicate_zero, List.length_cons, List.length_nil, List.cons_append, List.nil_append, List.getElem?_cons_zero, List.getElem?_cons_succ, List.set_cons_zero, List.set_cons_succ, Ev.wipeE, Ev.rep1, Ev.rep2, Ev.rep3, Ev.rep4, Ev.evX, Ev.evXs, Ev.R.bind_exc, Ev.tryD, Ev.setO, Ev.raiseD, Ev.ofX_xc, Ev.ofX_nope, Ev.ofX_non, Ev.ofX_int, Ev.ofX_bl, Ev.ofX_str, Ev.ofX_lst, Ev.ofX_tup, Ev.ofX_obj, f1, decide_eq_false h, sh, bo]
      rw [forL_go st]
      refine read_loop z L _ _ _ _ (fun d hd => hc d (List.mem_cons_of_mem _ hd)) (by rw [a1]; omega) ?_
      rw [a1, Int.toNat_natCast, show ((((c - 97 : Nat) : Int)) + 1).toNat = (c - 97) + 1 by omega, Nat.pow_succ]
      omega
end K05

set_option maxHeartbeats 2000000
namespace K05
open Ev PySem PySem.Spec PyProof.Rows L2
/-! ### what is written, what is read -/
def due (z : Str) : Option Nat := if z = ("-" : Str) then some 0 else if ch z = [] then none else goS (ch z) 0 (-1)
theorem goS_pos : ∀ (L : List Nat) (t : Nat) (l : Int) (t' : Nat), goS L t l = some t' → t ≤ t' ∧ (L ≠ [] → 0 < t')
  | [], t, l, t', h => by cases h; exact ⟨Nat.le_refl _, fun z => absurd rfl z⟩
  | c :: L, t, l, t', h => by
    unfold goS at h
    split at h
    · cases h
    · have := (goS_pos L _ _ _ h).1
      have p := Nat.two_pow_pos (aI c 8).toNat
      exact ⟨by omega, fun _ => by omega⟩
theorem due_ok (z : Str) : f__law_set [.str z] = some (match due z with | none => D.non | some t => D.int (t : Nat)) := by
  refine fr__law_set ?_
  have e1 := eq_str z ("-" : Str)
  unfold b__law_set due
  by_cases h : z = ("-" : Str)
  · rw [decide_eq_true h] at e1
    rw [if_pos h]
    simp -implicitDefEqProofs only [Ev.fnD, Ev.outO, Ev.run, Ev.exs, Ev.ex, Ev.evs, Ev.ev, Ev.evO, Ev.evC, Ev.evI, Ev.getV, Ev.R.bind_ok, Ev.R.bind_bad, Ev.bindT, Ev.bindMany, Ev.binD, Ev.augD, Ev.addI, Ev.subID, Ev.shrD, Ev.shlD, Ev.powD, Ev.andD, Ev.orD, Ev.xorD, Ev.cmpD, Ev.neD, Ev.ltD, Ev.leD, Ev.gtD, Ev.geD, Ev.truthD, Ev.D.asB, Ev.D.asI, Ev.isNonD, Ev.isiD, Ev.tagD, Ev.isTy, Ev.ofO, Ev.bfD, Ev.bmD, Option.bind_some, Option.bind_none, List.map_cons, List.map_nil, List.replicate_succ, List.replicate_zero, List.length_cons, List.length_nil, List.cons_append, List.nil_append, List.getElem?_cons_zero, List.getElem?_cons_succ, List.set_cons_zero, List.set_cons_succ, Ev.wipeE, Ev.rep1, Ev.rep2, Ev.rep3, Ev.rep4, Ev.evX, Ev.evXs, Ev.R.bind_exc, Ev.tryD, Ev.setO, Ev.raiseD, Ev.ofX_xc, Ev.ofX_nope, Ev.ofX_non, Ev.ofX_int, Ev.ofX_bl, Ev.ofX_str, Ev.ofX_lst, Ev.ofX_tup, Ev.ofX_obj, e1]
    exact rets _ _
  · rw [decide_eq_false h] at e1
    rw [if_neg h]
    obtain ⟨k1, k2⟩ := due_loop z (ch z) 0 (-1) none none none none (Int.le_refl _)
    have k1 : goS (ch z) 0 (-1) = none → Rets (forL (.one 3) (fun env => exs p__law_set fuel l__law_set_1 env) ((ch z).map fun c => D.str (sg c)) [some (.str z), some (.int 0), some (.int (-1)), none, none, none, none]) .non := k1
    have k2 : ∀ t', goS (ch z) 0 (-1) = some t' → Nx (forL (.one 3) (fun env => exs p__law_set fuel l__law_set_1 env) ((ch z).map fun c => D.str (sg c)) [some (.str z), some (.int 0), some (.int (-1)), none, none, none, none]) fun env => ∃ o2 o3 o4 o5 o6, env = [some (.str z), some (.int (t' : Nat)), o2, o3, o4, o5, o6] := k2
    unfold r__law_set_2 r__law_set_3
    by_cases e : ch z = []
    · rw [if_pos e]
      obtain ⟨e1', h1, o2, o3, o4, o5, o6, rfl⟩ := k2 0 (by rw [e]; rfl)
      have e0 : eqD (.int ((0 : Nat) : Int)) (.int 0) = .ok true := rfl
      simp -implicitDefEqProofs only [Ev.fnD, Ev.outO, Ev.run, Ev.exs, Ev.ex, Ev.evs, Ev.ev, Ev.evO, Ev.evC, Ev.evI, Ev.getV, Ev.R.bind_ok, Ev.R.bind_bad, Ev.bindT, Ev.bindMany, Ev.binD, Ev.augD, Ev.addI, Ev.subID, Ev.shrD, Ev.shlD, Ev.powD, Ev.andD, Ev.orD, Ev.xorD, Ev.cmpD, Ev.neD, Ev.ltD, Ev.leD, Ev.gtD, Ev.geD, Ev.truthD, Ev.D.asB, Ev.D.asI, Ev.isNonD, Ev.isiD, Ev.tagD, Ev.isTy, Ev.ofO, Ev.bfD, Ev.bmD, Option.bind_some, Option.bind_none, List.map_cons, List.map_nil, List.replicate_succ, List.replicate_zero, List.length_cons, List.length_nil, List.cons_append, List.nil_append, List.getElem?_cons_zero, List.getElem?_cons_succ, List.set_cons_zero, List.set_cons_succ, Ev.wipeE, Ev.rep1, Ev.rep2, Ev.rep3, Ev.rep4, Ev.evX, Ev.evXs, Ev.R.bind_exc, Ev.tryD, Ev.setO, Ev.raiseD, Ev.ofX_xc, Ev.ofX_nope, Ev.ofX_non, Ev.ofX_int, Ev.ofX_bl, Ev.ofX_str, Ev.ofX_lst, Ev.ofX_tup, Ev.ofX_obj, e1, chars_ok, h1, e0]
      exact rets _ _
    · rw [if_neg e]
      cases g : goS (ch z) 0 (-1) with
      | none =>
        obtain ⟨e2, h1⟩ := k1 g
        simp -implicitDefEqProofs only [Ev.fnD, Ev.outO, Ev.run, Ev.exs, Ev.ex, Ev.evs, Ev.ev, Ev.evO, Ev.evC, Ev.evI, Ev.getV, Ev.R.bind_ok, Ev.R.bind_bad, Ev.bindT, Ev.bindMany, Ev.binD, Ev.augD, Ev.addI, Ev.subID, Ev.shrD, Ev.shlD, Ev.powD, Ev.andD, Ev.orD, Ev.xorD, Ev.cmpD, Ev.neD, Ev.ltD, Ev.leD, Ev.gtD, Ev.geD, Ev.truthD, Ev.D.asB, Ev.D.asI, Ev.isNonD, Ev.isiD, Ev.tagD, Ev.isTy, Ev.ofO, Ev.bfD, Ev.bmD, Option.bind_some, Option.bind_none, List.map_cons, List.map_nil, List.replicate_succ, List.replicate_zero, List.length_cons, List.length_nil, List.cons_append, List.nil_append, List.getElem?_cons_zero, List.getElem?_cons_succ, List.set_cons_zero, List.set_cons_succ, Ev.wipeE, Ev.rep1, Ev.rep2, Ev.rep3, Ev.rep4, Ev.evX, Ev.evXs, Ev.R.bind_exc, Ev.tryD, Ev.setO, Ev.raiseD, Ev.ofX_xc, Ev.ofX_nope, Ev.ofX_non, Ev.ofX_int, Ev.ofX_bl, Ev.ofX_str, Ev.ofX_lst, Ev.ofX_tup, Ev.ofX_obj, e1, chars_ok, h1]
        exact rets _ _
      | some t =>
        obtain ⟨e2, h1, o2, o3, o4, o5, o6, rfl⟩ := k2 t g
        have tp := (goS_pos _ _ _ _ g).2 e
        have e0 : eqD (.int (t : Nat)) (.int 0) = .ok false := by rw [eqI, decide_eq_false (by omega)]
        simp -implicitDefEqProofs only [Ev.fnD, Ev.outO, Ev.run, Ev.exs, Ev.ex, Ev.evs, Ev.ev, Ev.evO, Ev.evC, Ev.evI, Ev.getV, Ev.R.bind_ok, Ev.R.bind_bad, Ev.bindT, Ev.bindMany, Ev.binD, Ev.augD, Ev.addI, Ev.subID, Ev.shrD, Ev.shlD, Ev.powD, Ev.andD, Ev.orD, Ev.xorD, Ev.cmpD, Ev.neD, Ev.ltD, Ev.leD, Ev.gtD, Ev.geD, Ev.truthD, Ev.D.asB, Ev.D.asI, Ev.isNonD, Ev.isiD, Ev.tagD, Ev.isTy, Ev.ofO, Ev.bfD, Ev.bmD, Option.bind_some, Option.bind_none, List.map_cons, List.map_nil, List.replicate_succ, List.replicate_zero, List.length_cons, List.length_nil, List.cons_append, List.nil_append, List.getElem?_cons_zero, List.getElem?_cons_succ, List.set_cons_zero, List.set_cons_succ, Ev.wipeE, Ev.rep1, Ev.rep2, Ev.rep3, Ev.rep4, Ev.evX, Ev.evXs, Ev.R.bind_exc, Ev.tryD, Ev.setO, Ev.raiseD, Ev.ofX_xc, Ev.ofX_nope, Ev.ofX_non, Ev.ofX_int, Ev.ofX_bl, Ev.ofX_str, Ev.ofX_lst, Ev.ofX_tup, Ev.ofX_obj, e1, chars_ok, h1, e0]
        exact rets _ _
theorem nil_str (z : Str) : z = ("" : Str) ↔ ch z = [] := by
  have e : ch ("" : Str) = [] := by decide +kernel
  constructor
  · intro h; rw [h, e]
  · intro h
    have : z.cps = ("" : Str).cps := Array.toList_inj.mp (h.trans e.symm)
    cases z
    exact congrArg Str.mk this
theorem read_ok {z : Str} (hz : Asc z) : f_read [.str z] = some (match due z with | none => D.xc 0 [.exv 0 []] | some t => D.int (t : Nat)) := by
  have e1 := eq_str z ("-" : Str)
  have e2 := eq_str z ("" : Str)
  rw [decide_eq_decide.mpr (nil_str z)] at e2
  unfold due
  by_cases h : z = ("-" : Str)
  · rw [decide_eq_true h] at e1
    rw [if_pos h]
    refine fr_read ?_ rfl
    unfold b_read
    simp -implicitDefEqProofs only [Ev.fnD, Ev.outO, Ev.run, Ev.exs, Ev.ex, Ev.evs, Ev.ev, Ev.evO, Ev.evC, Ev.evI, Ev.getV, Ev.R.bind_ok, Ev.R.bind_bad, Ev.bindT, Ev.bindMany, Ev.binD, Ev.augD, Ev.addI, Ev.subID, Ev.shrD, Ev.shlD, Ev.powD, Ev.andD, Ev.orD, Ev.xorD, Ev.cmpD, Ev.neD, Ev.ltD, Ev.leD, Ev.gtD, Ev.geD, Ev.truthD, Ev.D.asB, Ev.D.asI, Ev.isNonD, Ev.isiD, Ev.tagD, Ev.isTy, Ev.ofO, Ev.bfD, Ev.bmD, Option.bind_some, Option.bind_none, List.map_cons, List.map_nil, List.replicate_succ, List.replicate_zero, List.length_cons, List.length_nil, List.cons_append, List.nil_append, List.getElem?_cons_zero, List.getElem?_cons_succ, List.set_cons_zero, List.set_cons_succ, Ev.wipeE, Ev.rep1, Ev.rep2, Ev.rep3, Ev.rep4, Ev.evX, Ev.evXs, Ev.R.bind_exc, Ev.tryD, Ev.setO, Ev.raiseD, Ev.ofX_xc, Ev.ofX_nope, Ev.ofX_non, Ev.ofX_int, Ev.ofX_bl, Ev.ofX_str, Ev.ofX_lst, Ev.ofX_tup, Ev.ofX_obj, e1]
    exact rets _ _
  · rw [decide_eq_false h] at e1
    rw [if_neg h]
    by_cases e : ch z = []
    · rw [if_pos e]
      rw [decide_eq_true e] at e2
      refine fx_read ?_
      unfold b_read r_read_1
      simp -implicitDefEqProofs only [Ev.fnD, Ev.outO, Ev.run, Ev.exs, Ev.ex, Ev.evs, Ev.ev, Ev.evO, Ev.evC, Ev.evI, Ev.getV, Ev.R.bind_ok, Ev.R.bind_bad, Ev.bindT, Ev.bindMany, Ev.binD, Ev.augD, Ev.addI, Ev.subID, Ev.shrD, Ev.shlD, Ev.powD, Ev.andD, Ev.orD, Ev.xorD, Ev.cmpD, Ev.neD, Ev.ltD, Ev.leD, Ev.gtD, Ev.geD, Ev.truthD, Ev.D.asB, Ev.D.asI, Ev.isNonD, Ev.isiD, Ev.tagD, Ev.isTy, Ev.ofO, Ev.bfD, Ev.bmD, Option.bind_some, Option.bind_none, List.map_cons, List.map_nil, List.replicate_succ, List.replicate_zero, List.length_cons, List.length_nil, List.cons_append, List.nil_append, List.getElem?_cons_zero, List.getElem?_cons_succ, List.set_cons_zero, List.set_cons_succ, Ev.wipeE, Ev.rep1, Ev.rep2, Ev.rep3, Ev.rep4, Ev.evX, Ev.evXs, Ev.R.bind_exc, Ev.tryD, Ev.setO, Ev.raiseD, Ev.ofX_xc, Ev.ofX_nope, Ev.ofX_non, Ev.ofX_int, Ev.ofX_bl, Ev.ofX_str, Ev.ofX_lst, Ev.ofX_tup, Ev.ofX_obj, e1, e2, pp_read]
      rfl
    · rw [if_neg e]
      rw [decide_eq_false e] at e2
      obtain ⟨k1, k2⟩ := read_loop z (ch z) 0 (-1) none none hz (Int.le_refl _) (by decide)
      have k1 : goS (ch z) 0 (-1) = none → forL (.one 3) (fun env => exs p_read fuel l_read_0 env) ((ch z).map fun c => D.str (sg c)) [some (.str z), some (.int 0), some (.int (-1)), none, none] = .exc 0 [.exv 0 []] := k1
      have k2 : ∀ t', goS (ch z) 0 (-1) = some t' → Nx (forL (.one 3) (fun env => exs p_read fuel l_read_0 env) ((ch z).map fun c => D.str (sg c)) [some (.str z), some (.int 0), some (.int (-1)), none, none]) fun env => ∃ o2 o3 o4, env = [some (.str z), some (.int (t' : Nat)), o2, o3, o4] := k2
      cases g : goS (ch z) 0 (-1) with
      | none =>
        have k1 := k1 g
        refine fx_read ?_
        unfold b_read r_read_1 r_read_2
        simp -implicitDefEqProofs only [Ev.fnD, Ev.outO, Ev.run, Ev.exs, Ev.ex, Ev.evs, Ev.ev, Ev.evO, Ev.evC, Ev.evI, Ev.getV, Ev.R.bind_ok, Ev.R.bind_bad, Ev.bindT, Ev.bindMany, Ev.binD, Ev.augD, Ev.addI, Ev.subID, Ev.shrD, Ev.shlD, Ev.powD, Ev.andD, Ev.orD, Ev.xorD, Ev.cmpD, Ev.neD, Ev.ltD, Ev.leD, Ev.gtD, Ev.geD, Ev.truthD, Ev.D.asB, Ev.D.asI, Ev.isNonD, Ev.isiD, Ev.tagD, Ev.isTy, Ev.ofO, Ev.bfD, Ev.bmD, Option.bind_some, Option.bind_none, List.map_cons, List.map_nil, List.replicate_succ, List.replicate_zero, List.length_cons, List.length_nil, List.cons_append, List.nil_append, List.getElem?_cons_zero, List.getElem?_cons_succ, List.set_cons_zero, List.set_cons_succ, Ev.wipeE, Ev.rep1, Ev.rep2, Ev.rep3, Ev.rep4, Ev.evX, Ev.evXs, Ev.R.bind_exc, Ev.tryD, Ev.setO, Ev.raiseD, Ev.ofX_xc, Ev.ofX_nope, Ev.ofX_non, Ev.ofX_int, Ev.ofX_bl, Ev.ofX_str, Ev.ofX_lst, Ev.ofX_tup, Ev.ofX_obj, e1, e2, chars_ok, k1]
      | some t =>
        obtain ⟨e3, h1, o2, o3, o4, rfl⟩ := k2 t g
        refine fr_read ?_ rfl
        unfold b_read r_read_1 r_read_2
        simp -implicitDefEqProofs only [Ev.fnD, Ev.outO, Ev.run, Ev.exs, Ev.ex, Ev.evs, Ev.ev, Ev.evO, Ev.evC, Ev.evI, Ev.getV, Ev.R.bind_ok, Ev.R.bind_bad, Ev.bindT, Ev.bindMany, Ev.binD, Ev.augD, Ev.addI, Ev.subID, Ev.shrD, Ev.shlD, Ev.powD, Ev.andD, Ev.orD, Ev.xorD, Ev.cmpD, Ev.neD, Ev.ltD, Ev.leD, Ev.gtD, Ev.geD, Ev.truthD, Ev.D.asB, Ev.D.asI, Ev.isNonD, Ev.isiD, Ev.tagD, Ev.isTy, Ev.ofO, Ev.bfD, Ev.bmD, Option.bind_some, Option.bind_none, List.map_cons, List.map_nil, List.replicate_succ, List.replicate_zero, List.length_cons, List.length_nil, List.cons_append, List.nil_append, List.getElem?_cons_zero, List.getElem?_cons_succ, List.set_cons_zero, List.set_cons_succ, Ev.wipeE, Ev.rep1, Ev.rep2, Ev.rep3, Ev.rep4, Ev.evX, Ev.evXs, Ev.R.bind_exc, Ev.tryD, Ev.setO, Ev.raiseD, Ev.ofX_xc, Ev.ofX_nope, Ev.ofX_non, Ev.ofX_int, Ev.ofX_bl, Ev.ofX_str, Ev.ofX_lst, Ev.ofX_tup, Ev.ofX_obj, e1, e2, chars_ok, h1]
        exact rets _ _
theorem whole_int (i : Int) : f__law_whole [.int i] = some (.bl true) := by
  refine fr__law_whole ?_
  unfold b__law_whole
  simp -implicitDefEqProofs only [Ev.fnD, Ev.outO, Ev.run, Ev.exs, Ev.ex, Ev.evs, Ev.ev, Ev.evO, Ev.evC, Ev.evI, Ev.getV, Ev.R.bind_ok, Ev.R.bind_bad, Ev.bindT, Ev.bindMany, Ev.binD, Ev.augD, Ev.addI, Ev.subID, Ev.shrD, Ev.shlD, Ev.powD, Ev.andD, Ev.orD, Ev.xorD, Ev.cmpD, Ev.neD, Ev.ltD, Ev.leD, Ev.gtD, Ev.geD, Ev.truthD, Ev.D.asB, Ev.D.asI, Ev.isNonD, Ev.isiD, Ev.tagD, Ev.isTy, Ev.ofO, Ev.bfD, Ev.bmD, Option.bind_some, Option.bind_none, List.map_cons, List.map_nil, List.replicate_succ, List.replicate_zero, List.length_cons, List.length_nil, List.cons_append, List.nil_append, List.getElem?_cons_zero, List.getElem?_cons_succ, List.set_cons_zero, List.set_cons_succ, Ev.wipeE, Ev.rep1, Ev.rep2, Ev.rep3, Ev.rep4, Ev.evX, Ev.evXs, Ev.R.bind_exc, Ev.tryD, Ev.setO, Ev.raiseD, Ev.ofX_xc, Ev.ofX_nope, Ev.ofX_non, Ev.ofX_int, Ev.ofX_bl, Ev.ofX_str, Ev.ofX_lst, Ev.ofX_tup, Ev.ofX_obj, Bool.not_false]
  exact rets _ _
/-! ### the texts of the sets -/
def okT (s : Nat) : Bool := match f__law_text [.int (s : Nat)], f_shown [.int (s : Nat)] with
  | some (.str x), some (.str y) => decide (x = y) && ((ch x).all fun c => decide (c < 128)) && decide (x.length ≤ 8)
  | _, _ => false
theorem okT_all : (List.range 256).all okT = true := by decide +kernel
theorem text_ok (s : Nat) (h : s < 256) : ∃ x : Str, f__law_text [.int (s : Nat)] = some (.str x) ∧ f_shown [.int (s : Nat)] = some (.str x) ∧ Asc x ∧ x.length ≤ 8 := by
  have k := all_range (n := 256) (p := okT) okT_all s h
  unfold okT at k
  split at k
  · rename_i x y e1 e2
    simp only [Bool.and_eq_true, decide_eq_true_eq, List.all_eq_true] at k
    obtain ⟨⟨rfl, k2⟩, k3⟩ := k
    exact ⟨x, e1, e2, k2, k3⟩
  · cases k
/-! ### words -/
theorem str_ext {x y : Str} (h : ch x = ch y) : x = y := by
  have : x.cps = y.cps := Array.toList_inj.mp h
  cases x; cases y
  exact congrArg Str.mk this
theorem blank_eq : (" " : Str) = sg 32 := by decide +kernel
theorem empty_ch : ch ("" : Str) = [] := by decide +kernel
def wordsS : Str → List Nat → List Str
  | w, [] => [w]
  | w, c :: r => if c = 32 then w :: wordsS ("" : Str) r else wordsS (w ++ sg c) r
def dueAll : List Str → Option (List Nat)
  | [] => some []
  | w :: r => match due w, dueAll r with
    | some t, some l => some (t :: l)
    | _, _ => none
theorem ch_add (x y : Str) : ch (x ++ y) = ch x ++ ch y := by show (x.cps ++ y.cps).toList = _; rw [Array.toList_append]
theorem words_spl : ∀ (L : List Nat) (w : Str), (wordsS w L).map ch = TL.spl [32] 0 (ch w) L
  | [], w => by rw [TL.spl_nil]; rfl
  | c :: r, w => by
    unfold wordsS
    by_cases h : c = 32
    · subst h
      have p : TL.pre [32] (32 :: r) = true := by show ((32 :: r).take 1 == [32]) = true; rfl
      rw [if_pos rfl, TL.spl_hit p, List.map_cons, words_spl r, empty_ch]
      rfl
    · have p : TL.pre [32] (c :: r) = false := by
        show ((c :: r).take 1 == [32]) = false
        rw [List.take_succ_cons, List.take_zero]
        exact beq_eq_false_iff_ne.mpr fun z => h (by injection z)
      rw [if_neg h, TL.spl_miss p, words_spl r, ch_add]
theorem map_ch_inj : ∀ {l m : List Str}, l.map ch = m.map ch → l = m
  | [], [], _ => rfl
  | [], _ :: _, h => by cases h
  | _ :: _, [], h => by cases h
  | a :: l, b :: m, h => by
    rw [List.map_cons, List.map_cons] at h
    injection h with h1 h2
    rw [str_ext h1, map_ch_inj h2]
theorem kind1 {z : Str} (hz : Asc z) : Builtin.Str.strKind z = 1 := by
  unfold Builtin.Str.strKind
  rw [if_pos]
  rw [← Array.all_toList, List.all_eq_true]
  intro c hc
  have := hz c hc
  exact decide_eq_true (by omega)
theorem split_ok {z : Str} (hz : Asc z) : Txt.split z (" " : Str) = wordsS ("" : Str) (ch z) := by
  have e := TL.split_spl z (" " : Str) (by decide +kernel) (by rw [kind1 hz, kind1 (show Asc (" " : Str) by rw [blank_eq]; exact asc_sg (by decide))]; omega)
  have tb : TL.tl (" " : Str) = [32] := by decide +kernel
  rw [tb] at e
  refine map_ch_inj ?_
  rw [words_spl, empty_ch]
  exact e
theorem words_asc : ∀ (L : List Nat) (w : Str), (∀ c ∈ L, c < 128) → Asc w → ∀ x ∈ wordsS w L, Asc x
  | [], w, _, hw, x, hx => by rw [List.mem_singleton.mp hx]; exact hw
  | c :: r, w, hc, hw, x, hx => by
    unfold wordsS at hx
    split at hx
    · rcases List.mem_cons.mp hx with rfl | hx
      · exact hw
      · exact words_asc r _ (fun d hd => hc d (List.mem_cons_of_mem _ hd)) (fun d hd => by rw [empty_ch] at hd; cases hd) x hx
    · exact words_asc r _ (fun d hd => hc d (List.mem_cons_of_mem _ hd)) (asc_add hw (asc_sg (hc c List.mem_cons_self))) x hx
theorem words_len : ∀ (L : List Nat) (w : Str), (wordsS w L).length ≤ L.length + 1
  | [], w => by unfold wordsS; simp
  | c :: r, w => by
    unfold wordsS
    split
    · have := words_len r ("" : Str)
      rw [List.length_cons, List.length_cons]; omega
    · have := words_len r (w ++ sg c)
      rw [List.length_cons]; omega
/-! ### the law's words -/
theorem due_words (z : Str) : ∀ (L : List Nat) (mk : List Nat) (wd : Str) (o3 o4 : Option D), wd.length + L.length ≤ 2000 → mk.length + L.length ≤ 2000 →
    (dueAll (wordsS wd L) = none → Rets (forL (.one 3) (fun env => exs p__law_due fuel l__law_due_0 env) ((L ++ [32]).map fun c => D.str (sg c)) [some (.str z), some (.lst (dN mk)), some (.str wd), o3, o4]) .non) ∧
    ∀ l, dueAll (wordsS wd L) = some l → Nx (forL (.one 3) (fun env => exs p__law_due fuel l__law_due_0 env) ((L ++ [32]).map fun c => D.str (sg c)) [some (.str z), some (.lst (dN mk)), some (.str wd), o3, o4]) fun env => ∃ o2 o3 o4, env = [some (.str z), some (.lst (dN (mk ++ l))), o2, o3, o4] := by
  have e32 : eqD (.str (sg 32)) (.str (" " : Str)) = .ok true := by rw [eq_str, blank_eq, decide_eq_true rfl]
  have stepN : ∀ (mk : List Nat) (wd : Str) (o3 o4 : Option D), due wd = none → (bindT (.one 3) (D.str (sg 32)) [some (.str z), some (.lst (dN mk)), some (.str wd), o3, o4]).bind (fun env => exs p__law_due fuel l__law_due_0 env) = .ok ([some (.str z), some (.lst (dN mk)), some (.str wd), some (.str (sg 32)), some .non], .ret .non) := by
    intro mk wd o3 o4 h
    have d := due_ok wd
    rw [h] at d
    have d : f__law_set [.str wd] = some .non := d
    unfold l__law_due_0
    simp -implicitDefEqProofs only [Ev.fnD, Ev.outO, Ev.run, Ev.exs, Ev.ex, Ev.evs, Ev.ev, Ev.evO, Ev.evC, Ev.evI, Ev.getV, Ev.R.bind_ok, Ev.R.bind_bad, Ev.bindT, Ev.bindMany, Ev.binD, Ev.augD, Ev.addI, Ev.subID, Ev.shrD, Ev.shlD, Ev.powD, Ev.andD, Ev.orD, Ev.xorD, Ev.cmpD, Ev.neD, Ev.ltD, Ev.leD, Ev.gtD, Ev.geD, Ev.truthD, Ev.D.asB, Ev.D.asI, Ev.isNonD, Ev.isiD, Ev.tagD, Ev.isTy, Ev.ofO, Ev.bfD, Ev.bmD, Option.bind_some, Option.bind_none, List.map_cons, List.map_nil, List.replicate_succ, List.replicate_zero, List.length_cons, List.length_nil, List.cons_append, List.nil_append, List.getElem?_cons_zero, List.getElem?_cons_succ, List.set_cons_zero, List.set_cons_succ, Ev.wipeE, Ev.rep1, Ev.rep2, Ev.rep3, Ev.rep4, Ev.evX, Ev.evXs, Ev.R.bind_exc, Ev.tryD, Ev.setO, Ev.raiseD, Ev.ofX_xc, Ev.ofX_nope, Ev.ofX_non, Ev.ofX_int, Ev.ofX_bl, Ev.ofX_str, Ev.ofX_lst, Ev.ofX_tup, Ev.ofX_obj, e32, pp__law_due, d]
  have stepS : ∀ (mk : List Nat) (wd : Str) (o3 o4 : Option D) (t : Nat), mk.length ≤ 2000 → due wd = some t → (bindT (.one 3) (D.str (sg 32)) [some (.str z), some (.lst (dN mk)), some (.str wd), o3, o4]).bind (fun env => exs p__law_due fuel l__law_due_0 env) = .ok ([some (.str z), some (.lst (dN (mk ++ [t]))), some (.str ("" : Str)), some (.str (sg 32)), some (.int (t : Nat))], .nx) := by
    intro mk wd o3 o4 t hm h
    have d := due_ok wd
    rw [h] at d
    have d : f__law_set [.str wd] = some (.int (t : Nat)) := d
    have ap := app_dN mk t (by omega)
    unfold l__law_due_0 r__law_due_2
    simp -implicitDefEqProofs only [Ev.fnD, Ev.outO, Ev.run, Ev.exs, Ev.ex, Ev.evs, Ev.ev, Ev.evO, Ev.evC, Ev.evI, Ev.getV, Ev.R.bind_ok, Ev.R.bind_bad, Ev.bindT, Ev.bindMany, Ev.binD, Ev.augD, Ev.addI, Ev.subID, Ev.shrD, Ev.shlD, Ev.powD, Ev.andD, Ev.orD, Ev.xorD, Ev.cmpD, Ev.neD, Ev.ltD, Ev.leD, Ev.gtD, Ev.geD, Ev.truthD, Ev.D.asB, Ev.D.asI, Ev.isNonD, Ev.isiD, Ev.tagD, Ev.isTy, Ev.ofO, Ev.bfD, Ev.bmD, Option.bind_some, Option.bind_none, List.map_cons, List.map_nil, List.replicate_succ, List.replicate_zero, List.length_cons, List.length_nil, List.cons_append, List.nil_append, List.getElem?_cons_zero, List.getElem?_cons_succ, List.set_cons_zero, List.set_cons_succ, Ev.wipeE, Ev.rep1, Ev.rep2, Ev.rep3, Ev.rep4, Ev.evX, Ev.evXs, Ev.R.bind_exc, Ev.tryD, Ev.setO, Ev.raiseD, Ev.ofX_xc, Ev.ofX_nope, Ev.ofX_non, Ev.ofX_int, Ev.ofX_bl, Ev.ofX_str, Ev.ofX_lst, Ev.ofX_tup, Ev.ofX_obj, e32, pp__law_due, d, mutD, ap]
  intro L
  induction L with
  | nil =>
    intro mk wd o3 o4 h1 h2
    unfold wordsS
    unfold dueAll dueAll
    refine ⟨fun h => ?_, fun l h => ?_⟩
    · cases e : due wd with
      | none =>
        rw [List.nil_append, List.map_cons, forL_stop (stepN mk wd o3 o4 e)]
        exact rets _ _
      | some t => rw [e] at h; cases h
    · cases e : due wd with
      | none => rw [e] at h; cases h
      | some t =>
        rw [e] at h
        cases h
        rw [List.nil_append, List.map_cons, forL_go (stepS mk wd o3 o4 t (by simp at h2; omega) e)]
        exact nx ⟨_, _, _, rfl⟩
  | cons c r ih =>
    intro mk wd o3 o4 h1 h2
    rw [List.length_cons] at h1 h2
    unfold wordsS
    by_cases hc : c = 32
    · subst hc
      rw [if_pos rfl]
      unfold dueAll
      rw [List.cons_append, List.map_cons]
      cases e : due wd with
      | none =>
        refine ⟨fun _ => ?_, fun l h => by cases h⟩
        rw [forL_stop (stepN mk wd o3 o4 e)]
        exact rets _ _
      | some t =>
        rw [forL_go (stepS mk wd o3 o4 t (by omega) e)]
        have el : ("" : Str).length = 0 := by decide +kernel
        obtain ⟨i1, i2⟩ := ih (mk ++ [t]) ("" : Str) (some (.str (sg 32))) (some (.int (t : Nat))) (by omega) (by rw [List.length_append]; simp; omega)
        cases e2 : dueAll (wordsS ("" : Str) r) with
        | none => exact ⟨fun _ => i1 e2, fun l h => by cases h⟩
        | some l2 =>
          refine ⟨fun h => (by cases h), fun l h => ?_⟩
          cases h
          have := i2 l2 e2
          rw [List.append_assoc] at this
          exact this
    · rw [if_neg hc]
      rw [List.cons_append, List.map_cons]
      have e1 := eq_str (sg c) (" " : Str)
      rw [blank_eq, sg_eq, decide_eq_false hc, ← blank_eq] at e1
      have g1 : (sg c).length = 1 := rfl
      have ad := add_str wd (sg c) (by omega)
      have st : (bindT (.one 3) (D.str (sg c)) [some (.str z), some (.lst (dN mk)), some (.str wd), o3, o4]).bind (fun env => exs p__law_due fuel l__law_due_0 env) = .ok ([some (.str z), some (.lst (dN mk)), some (.str (wd ++ sg c)), some (.str (sg c)), o4], .nx) := by
        unfold l__law_due_0
        simp -implicitDefEqProofs only [Ev.fnD, Ev.outO, Ev.run, Ev.exs, Ev.ex, Ev.evs, Ev.ev, Ev.evO, Ev.evC, Ev.evI, Ev.getV, Ev.R.bind_ok, Ev.R.bind_bad, Ev.bindT, Ev.bindMany, Ev.binD, Ev.augD, Ev.addI, Ev.subID, Ev.shrD, Ev.shlD, Ev.powD, Ev.andD, Ev.orD, Ev.xorD, Ev.cmpD, Ev.neD, Ev.ltD, Ev.leD, Ev.gtD, Ev.geD, Ev.truthD, Ev.D.asB, Ev.D.asI, Ev.isNonD, Ev.isiD, Ev.tagD, Ev.isTy, Ev.ofO, Ev.bfD, Ev.bmD, Option.bind_some, Option.bind_none, List.map_cons, List.map_nil, List.replicate_succ, List.replicate_zero, List.length_cons, List.length_nil, List.cons_append, List.nil_append, List.getElem?_cons_zero, List.getElem?_cons_succ, List.set_cons_zero, List.set_cons_succ, Ev.wipeE, Ev.rep1, Ev.rep2, Ev.rep3, Ev.rep4, Ev.evX, Ev.evXs, Ev.R.bind_exc, Ev.tryD, Ev.setO, Ev.raiseD, Ev.ofX_xc, Ev.ofX_nope, Ev.ofX_non, Ev.ofX_int, Ev.ofX_bl, Ev.ofX_str, Ev.ofX_lst, Ev.ofX_tup, Ev.ofX_obj, e1, ad]
      rw [forL_go st]
      exact ih mk (wd ++ sg c) _ _ (by rw [len_add]; omega) (by omega)
def resL (z : Str) : Option (List Nat) := if ch z = [] then some [] else dueAll (wordsS ("" : Str) (ch z))
theorem ldue_ok {z : Str} (hl : z.length ≤ 1900) : f__law_due [.str z] = some (match resL z with | none => D.non | some l => D.lst (dN l)) := by
  have e2 := eq_str z ("" : Str)
  rw [decide_eq_decide.mpr (nil_str z)] at e2
  have el : ("" : Str).length = 0 := by decide +kernel
  have cl := ch_len z
  refine fr__law_due ?_
  unfold b__law_due resL
  by_cases h : ch z = []
  · rw [decide_eq_true h] at e2
    rw [if_pos h]
    have b0 : (if 0 ≤ 16777216 then R.ok (D.lst []) else R.bad) = R.ok (D.lst (dN [])) := by rw [if_pos (by omega)]; rfl
    simp -implicitDefEqProofs only [Ev.fnD, Ev.outO, Ev.run, Ev.exs, Ev.ex, Ev.evs, Ev.ev, Ev.evO, Ev.evC, Ev.evI, Ev.getV, Ev.R.bind_ok, Ev.R.bind_bad, Ev.bindT, Ev.bindMany, Ev.binD, Ev.augD, Ev.addI, Ev.subID, Ev.shrD, Ev.shlD, Ev.powD, Ev.andD, Ev.orD, Ev.xorD, Ev.cmpD, Ev.neD, Ev.ltD, Ev.leD, Ev.gtD, Ev.geD, Ev.truthD, Ev.D.asB, Ev.D.asI, Ev.isNonD, Ev.isiD, Ev.tagD, Ev.isTy, Ev.ofO, Ev.bfD, Ev.bmD, Option.bind_some, Option.bind_none, List.map_cons, List.map_nil, List.replicate_succ, List.replicate_zero, List.length_cons, List.length_nil, List.cons_append, List.nil_append, List.getElem?_cons_zero, List.getElem?_cons_succ, List.set_cons_zero, List.set_cons_succ, Ev.wipeE, Ev.rep1, Ev.rep2, Ev.rep3, Ev.rep4, Ev.evX, Ev.evXs, Ev.R.bind_exc, Ev.tryD, Ev.setO, Ev.raiseD, Ev.ofX_xc, Ev.ofX_nope, Ev.ofX_non, Ev.ofX_int, Ev.ofX_bl, Ev.ofX_str, Ev.ofX_lst, Ev.ofX_tup, Ev.ofX_obj, e2, b0]
    exact rets _ _
  · rw [decide_eq_false h] at e2
    rw [if_neg h]
    obtain ⟨k1, k2⟩ := due_words z (ch z) [] ("" : Str) none none (by omega) (by rw [List.length_nil]; omega)
    have bl : (" " : Str).length = 1 := by decide +kernel
    have ad := add_str z (" " : Str) (by omega)
    have cs : charsD (.str (z ++ (" " : Str))) = .ok ((ch z ++ [32]).map fun c => D.str (sg c)) := by
      rw [chars_ok, ch_add, blank_eq]
    have b0 : (if 0 ≤ 16777216 then R.ok (D.lst []) else R.bad) = R.ok (D.lst (dN [])) := by rw [if_pos (by omega)]; rfl
    unfold r__law_due_1
    cases g : dueAll (wordsS ("" : Str) (ch z)) with
    | none =>
      obtain ⟨e3, h1⟩ := k1 g
      simp -implicitDefEqProofs only [Ev.fnD, Ev.outO, Ev.run, Ev.exs, Ev.ex, Ev.evs, Ev.ev, Ev.evO, Ev.evC, Ev.evI, Ev.getV, Ev.R.bind_ok, Ev.R.bind_bad, Ev.bindT, Ev.bindMany, Ev.binD, Ev.augD, Ev.addI, Ev.subID, Ev.shrD, Ev.shlD, Ev.powD, Ev.andD, Ev.orD, Ev.xorD, Ev.cmpD, Ev.neD, Ev.ltD, Ev.leD, Ev.gtD, Ev.geD, Ev.truthD, Ev.D.asB, Ev.D.asI, Ev.isNonD, Ev.isiD, Ev.tagD, Ev.isTy, Ev.ofO, Ev.bfD, Ev.bmD, Option.bind_some, Option.bind_none, List.map_cons, List.map_nil, List.replicate_succ, List.replicate_zero, List.length_cons, List.length_nil, List.cons_append, List.nil_append, List.getElem?_cons_zero, List.getElem?_cons_succ, List.set_cons_zero, List.set_cons_succ, Ev.wipeE, Ev.rep1, Ev.rep2, Ev.rep3, Ev.rep4, Ev.evX, Ev.evXs, Ev.R.bind_exc, Ev.tryD, Ev.setO, Ev.raiseD, Ev.ofX_xc, Ev.ofX_nope, Ev.ofX_non, Ev.ofX_int, Ev.ofX_bl, Ev.ofX_str, Ev.ofX_lst, Ev.ofX_tup, Ev.ofX_obj, e2, b0, ad, cs, h1]
      exact rets _ _
    | some l =>
      obtain ⟨e3, h1, o2, o3, o4, rfl⟩ := k2 l g
      simp -implicitDefEqProofs only [Ev.fnD, Ev.outO, Ev.run, Ev.exs, Ev.ex, Ev.evs, Ev.ev, Ev.evO, Ev.evC, Ev.evI, Ev.getV, Ev.R.bind_ok, Ev.R.bind_bad, Ev.bindT, Ev.bindMany, Ev.binD, Ev.augD, Ev.addI, Ev.subID, Ev.shrD, Ev.shlD, Ev.powD, Ev.andD, Ev.orD, Ev.xorD, Ev.cmpD, Ev.neD, Ev.ltD, Ev.leD, Ev.gtD, Ev.geD, Ev.truthD, Ev.D.asB, Ev.D.asI, Ev.isNonD, Ev.isiD, Ev.tagD, Ev.isTy, Ev.ofO, Ev.bfD, Ev.bmD, Option.bind_some, Option.bind_none, List.map_cons, List.map_nil, List.replicate_succ, List.replicate_zero, List.length_cons, List.length_nil, List.cons_append, List.nil_append, List.getElem?_cons_zero, List.getElem?_cons_succ, List.set_cons_zero, List.set_cons_succ, Ev.wipeE, Ev.rep1, Ev.rep2, Ev.rep3, Ev.rep4, Ev.evX, Ev.evXs, Ev.R.bind_exc, Ev.tryD, Ev.setO, Ev.raiseD, Ev.ofX_xc, Ev.ofX_nope, Ev.ofX_non, Ev.ofX_int, Ev.ofX_bl, Ev.ofX_str, Ev.ofX_lst, Ev.ofX_tup, Ev.ofX_obj, e2, b0, ad, cs, h1, List.nil_append]
      exact rets _ _
theorem comp_read (b : D → Ev.R Ev) (hb : ∀ w : Str, ∃ z : D, b (.str w) = .ok [some z, some (.str w)]) : ∀ ws : List Str, (∀ w ∈ ws, Asc w) → compX b (fun env => evX p_read_all (.call 7 (.cons (.var 1) .nil)) env) (ws.map D.str) = match dueAll ws with | some l => .ok (dN l) | none => .exc 0 [.exv 0 []]
  | [], _ => rfl
  | w :: ws, h => by
    have ih := comp_read b hb ws fun x hx => h x (List.mem_cons_of_mem _ hx)
    have r := read_ok (h w List.mem_cons_self)
    obtain ⟨z, hz⟩ := hb w
    rw [List.map_cons]
    unfold compX dueAll
    rw [hz, Ev.R.bind_ok, ih]
    have ev1 : evX p_read_all (.call 7 (.cons (.var 1) .nil)) [some z, some (.str w)] = ofX (f_read [.str w]) := by rfl
    rw [ev1, r]
    cases due w with
    | none => rfl
    | some t => cases dueAll ws <;> rfl
theorem read_all_ok {z : Str} (hz : Asc z) (hl : z.length ≤ 1900) : f_read_all [.str z] = some (match resL z with | none => D.xc 0 [.exv 0 []] | some l => D.lst (dN l)) := by
  have e2 := eq_str z ("" : Str)
  rw [decide_eq_decide.mpr (nil_str z)] at e2
  have cl := ch_len z
  have wl := words_len (ch z) ("" : Str)
  have b0 : (if 0 ≤ 16777216 then R.ok (D.lst []) else R.bad) = R.ok (D.lst (dN [])) := by rw [if_pos (by omega)]; rfl
  unfold resL
  by_cases h : ch z = []
  · rw [decide_eq_true h] at e2
    rw [if_pos h]
    refine fr_read_all ?_ rfl
    unfold b_read_all
    simp -implicitDefEqProofs only [Ev.fnD, Ev.outO, Ev.run, Ev.exs, Ev.ex, Ev.evs, Ev.ev, Ev.evO, Ev.evC, Ev.evI, Ev.getV, Ev.R.bind_ok, Ev.R.bind_bad, Ev.bindT, Ev.bindMany, Ev.binD, Ev.augD, Ev.addI, Ev.subID, Ev.shrD, Ev.shlD, Ev.powD, Ev.andD, Ev.orD, Ev.xorD, Ev.cmpD, Ev.neD, Ev.ltD, Ev.leD, Ev.gtD, Ev.geD, Ev.truthD, Ev.D.asB, Ev.D.asI, Ev.isNonD, Ev.isiD, Ev.tagD, Ev.isTy, Ev.ofO, Ev.bfD, Ev.bmD, Option.bind_some, Option.bind_none, List.map_cons, List.map_nil, List.replicate_succ, List.replicate_zero, List.length_cons, List.length_nil, List.cons_append, List.nil_append, List.getElem?_cons_zero, List.getElem?_cons_succ, List.set_cons_zero, List.set_cons_succ, Ev.wipeE, Ev.rep1, Ev.rep2, Ev.rep3, Ev.rep4, Ev.evX, Ev.evXs, Ev.R.bind_exc, Ev.tryD, Ev.setO, Ev.raiseD, Ev.ofX_xc, Ev.ofX_nope, Ev.ofX_non, Ev.ofX_int, Ev.ofX_bl, Ev.ofX_str, Ev.ofX_lst, Ev.ofX_tup, Ev.ofX_obj, e2, b0]
    exact rets _ _
  · rw [decide_eq_false h] at e2
    rw [if_neg h]
    have sp : txD .split [.str z, .str (" " : Str)] = .ok (.lst ((wordsS ("" : Str) (ch z)).map .str)) := by
      show (if ((" " : Str).length == 0) = false ∧ z.length + 2 ≤ 16777216 then R.ok (D.lst ((Txt.split z (" " : Str)).map .str)) else .bad) = _
      rw [if_pos ⟨by decide +kernel, by omega⟩, split_ok hz]
    have cr := comp_read (fun d => bindT (.one 1) d (wipeE [some (.str z), none] [1])) (fun w => ⟨.str z, rfl⟩) _ (words_asc (ch z) ("" : Str) hz fun d hd => by rw [empty_ch] at hd; cases hd)
    have ex : evX p_read_all (.comp (.call 7 (.cons (.var 1) .nil)) [("word", 1)] (.one 1) (.plain (.tx .split (.cons (.var 0) (.cons (.str " ") .nil))))) [some (.str z), none] = match dueAll (wordsS ("" : Str) (ch z)) with | some l => .ok (.lst (dN l)) | none => .exc 0 [.exv 0 []] := by
      have sv : evI p_read_all (.plain (.tx .split (.cons (.var 0) (.cons (.str " ") .nil)))) [some (.str z), none] = .ok ((wordsS ("" : Str) (ch z)).map .str) := by
        have sq : (D.lst ((wordsS ("" : Str) (ch z)).map .str)).seq = some ((wordsS ("" : Str) (ch z)).map .str) := rfl
        simp -implicitDefEqProofs only [Ev.fnD, Ev.outO, Ev.run, Ev.exs, Ev.ex, Ev.evs, Ev.ev, Ev.evO, Ev.evC, Ev.evI, Ev.getV, Ev.R.bind_ok, Ev.R.bind_bad, Ev.bindT, Ev.bindMany, Ev.binD, Ev.augD, Ev.addI, Ev.subID, Ev.shrD, Ev.shlD, Ev.powD, Ev.andD, Ev.orD, Ev.xorD, Ev.cmpD, Ev.neD, Ev.ltD, Ev.leD, Ev.gtD, Ev.geD, Ev.truthD, Ev.D.asB, Ev.D.asI, Ev.isNonD, Ev.isiD, Ev.tagD, Ev.isTy, Ev.ofO, Ev.bfD, Ev.bmD, Option.bind_some, Option.bind_none, List.map_cons, List.map_nil, List.replicate_succ, List.replicate_zero, List.length_cons, List.length_nil, List.cons_append, List.nil_append, List.getElem?_cons_zero, List.getElem?_cons_succ, List.set_cons_zero, List.set_cons_succ, Ev.wipeE, Ev.rep1, Ev.rep2, Ev.rep3, Ev.rep4, Ev.evX, Ev.evXs, Ev.R.bind_exc, Ev.tryD, Ev.setO, Ev.raiseD, Ev.ofX_xc, Ev.ofX_nope, Ev.ofX_non, Ev.ofX_int, Ev.ofX_bl, Ev.ofX_str, Ev.ofX_lst, Ev.ofX_tup, Ev.ofX_obj, sp, sq]
      show (evI p_read_all (.plain (.tx .split (.cons (.var 0) (.cons (.str " ") .nil)))) [some (.str z), none]).bind _ = _
      rw [sv, Ev.R.bind_ok, if_pos (by rw [List.length_map]; omega)]
      show (compX (fun d => bindT (.one 1) d (wipeE [some (.str z), none] [1])) (fun env => evX p_read_all (.call 7 (.cons (.var 1) .nil)) env) ((wordsS ("" : Str) (ch z)).map .str)).bind _ = _
      rw [cr]
      cases dueAll (wordsS ("" : Str) (ch z)) <;> rfl
    cases g : dueAll (wordsS ("" : Str) (ch z)) with
    | none =>
      rw [g] at ex
      refine fx_read_all ?_
      unfold b_read_all
      simp -implicitDefEqProofs only [Ev.fnD, Ev.outO, Ev.run, Ev.exs, Ev.ex, Ev.evs, Ev.ev, Ev.evO, Ev.evC, Ev.evI, Ev.getV, Ev.R.bind_ok, Ev.R.bind_bad, Ev.bindT, Ev.bindMany, Ev.binD, Ev.augD, Ev.addI, Ev.subID, Ev.shrD, Ev.shlD, Ev.powD, Ev.andD, Ev.orD, Ev.xorD, Ev.cmpD, Ev.neD, Ev.ltD, Ev.leD, Ev.gtD, Ev.geD, Ev.truthD, Ev.D.asB, Ev.D.asI, Ev.isNonD, Ev.isiD, Ev.tagD, Ev.isTy, Ev.ofO, Ev.bfD, Ev.bmD, Option.bind_some, Option.bind_none, List.map_cons, List.map_nil, List.replicate_succ, List.replicate_zero, List.length_cons, List.length_nil, List.cons_append, List.nil_append, List.getElem?_cons_zero, List.getElem?_cons_succ, List.set_cons_zero, List.set_cons_succ, Ev.wipeE, Ev.rep1, Ev.rep2, Ev.rep3, Ev.rep4, Ev.evX, Ev.evXs, Ev.R.bind_exc, Ev.tryD, Ev.setO, Ev.raiseD, Ev.ofX_xc, Ev.ofX_nope, Ev.ofX_non, Ev.ofX_int, Ev.ofX_bl, Ev.ofX_str, Ev.ofX_lst, Ev.ofX_tup, Ev.ofX_obj, e2]
      unfold r_read_all_0
      show ((evX p_read_all (.comp (.call 7 (.cons (.var 1) .nil)) [("word", 1)] (.one 1) (.plain (.tx .split (.cons (.var 0) (.cons (.str " ") .nil))))) [some (.str z), none]).bind _).bind _ = _
      rw [ex]
      rfl
    | some l =>
      rw [g] at ex
      refine fr_read_all ?_ rfl
      unfold b_read_all
      simp -implicitDefEqProofs only [Ev.fnD, Ev.outO, Ev.run, Ev.exs, Ev.ex, Ev.evs, Ev.ev, Ev.evO, Ev.evC, Ev.evI, Ev.getV, Ev.R.bind_ok, Ev.R.bind_bad, Ev.bindT, Ev.bindMany, Ev.binD, Ev.augD, Ev.addI, Ev.subID, Ev.shrD, Ev.shlD, Ev.powD, Ev.andD, Ev.orD, Ev.xorD, Ev.cmpD, Ev.neD, Ev.ltD, Ev.leD, Ev.gtD, Ev.geD, Ev.truthD, Ev.D.asB, Ev.D.asI, Ev.isNonD, Ev.isiD, Ev.tagD, Ev.isTy, Ev.ofO, Ev.bfD, Ev.bmD, Option.bind_some, Option.bind_none, List.map_cons, List.map_nil, List.replicate_succ, List.replicate_zero, List.length_cons, List.length_nil, List.cons_append, List.nil_append, List.getElem?_cons_zero, List.getElem?_cons_succ, List.set_cons_zero, List.set_cons_succ, Ev.wipeE, Ev.rep1, Ev.rep2, Ev.rep3, Ev.rep4, Ev.evX, Ev.evXs, Ev.R.bind_exc, Ev.tryD, Ev.setO, Ev.raiseD, Ev.ofX_xc, Ev.ofX_nope, Ev.ofX_non, Ev.ofX_int, Ev.ofX_bl, Ev.ofX_str, Ev.ofX_lst, Ev.ofX_tup, Ev.ofX_obj, e2]
      unfold r_read_all_0
      show Rets (((evX p_read_all (.comp (.call 7 (.cons (.var 1) .nil)) [("word", 1)] (.one 1) (.plain (.tx .split (.cons (.var 0) (.cons (.str " ") .nil))))) [some (.str z), none]).bind _).bind _) _
      rw [ex]
      exact rets _ _
end K05

set_option maxHeartbeats 2000000
namespace K05
open Ev PySem PySem.Spec PyProof.Rows L2
/-! ### what is asked of a text -/
theorem dueAll_len : ∀ (ws : List Str) (l : List Nat), dueAll ws = some l → l.length = ws.length
  | [], l, h => by cases h; rfl
  | w :: ws, l, h => by
    unfold dueAll at h
    cases e1 : due w with
    | none => rw [e1] at h; cases h
    | some t =>
      cases e2 : dueAll ws with
      | none => rw [e1, e2] at h; cases h
      | some r =>
        rw [e1, e2] at h
        cases h
        rw [List.length_cons, List.length_cons, dueAll_len ws r e2]
theorem res_len {z : Str} {l : List Nat} (h : resL z = some l) : l.length ≤ z.length + 1 := by
  unfold resL at h
  have cl := ch_len z
  split at h
  · cases h; simp
  · have := dueAll_len _ _ h
    have := words_len (ch z) ("" : Str)
    omega
theorem reads_ok {z : Str} (hz : Asc z) (hl : z.length ≤ 1900) : f__law_reads [.str z] = some (.bl true) := by
  have d := ldue_ok hl
  have r := read_all_ok hz hl
  refine fr__law_reads ?_
  unfold b__law_reads
  cases h : resL z with
  | none =>
    rw [h] at d r
    have d : f__law_due [.str z] = some .non := d
    have r : f_read_all [.str z] = some (.xc 0 [.exv 0 []]) := r
    have ox := ofX_xc 0 [.exv 0 []]
    have cd : ∀ k, catchD f_exc_NoSet 0 [.exv 0 []] k = k (.exv 0 []) := fun k => rfl
    simp -implicitDefEqProofs only [Ev.fnD, Ev.outO, Ev.run, Ev.exs, Ev.ex, Ev.evs, Ev.ev, Ev.evO, Ev.evC, Ev.evI, Ev.getV, Ev.R.bind_ok, Ev.R.bind_bad, Ev.bindT, Ev.bindMany, Ev.binD, Ev.augD, Ev.addI, Ev.subID, Ev.shrD, Ev.shlD, Ev.powD, Ev.andD, Ev.orD, Ev.xorD, Ev.cmpD, Ev.neD, Ev.ltD, Ev.leD, Ev.gtD, Ev.geD, Ev.truthD, Ev.D.asB, Ev.D.asI, Ev.isNonD, Ev.isiD, Ev.tagD, Ev.isTy, Ev.ofO, Ev.bfD, Ev.bmD, Option.bind_some, Option.bind_none, List.map_cons, List.map_nil, List.replicate_succ, List.replicate_zero, List.length_cons, List.length_nil, List.cons_append, List.nil_append, List.getElem?_cons_zero, List.getElem?_cons_succ, List.set_cons_zero, List.set_cons_succ, Ev.wipeE, Ev.rep1, Ev.rep2, Ev.rep3, Ev.rep4, Ev.evX, Ev.evXs, Ev.R.bind_exc, Ev.tryD, Ev.setO, Ev.raiseD, Ev.ofX_xc, Ev.ofX_nope, Ev.ofX_non, Ev.ofX_int, Ev.ofX_bl, Ev.ofX_str, Ev.ofX_lst, Ev.ofX_tup, Ev.ofX_obj, pp__law_reads, d, r, ox, cd]
    exact rets _ _
  | some l =>
    rw [h] at d r
    have ll := res_len h
    have d : f__law_due [.str z] = some (.lst (dN l)) := d
    have r : f_read_all [.str z] = some (.lst (dN l)) := r
    have ox := ofX_lst (dN l)
    have k1 := forL_keep (t := .one 4) (b := fun env => exs p__law_reads fuel l__law_reads_0 env) (fun k : Nat => D.int (k : Nat)) (fun env => ∃ o, env = [some (.str z), some (.lst (dN l)), some (.lst (dN l)), some (.bl false), o]) (List.range l.length) [some (.str z), some (.lst (dN l)), some (.lst (dN l)), some (.bl false), none] ⟨none, rfl⟩ (by
      rintro env k hk ⟨o, rfl⟩
      have s := sub_dN l k (List.mem_range.mp hk)
      unfold l__law_reads_0
      simp -implicitDefEqProofs only [Ev.fnD, Ev.outO, Ev.run, Ev.exs, Ev.ex, Ev.evs, Ev.ev, Ev.evO, Ev.evC, Ev.evI, Ev.getV, Ev.R.bind_ok, Ev.R.bind_bad, Ev.bindT, Ev.bindMany, Ev.binD, Ev.augD, Ev.addI, Ev.subID, Ev.shrD, Ev.shlD, Ev.powD, Ev.andD, Ev.orD, Ev.xorD, Ev.cmpD, Ev.neD, Ev.ltD, Ev.leD, Ev.gtD, Ev.geD, Ev.truthD, Ev.D.asB, Ev.D.asI, Ev.isNonD, Ev.isiD, Ev.tagD, Ev.isTy, Ev.ofO, Ev.bfD, Ev.bmD, Option.bind_some, Option.bind_none, List.map_cons, List.map_nil, List.replicate_succ, List.replicate_zero, List.length_cons, List.length_nil, List.cons_append, List.nil_append, List.getElem?_cons_zero, List.getElem?_cons_succ, List.set_cons_zero, List.set_cons_succ, Ev.wipeE, Ev.rep1, Ev.rep2, Ev.rep3, Ev.rep4, Ev.evX, Ev.evXs, Ev.R.bind_exc, Ev.tryD, Ev.setO, Ev.raiseD, Ev.ofX_xc, Ev.ofX_nope, Ev.ofX_non, Ev.ofX_int, Ev.ofX_bl, Ev.ofX_str, Ev.ofX_lst, Ev.ofX_tup, Ev.ofX_obj, pp__law_reads, s, whole_int, eqI_self, Bool.not_true]
      exact nx ⟨_, rfl⟩)
    obtain ⟨e1, h1, o, rfl⟩ := k1
    have rg := @rangeD_nat l.length (by omega)
    unfold r__law_reads_1 r__law_reads_2
    simp -implicitDefEqProofs only [Ev.fnD, Ev.outO, Ev.run, Ev.exs, Ev.ex, Ev.evs, Ev.ev, Ev.evO, Ev.evC, Ev.evI, Ev.getV, Ev.R.bind_ok, Ev.R.bind_bad, Ev.bindT, Ev.bindMany, Ev.binD, Ev.augD, Ev.addI, Ev.subID, Ev.shrD, Ev.shlD, Ev.powD, Ev.andD, Ev.orD, Ev.xorD, Ev.cmpD, Ev.neD, Ev.ltD, Ev.leD, Ev.gtD, Ev.geD, Ev.truthD, Ev.D.asB, Ev.D.asI, Ev.isNonD, Ev.isiD, Ev.tagD, Ev.isTy, Ev.ofO, Ev.bfD, Ev.bmD, Option.bind_some, Option.bind_none, List.map_cons, List.map_nil, List.replicate_succ, List.replicate_zero, List.length_cons, List.length_nil, List.cons_append, List.nil_append, List.getElem?_cons_zero, List.getElem?_cons_succ, List.set_cons_zero, List.set_cons_succ, Ev.wipeE, Ev.rep1, Ev.rep2, Ev.rep3, Ev.rep4, Ev.evX, Ev.evXs, Ev.R.bind_exc, Ev.tryD, Ev.setO, Ev.raiseD, Ev.ofX_xc, Ev.ofX_nope, Ev.ofX_non, Ev.ofX_int, Ev.ofX_bl, Ev.ofX_str, Ev.ofX_lst, Ev.ofX_tup, Ev.ofX_obj, pp__law_reads, d, r, ox, len_dN, eqI_self, Bool.not_true, rg, h1]
    exact rets _ _
/-! ### what is shown -/
def tx (s : Nat) : Str := match f_shown [.int (s : Nat)] with
  | some (.str x) => x
  | _ => ("" : Str)
theorem tx_ok (s : Nat) (h : s < 256) : f__law_text [.int (s : Nat)] = some (.str (tx s)) ∧ f_shown [.int (s : Nat)] = some (.str (tx s)) ∧ Asc (tx s) ∧ (tx s).length ≤ 8 := by
  obtain ⟨x, t1, t2, t3, t4⟩ := text_ok s h
  have e : tx s = x := by unfold tx; rw [t2]
  rw [e]
  exact ⟨t1, t2, t3, t4⟩
def fl_ (a : List Nat) (ts : List Str) : List Nat := ts.foldl (fun a t => a ++ [32] ++ ch t) a
theorem fl_app (p q : List Nat) : ∀ ts : List Str, fl_ (p ++ q) ts = p ++ fl_ q ts := by
  intro ts
  induction ts generalizing q with
  | nil => rfl
  | cons t ts ih =>
    show fl_ (p ++ q ++ [32] ++ ch t) ts = p ++ fl_ (q ++ [32] ++ ch t) ts
    rw [List.append_assoc, List.append_assoc, ih, List.append_assoc]
theorem fold_fl (g : Array Nat) (hg : g.toList = [32]) : ∀ (ts : List Str) (a : Array Nat), (ts.foldl (fun acc p => acc ++ g ++ p.cps) a).toList = fl_ a.toList ts
  | [], _ => rfl
  | t :: ts, a => by
    show (ts.foldl (fun acc p => acc ++ g ++ p.cps) (a ++ g ++ t.cps)).toList = fl_ (a.toList ++ [32] ++ ch t) ts
    rw [fold_fl g hg ts, Array.toList_append, Array.toList_append, hg]
theorem join_ch (t : Str) (ts : List Str) : ch (Txt.join (" " : Str) (t :: ts)) = fl_ (ch t) ts := fold_fl _ (by decide +kernel) ts t.cps
theorem cut_one (z : Str) : ch (cutS z (some 1) none) = (ch z).drop 1 := by
  cases h : ch z with
  | nil =>
    have e : ch (cutS z (some 1) none) = (((ch z).drop (HT.sIx z.length 0 (some 1))).take (HT.sIx z.length z.length none - HT.sIx z.length 0 (some 1))) := rfl
    rw [e, h]
    simp
  | cons a r =>
    have e : ch (cutS z (some 1) none) = Ev.cutD (ch z) (some 1) none := rfl
    have k := cut_from (ch z) 1 (by rw [h]; simp)
    rw [e, ← h]
    exact k
theorem cut_tail (z : Str) (hz : Asc z) : Asc (cutS z (some 1) none) := asc_cut hz _ _
theorem shown_ok (S : List Nat) (hS : ∀ s ∈ S, s < 256) (hl : S.length ≤ 63) : f_shown_all [.lst (dN S)] = some (.str (Txt.join (" " : Str) (S.map tx))) := by
  have kc : ev p_shown_all k_shown_all_1 [some (.lst (dN S)), none] = .ok (.lst ((S.map tx).map .str)) := by
    unfold k_shown_all_1
    rw [ev_compM S (fun k : Nat => D.int (k : Nat)) (fun _ => true) (fun s => .str (tx s)) ?h1 ?h2 ?h3]
    case h1 =>
      simp -implicitDefEqProofs only [Ev.fnD, Ev.outO, Ev.run, Ev.exs, Ev.ex, Ev.evs, Ev.ev, Ev.evO, Ev.evC, Ev.evI, Ev.getV, Ev.R.bind_ok, Ev.R.bind_bad, Ev.bindT, Ev.bindMany, Ev.binD, Ev.augD, Ev.addI, Ev.subID, Ev.shrD, Ev.shlD, Ev.powD, Ev.andD, Ev.orD, Ev.xorD, Ev.cmpD, Ev.neD, Ev.ltD, Ev.leD, Ev.gtD, Ev.geD, Ev.truthD, Ev.D.asB, Ev.D.asI, Ev.isNonD, Ev.isiD, Ev.tagD, Ev.isTy, Ev.ofO, Ev.bfD, Ev.bmD, Option.bind_some, Option.bind_none, List.map_cons, List.map_nil, List.replicate_succ, List.replicate_zero, List.length_cons, List.length_nil, List.cons_append, List.nil_append, List.getElem?_cons_zero, List.getElem?_cons_succ, List.set_cons_zero, List.set_cons_succ, Ev.wipeE, Ev.rep1, Ev.rep2, Ev.rep3, Ev.rep4, Ev.evX, Ev.evXs, Ev.R.bind_exc, Ev.tryD, Ev.setO, Ev.raiseD, Ev.ofX_xc, Ev.ofX_nope, Ev.ofX_non, Ev.ofX_int, Ev.ofX_bl, Ev.ofX_str, Ev.ofX_lst, Ev.ofX_tup, Ev.ofX_obj, seq_dN]
    case h3 => exact filter_len _ _ _ (by omega)
    case h2 =>
      intro s hs
      refine ⟨[some (.lst (dN S)), some (.int (s : Nat))], rfl, evC_none, fun _ => ?_⟩
      have t := (tx_ok s (hS s hs)).2.1
      unfold e_shown_all_0
      simp -implicitDefEqProofs only [Ev.fnD, Ev.outO, Ev.run, Ev.exs, Ev.ex, Ev.evs, Ev.ev, Ev.evO, Ev.evC, Ev.evI, Ev.getV, Ev.R.bind_ok, Ev.R.bind_bad, Ev.bindT, Ev.bindMany, Ev.binD, Ev.augD, Ev.addI, Ev.subID, Ev.shrD, Ev.shlD, Ev.powD, Ev.andD, Ev.orD, Ev.xorD, Ev.cmpD, Ev.neD, Ev.ltD, Ev.leD, Ev.gtD, Ev.geD, Ev.truthD, Ev.D.asB, Ev.D.asI, Ev.isNonD, Ev.isiD, Ev.tagD, Ev.isTy, Ev.ofO, Ev.bfD, Ev.bmD, Option.bind_some, Option.bind_none, List.map_cons, List.map_nil, List.replicate_succ, List.replicate_zero, List.length_cons, List.length_nil, List.cons_append, List.nil_append, List.getElem?_cons_zero, List.getElem?_cons_succ, List.set_cons_zero, List.set_cons_succ, Ev.wipeE, Ev.rep1, Ev.rep2, Ev.rep3, Ev.rep4, Ev.evX, Ev.evXs, Ev.R.bind_exc, Ev.tryD, Ev.setO, Ev.raiseD, Ev.ofX_xc, Ev.ofX_nope, Ev.ofX_non, Ev.ofX_int, Ev.ofX_bl, Ev.ofX_str, Ev.ofX_lst, Ev.ofX_tup, Ev.ofX_obj, pp_shown_all, t]
    rw [List.filter_eq_self.mpr fun _ _ => rfl, List.map_map]
    rfl
  have st : ∀ ts : List Str, strsD (ts.map .str) = some ts := fun ts => by
    induction ts with
    | nil => rfl
    | cons t ts ih => rw [List.map_cons]; unfold strsD; rw [ih]
  have sm : ∀ (T : List Nat), (∀ s ∈ T, s < 256) → (((T.map tx).map (·.length)).sum ≤ 8 * T.length) := fun T => by
    induction T with
    | nil => intro _; exact Nat.le_refl _
    | cons s T ih =>
      intro h
      have a := (tx_ok s (h s List.mem_cons_self)).2.2.2
      have b := ih fun x hx => h x (List.mem_cons_of_mem _ hx)
      rw [List.map_cons, List.map_cons, List.sum_cons, List.length_cons]
      omega
  have jn : txD .join [.str (" " : Str), .lst ((S.map tx).map .str)] = .ok (.str (Txt.join (" " : Str) (S.map tx))) := by
    show (ofO (strsD ((S.map tx).map .str))).bind _ = _
    rw [st]
    show (if ((S.map tx).map (·.length)).sum + (S.map tx).length * (" " : Str).length ≤ 16777216 then R.ok (D.str (Txt.join (" " : Str) (S.map tx))) else .bad) = _
    have b1 : (" " : Str).length = 1 := by decide +kernel
    have := sm S hS
    rw [if_pos (by rw [b1, List.length_map]; omega)]
  refine fr_shown_all ?_
  unfold b_shown_all
  simp -implicitDefEqProofs only [Ev.fnD, Ev.outO, Ev.run, Ev.exs, Ev.ex, Ev.evs, Ev.ev, Ev.evO, Ev.evC, Ev.evI, Ev.getV, Ev.R.bind_ok, Ev.R.bind_bad, Ev.bindT, Ev.bindMany, Ev.binD, Ev.augD, Ev.addI, Ev.subID, Ev.shrD, Ev.shlD, Ev.powD, Ev.andD, Ev.orD, Ev.xorD, Ev.cmpD, Ev.neD, Ev.ltD, Ev.leD, Ev.gtD, Ev.geD, Ev.truthD, Ev.D.asB, Ev.D.asI, Ev.isNonD, Ev.isiD, Ev.tagD, Ev.isTy, Ev.ofO, Ev.bfD, Ev.bmD, Option.bind_some, Option.bind_none, List.map_cons, List.map_nil, List.replicate_succ, List.replicate_zero, List.length_cons, List.length_nil, List.cons_append, List.nil_append, List.getElem?_cons_zero, List.getElem?_cons_succ, List.set_cons_zero, List.set_cons_succ, Ev.wipeE, Ev.rep1, Ev.rep2, Ev.rep3, Ev.rep4, Ev.evX, Ev.evXs, Ev.R.bind_exc, Ev.tryD, Ev.setO, Ev.raiseD, Ev.ofX_xc, Ev.ofX_nope, Ev.ofX_non, Ev.ofX_int, Ev.ofX_bl, Ev.ofX_str, Ev.ofX_lst, Ev.ofX_tup, Ev.ofX_obj, kc, jn]
  exact rets _ _
end K05

set_option maxHeartbeats 2000000
namespace K05
open Ev PySem PySem.Spec PyProof.Rows L2
/-! ### the law -/
theorem asc_of {z : Str} (h : ((ch z).all fun c => decide (c < 128)) = true) : Asc z := fun c hc => of_decide_eq_true (List.all_eq_true.mp h c hc)
theorem at_str (S : Str) (n : Nat) (h1 : (ch S).length = n ∧ S.length ≤ 16777216) (h2 : ((ch S).all fun c => decide (c < 128)) = true) (k : Nat) (h : k < n) : ∃ c, c < 128 ∧ subD (.str S) (.int (k : Nat)) = .ok (.str (sg c)) := by
  have hk : k < (ch S).length := by rw [h1.1]; exact h
  exact ⟨_, asc_of h2 _ (List.getElem_mem hk), sub_str S k hk h1.2⟩
abbrev SC : Str := (" - a bcdefghi" : Str)
abbrev SD : Str := ("abcdefghi-" : Str)
theorem sc_len : (ch SC).length = 13 ∧ SC.length ≤ 16777216 := by decide +kernel
theorem sc_all : ((ch SC).all fun c => decide (c < 128)) = true := by decide +kernel
theorem sd_len : (ch SD).length = 10 ∧ SD.length ≤ 16777216 := by decide +kernel
theorem sd_all : ((ch SD).all fun c => decide (c < 128)) = true := by decide +kernel
theorem tail_ok (a0 a1 a3 a4 a5 a6 a7 : Option D) (z : Str) (hz : Asc z) (hl : z.length ≤ 900) (m : Int) : Rets (exs p_law fuel r_law_7 [a0, a1, some (.str z), a3, a4, a5, a6, a7, some (.int m), none, none]) (.bl true) := by
  have ls := len_str z (by omega)
  obtain ⟨k, hk, hk2⟩ := emod_nat (i := m % 2147483647) (j := (z.length : Nat) + 1) (by omega)
  have mk := @mod_pos (m % 2147483647) ((z.length : Nat) + 1) (by omega)
  rw [hk] at mk
  have s1 := slice_str z none (some (k : Int)) (by omega)
  have s2 := slice_str z (some ((k : Int) + 1)) none (by omega)
  have s3 := slice_str z (some (k : Int)) none (by omega)
  have l1 := cutS_length z none (some (k : Int))
  have l2 := cutS_length z (some ((k : Int) + 1)) none
  have l3 := cutS_length z (some (k : Int)) none
  have a1' := asc_cut hz none (some (k : Int))
  have a2' := asc_cut hz (some ((k : Int) + 1)) none
  have a3' := asc_cut hz (some (k : Int)) none
  generalize cutS z none (some (k : Int)) = x1 at *
  generalize cutS z (some ((k : Int) + 1)) none = x2 at *
  generalize cutS z (some (k : Int)) none = x3 at *
  have d1 := add_str x1 x2 (by omega)
  have r1 := reads_ok (asc_add a1' a2') (by rw [len_add]; omega)
  have fin : ∀ (c : Nat), c < 128 → Rets (exs p_law fuel r_law_8 [a0, a1, some (.str z), a3, a4, a5, a6, a7, some (.int (m % 2147483647)), some (.int (k : Nat)), some (.str (sg c))]) (.bl true) := by
    intro c c1
    have g1 : (sg c).length = 1 := rfl
    have d2 := add_str x1 (sg c) (by omega)
    have d4 := add_str (x1 ++ sg c) x3 (by rw [len_add]; omega)
    have r2 := reads_ok (asc_add (asc_add a1' (asc_sg c1)) a3') (by rw [len_add, len_add]; omega)
    by_cases q0 : m % 2147483647 / 4099 % 3 = 0
    · unfold r_law_8
      simp -implicitDefEqProofs only [Ev.fnD, Ev.outO, Ev.run, Ev.exs, Ev.ex, Ev.evs, Ev.ev, Ev.evO, Ev.evC, Ev.evI, Ev.getV, Ev.R.bind_ok, Ev.R.bind_bad, Ev.bindT, Ev.bindMany, Ev.binD, Ev.augD, Ev.addI, Ev.subID, Ev.shrD, Ev.shlD, Ev.powD, Ev.andD, Ev.orD, Ev.xorD, Ev.cmpD, Ev.neD, Ev.ltD, Ev.leD, Ev.gtD, Ev.geD, Ev.truthD, Ev.D.asB, Ev.D.asI, Ev.isNonD, Ev.isiD, Ev.tagD, Ev.isTy, Ev.ofO, Ev.bfD, Ev.bmD, Option.bind_some, Option.bind_none, List.map_cons, List.map_nil, List.replicate_succ, List.replicate_zero, List.length_cons, List.length_nil, List.cons_append, List.nil_append, List.getElem?_cons_zero, List.getElem?_cons_succ, List.set_cons_zero, List.set_cons_succ, Ev.wipeE, Ev.rep1, Ev.rep2, Ev.rep3, Ev.rep4, Ev.evX, Ev.evXs, Ev.R.bind_exc, Ev.tryD, Ev.setO, Ev.raiseD, Ev.ofX_xc, Ev.ofX_nope, Ev.ofX_non, Ev.ofX_int, Ev.ofX_bl, Ev.ofX_str, Ev.ofX_lst, Ev.ofX_tup, Ev.ofX_obj, Ev.fdL _ (j := 4099) rfl, Ev.moL _ (j := 3) rfl, eqI (m % 2147483647 / 4099 % 3) 0, decide_eq_true q0, s1, s2, d1, pp_law, r1]
      exact rets _ _
    · unfold r_law_8 r_law_9
      simp -implicitDefEqProofs only [Ev.fnD, Ev.outO, Ev.run, Ev.exs, Ev.ex, Ev.evs, Ev.ev, Ev.evO, Ev.evC, Ev.evI, Ev.getV, Ev.R.bind_ok, Ev.R.bind_bad, Ev.bindT, Ev.bindMany, Ev.binD, Ev.augD, Ev.addI, Ev.subID, Ev.shrD, Ev.shlD, Ev.powD, Ev.andD, Ev.orD, Ev.xorD, Ev.cmpD, Ev.neD, Ev.ltD, Ev.leD, Ev.gtD, Ev.geD, Ev.truthD, Ev.D.asB, Ev.D.asI, Ev.isNonD, Ev.isiD, Ev.tagD, Ev.isTy, Ev.ofO, Ev.bfD, Ev.bmD, Option.bind_some, Option.bind_none, List.map_cons, List.map_nil, List.replicate_succ, List.replicate_zero, List.length_cons, List.length_nil, List.cons_append, List.nil_append, List.getElem?_cons_zero, List.getElem?_cons_succ, List.set_cons_zero, List.set_cons_succ, Ev.wipeE, Ev.rep1, Ev.rep2, Ev.rep3, Ev.rep4, Ev.evX, Ev.evXs, Ev.R.bind_exc, Ev.tryD, Ev.setO, Ev.raiseD, Ev.ofX_xc, Ev.ofX_nope, Ev.ofX_non, Ev.ofX_int, Ev.ofX_bl, Ev.ofX_str, Ev.ofX_lst, Ev.ofX_tup, Ev.ofX_obj, Ev.fdL _ (j := 4099) rfl, Ev.moL _ (j := 3) rfl, eqI (m % 2147483647 / 4099 % 3) 0, decide_eq_false q0, s1, s3, d2, d4, pp_law, r2]
      exact rets _ _
  by_cases q : m % 2147483647 / 1009 % 2 = 1
  · obtain ⟨j, hj, hj2⟩ := emod_nat (i := m % 2147483647 / 2018) (j := 10) (by omega)
    have mj := @mod_pos (m % 2147483647 / 2018) 10 (by omega)
    rw [hj] at mj
    obtain ⟨c, c1, c2⟩ := at_str SD 10 sd_len sd_all j (by omega)
    have f := fin c c1
    unfold r_law_7
    simp -implicitDefEqProofs only [Ev.fnD, Ev.outO, Ev.run, Ev.exs, Ev.ex, Ev.evs, Ev.ev, Ev.evO, Ev.evC, Ev.evI, Ev.getV, Ev.R.bind_ok, Ev.R.bind_bad, Ev.bindT, Ev.bindMany, Ev.binD, Ev.augD, Ev.addI, Ev.subID, Ev.shrD, Ev.shlD, Ev.powD, Ev.andD, Ev.orD, Ev.xorD, Ev.cmpD, Ev.neD, Ev.ltD, Ev.leD, Ev.gtD, Ev.geD, Ev.truthD, Ev.D.asB, Ev.D.asI, Ev.isNonD, Ev.isiD, Ev.tagD, Ev.isTy, Ev.ofO, Ev.bfD, Ev.bmD, Option.bind_some, Option.bind_none, List.map_cons, List.map_nil, List.replicate_succ, List.replicate_zero, List.length_cons, List.length_nil, List.cons_append, List.nil_append, List.getElem?_cons_zero, List.getElem?_cons_succ, List.set_cons_zero, List.set_cons_succ, Ev.wipeE, Ev.rep1, Ev.rep2, Ev.rep3, Ev.rep4, Ev.evX, Ev.evXs, Ev.R.bind_exc, Ev.tryD, Ev.setO, Ev.raiseD, Ev.ofX_xc, Ev.ofX_nope, Ev.ofX_non, Ev.ofX_int, Ev.ofX_bl, Ev.ofX_str, Ev.ofX_lst, Ev.ofX_tup, Ev.ofX_obj, Ev.moL _ (j := 2147483647) rfl, Ev.moL _ (j := 2) rfl, ls, mk, Ev.fdL _ (j := 1009) rfl, Ev.fdL _ (j := 2018) rfl, eqI (m % 2147483647 / 1009 % 2) 1, decide_eq_true q, mj, c2]
    exact f
  · have f := fin 32 (by decide)
    rw [← blank_eq] at f
    unfold r_law_7
    simp -implicitDefEqProofs only [Ev.fnD, Ev.outO, Ev.run, Ev.exs, Ev.ex, Ev.evs, Ev.ev, Ev.evO, Ev.evC, Ev.evI, Ev.getV, Ev.R.bind_ok, Ev.R.bind_bad, Ev.bindT, Ev.bindMany, Ev.binD, Ev.augD, Ev.addI, Ev.subID, Ev.shrD, Ev.shlD, Ev.powD, Ev.andD, Ev.orD, Ev.xorD, Ev.cmpD, Ev.neD, Ev.ltD, Ev.leD, Ev.gtD, Ev.geD, Ev.truthD, Ev.D.asB, Ev.D.asI, Ev.isNonD, Ev.isiD, Ev.tagD, Ev.isTy, Ev.ofO, Ev.bfD, Ev.bmD, Option.bind_some, Option.bind_none, List.map_cons, List.map_nil, List.replicate_succ, List.replicate_zero, List.length_cons, List.length_nil, List.cons_append, List.nil_append, List.getElem?_cons_zero, List.getElem?_cons_succ, List.set_cons_zero, List.set_cons_succ, Ev.wipeE, Ev.rep1, Ev.rep2, Ev.rep3, Ev.rep4, Ev.evX, Ev.evXs, Ev.R.bind_exc, Ev.tryD, Ev.setO, Ev.raiseD, Ev.ofX_xc, Ev.ofX_nope, Ev.ofX_non, Ev.ofX_int, Ev.ofX_bl, Ev.ofX_str, Ev.ofX_lst, Ev.ofX_tup, Ev.ofX_obj, Ev.moL _ (j := 2147483647) rfl, Ev.moL _ (j := 2) rfl, ls, mk, Ev.fdL _ (j := 1009) rfl, Ev.fdL _ (j := 2018) rfl, eqI (m % 2147483647 / 1009 % 2) 1, decide_eq_false q]
    exact f
theorem aim : Aim := by
  intro ns hl hb
  have s1 := to_scr ns 63
  have s1 : sliceD none (some 63) (.scr ns) = _ := s1
  have lt : (ns.take 63).length ≤ 63 := by rw [List.length_take]; omega
  generalize ns.take 63 = ks at s1 lt
  have sq2 : (D.lst (iL ks)).seq = some (ks.map fun c : Int => D.int c) := rfl
  have md : ∀ c : Int, ((c % 256).toNat : Int) = c % 256 ∧ (c % 256).toNat < 256 := fun c => by
    have h1 := Int.emod_nonneg c (show (256 : Int) ≠ 0 by omega)
    have h2 := Int.emod_lt_of_pos c (show (0 : Int) < 256 by omega)
    omega
  have kc : ev p_law k_law_1 [some (.scr ns), none, none, none, none, none, none, none, none, none, none] = .ok (.lst (dN (ks.map fun c => (c % 256).toNat))) := by
    unfold k_law_1
    rw [ev_compM ks (fun c : Int => D.int c) (fun _ => true) (fun c => .int ((c % 256).toNat : Nat)) ?h1 ?h2 ?h3]
    case h1 => simp -implicitDefEqProofs only [Ev.fnD, Ev.outO, Ev.run, Ev.exs, Ev.ex, Ev.evs, Ev.ev, Ev.evO, Ev.evC, Ev.evI, Ev.getV, Ev.R.bind_ok, Ev.R.bind_bad, Ev.bindT, Ev.bindMany, Ev.binD, Ev.augD, Ev.addI, Ev.subID, Ev.shrD, Ev.shlD, Ev.powD, Ev.andD, Ev.orD, Ev.xorD, Ev.cmpD, Ev.neD, Ev.ltD, Ev.leD, Ev.gtD, Ev.geD, Ev.truthD, Ev.D.asB, Ev.D.asI, Ev.isNonD, Ev.isiD, Ev.tagD, Ev.isTy, Ev.ofO, Ev.bfD, Ev.bmD, Option.bind_some, Option.bind_none, List.map_cons, List.map_nil, List.replicate_succ, List.replicate_zero, List.length_cons, List.length_nil, List.cons_append, List.nil_append, List.getElem?_cons_zero, List.getElem?_cons_succ, List.set_cons_zero, List.set_cons_succ, Ev.wipeE, Ev.rep1, Ev.rep2, Ev.rep3, Ev.rep4, Ev.evX, Ev.evXs, Ev.R.bind_exc, Ev.tryD, Ev.setO, Ev.raiseD, Ev.ofX_xc, Ev.ofX_nope, Ev.ofX_non, Ev.ofX_int, Ev.ofX_bl, Ev.ofX_str, Ev.ofX_lst, Ev.ofX_tup, Ev.ofX_obj, s1, sq2]
    case h3 => exact filter_len _ _ _ (by omega)
    case h2 =>
      intro c _
      refine ⟨[some (.scr ns), none, none, none, none, none, none, some (.int c), none, none, none], rfl, evC_none, fun _ => ?_⟩
      rw [(md c).1]
      unfold e_law_0
      simp -implicitDefEqProofs only [Ev.fnD, Ev.outO, Ev.run, Ev.exs, Ev.ex, Ev.evs, Ev.ev, Ev.evO, Ev.evC, Ev.evI, Ev.getV, Ev.R.bind_ok, Ev.R.bind_bad, Ev.bindT, Ev.bindMany, Ev.binD, Ev.augD, Ev.addI, Ev.subID, Ev.shrD, Ev.shlD, Ev.powD, Ev.andD, Ev.orD, Ev.xorD, Ev.cmpD, Ev.neD, Ev.ltD, Ev.leD, Ev.gtD, Ev.geD, Ev.truthD, Ev.D.asB, Ev.D.asI, Ev.isNonD, Ev.isiD, Ev.tagD, Ev.isTy, Ev.ofO, Ev.bfD, Ev.bmD, Option.bind_some, Option.bind_none, List.map_cons, List.map_nil, List.replicate_succ, List.replicate_zero, List.length_cons, List.length_nil, List.cons_append, List.nil_append, List.getElem?_cons_zero, List.getElem?_cons_succ, List.set_cons_zero, List.set_cons_succ, Ev.wipeE, Ev.rep1, Ev.rep2, Ev.rep3, Ev.rep4, Ev.evX, Ev.evXs, Ev.R.bind_exc, Ev.tryD, Ev.setO, Ev.raiseD, Ev.ofX_xc, Ev.ofX_nope, Ev.ofX_non, Ev.ofX_int, Ev.ofX_bl, Ev.ofX_str, Ev.ofX_lst, Ev.ofX_tup, Ev.ofX_obj, Ev.moL _ (j := 256) rfl]
    rw [List.filter_eq_self.mpr fun _ _ => rfl]
    unfold dN
    rw [List.map_map]
    rfl
  have hS : ∀ s ∈ ks.map fun c => (c % 256).toNat, s < 256 := fun s hs => by
    obtain ⟨c, _, rfl⟩ := List.mem_map.mp hs
    exact (md c).2
  have lS : (ks.map fun c => (c % 256).toNat).length ≤ 63 := by rw [List.length_map]; exact lt
  generalize (ks.map fun c => (c % 256).toNat) = S at kc hS lS
  have emp : Asc ("" : Str) := fun c hc => by rw [empty_ch] at hc; cases hc
  have el : ("" : Str).length = 0 := by decide +kernel
  have bl : (" " : Str).length = 1 := by decide +kernel
  have ab : Asc (" " : Str) := by rw [blank_eq]; exact asc_sg (by decide)
  have cb : ch (" " : Str) = [32] := by decide +kernel
  have k1 := forL_cnt (t := .one 3) (b := fun env => exs p_law fuel l_law_2 env) (fun k : Nat => D.int (k : Nat)) (fun i env => ∃ (z : Str) (o3 : Option D), Asc z ∧ z.length ≤ 9 * i ∧ ch z = fl_ [] ((S.take i).map tx) ∧ env = [some (.scr ns), some (.lst (dN S)), some (.str z), o3, none, none, none, none, none, none, none]) S [some (.scr ns), some (.lst (dN S)), some (.str ("" : Str)), none, none, none, none, none, none, none, none] ⟨_, none, emp, by omega, by rw [List.take_zero]; exact empty_ch, rfl⟩ (by
    rintro i env s hi hs ⟨z, o3, hz, lz, cz, rfl⟩
    obtain ⟨_, hs⟩ := List.getElem?_eq_some_iff.mp hs
    have hm : s ∈ S := hs ▸ List.getElem_mem hi
    obtain ⟨t1, _, t3, t4⟩ := tx_ok s (hS s hm)
    have ad1 := add_str z (" " : Str) (by omega)
    have ad2 := add_str (z ++ (" " : Str)) (tx s) (by rw [len_add]; omega)
    unfold l_law_2
    simp -implicitDefEqProofs only [Ev.fnD, Ev.outO, Ev.run, Ev.exs, Ev.ex, Ev.evs, Ev.ev, Ev.evO, Ev.evC, Ev.evI, Ev.getV, Ev.R.bind_ok, Ev.R.bind_bad, Ev.bindT, Ev.bindMany, Ev.binD, Ev.augD, Ev.addI, Ev.subID, Ev.shrD, Ev.shlD, Ev.powD, Ev.andD, Ev.orD, Ev.xorD, Ev.cmpD, Ev.neD, Ev.ltD, Ev.leD, Ev.gtD, Ev.geD, Ev.truthD, Ev.D.asB, Ev.D.asI, Ev.isNonD, Ev.isiD, Ev.tagD, Ev.isTy, Ev.ofO, Ev.bfD, Ev.bmD, Option.bind_some, Option.bind_none, List.map_cons, List.map_nil, List.replicate_succ, List.replicate_zero, List.length_cons, List.length_nil, List.cons_append, List.nil_append, List.getElem?_cons_zero, List.getElem?_cons_succ, List.set_cons_zero, List.set_cons_succ, Ev.wipeE, Ev.rep1, Ev.rep2, Ev.rep3, Ev.rep4, Ev.evX, Ev.evXs, Ev.R.bind_exc, Ev.tryD, Ev.setO, Ev.raiseD, Ev.ofX_xc, Ev.ofX_nope, Ev.ofX_non, Ev.ofX_int, Ev.ofX_bl, Ev.ofX_str, Ev.ofX_lst, Ev.ofX_tup, Ev.ofX_obj, ad1, pp_law, t1, ad2]
    refine nx ⟨_, _, asc_add (asc_add hz ab) t3, by rw [len_add, len_add]; omega, ?_, rfl⟩
    rw [ch_add, ch_add, cz, cb]
    have tk : S.take (i + 1) = S.take i ++ [s] := by rw [← hs]; exact (List.take_append_getElem hi).symm
    rw [tk, List.map_append]
    unfold fl_
    rw [List.foldl_append]
    rfl)
  obtain ⟨e1, h1, z, o3, hz, lz, cz, rfl⟩ := k1
  rw [List.take_length] at cz
  have sl := slice_str z (some 1) none (by omega)
  have l2 := cutS_length z (some 1) none
  have hz2 := cut_tail z hz
  have jz : cutS z (some 1) none = Txt.join (" " : Str) (S.map tx) := by
    refine str_ext ?_
    rw [cut_one, cz]
    cases S with
    | nil => decide +kernel
    | cons s r =>
      rw [List.map_cons, join_ch]
      show (fl_ ([] ++ [32] ++ ch (tx s)) (r.map tx)).drop 1 = _
      rw [fl_app]
      rfl
  have sh := shown_ok S hS lS
  rw [← jz] at sh
  generalize cutS z (some 1) none = y at *
  have ey := eq_str y y
  rw [decide_eq_true rfl] at ey
  have eS := eq_dN S S
  rw [decide_eq_true rfl] at eS
  have r1 := reads_ok hz2 (by omega)
  have sq1 := seq_dN S
  have k2 := forL_cnt (t := .one 7) (b := fun env => exs p_law fuel l_law_3 env) (fun c : Int => D.int c) (fun i env => ∃ (x : Str) (o7 : Option D), Asc x ∧ x.length ≤ i ∧ env = [some (.scr ns), some (.lst (dN S)), some (.str y), o3, some (.lst (dN S)), some (.str y), some (.str x), o7, none, none, none]) ks [some (.scr ns), some (.lst (dN S)), some (.str y), o3, some (.lst (dN S)), some (.str y), some (.str ("" : Str)), none, none, none, none] ⟨_, none, emp, by omega, rfl⟩ (by
    rintro i env c hi _ ⟨x, o7, hx, lx, rfl⟩
    obtain ⟨k, hk, hk2⟩ := emod_nat (i := c * 16807 % 65521) (j := 13) (by omega)
    have m9 := @mod_pos (c * 16807 % 65521) 13 (by omega)
    rw [hk] at m9
    obtain ⟨e, e1, e2⟩ := at_str SC 13 sc_len sc_all k (by omega)
    have g2 : (sg e).length = 1 := rfl
    have ad2 := add_str x (sg e) (by omega)
    unfold l_law_3
    simp -implicitDefEqProofs only [Ev.fnD, Ev.outO, Ev.run, Ev.exs, Ev.ex, Ev.evs, Ev.ev, Ev.evO, Ev.evC, Ev.evI, Ev.getV, Ev.R.bind_ok, Ev.R.bind_bad, Ev.bindT, Ev.bindMany, Ev.binD, Ev.augD, Ev.addI, Ev.subID, Ev.shrD, Ev.shlD, Ev.powD, Ev.andD, Ev.orD, Ev.xorD, Ev.cmpD, Ev.neD, Ev.ltD, Ev.leD, Ev.gtD, Ev.geD, Ev.truthD, Ev.D.asB, Ev.D.asI, Ev.isNonD, Ev.isiD, Ev.tagD, Ev.isTy, Ev.ofO, Ev.bfD, Ev.bmD, Option.bind_some, Option.bind_none, List.map_cons, List.map_nil, List.replicate_succ, List.replicate_zero, List.length_cons, List.length_nil, List.cons_append, List.nil_append, List.getElem?_cons_zero, List.getElem?_cons_succ, List.set_cons_zero, List.set_cons_succ, Ev.wipeE, Ev.rep1, Ev.rep2, Ev.rep3, Ev.rep4, Ev.evX, Ev.evXs, Ev.R.bind_exc, Ev.tryD, Ev.setO, Ev.raiseD, Ev.ofX_xc, Ev.ofX_nope, Ev.ofX_non, Ev.ofX_int, Ev.ofX_bl, Ev.ofX_str, Ev.ofX_lst, Ev.ofX_tup, Ev.ofX_obj, Ev.mulR _ (fits_of (i := 16807) (by omega) (by omega)), Ev.moL _ (j := 65521) rfl, m9, e2, ad2]
    exact nx ⟨_, _, asc_add hx (asc_sg e1), by rw [len_add]; omega, rfl⟩)
  obtain ⟨e2, h2, x, o7, hx, lx, rfl⟩ := k2
  have q1 := reads_ok hx (by omega)
  have c3 := slice_str x none (some 3) (by omega)
  have l3 := cutS_length x none (some 3)
  have q2 := reads_ok (asc_cut hx none (some 3)) (by omega)
  have sm : sumD [.lst (dN S)] = .ok (.int (S.map Int.ofNat).sum) := by
    unfold sumD
    dsimp only
    rw [dN_iL, allI_ints, Ev.R.bind_ok]
  have ln : lenD [.scr ns] = .ok (.int (ns.length : Nat)) := by
    show R.ok (D.int ((ns.map D.int).length : Nat)) = _
    rw [List.length_map]
  refine fr_law ?_
  unfold b_law r_law_4 r_law_5 r_law_6
  cases ns with
  | nil =>
    have t := tail_ok (some (.scr [])) (some (.lst (dN S))) o3 (some (.lst (dN S))) (some (.str y)) (some (.str x)) o7 y hz2 (by omega) ((S.map Int.ofNat).sum * 48271 + ((S.length : Nat) : Int) * 7919)
    have ln : lenD [.scr []] = .ok (.int 0) := rfl
    simp -implicitDefEqProofs only [Ev.fnD, Ev.outO, Ev.run, Ev.exs, Ev.ex, Ev.evs, Ev.ev, Ev.evO, Ev.evC, Ev.evI, Ev.getV, Ev.R.bind_ok, Ev.R.bind_bad, Ev.bindT, Ev.bindMany, Ev.binD, Ev.augD, Ev.addI, Ev.subID, Ev.shrD, Ev.shlD, Ev.powD, Ev.andD, Ev.orD, Ev.xorD, Ev.cmpD, Ev.neD, Ev.ltD, Ev.leD, Ev.gtD, Ev.geD, Ev.truthD, Ev.D.asB, Ev.D.asI, Ev.isNonD, Ev.isiD, Ev.tagD, Ev.isTy, Ev.ofO, Ev.bfD, Ev.bmD, Option.bind_some, Option.bind_none, List.map_cons, List.map_nil, List.replicate_succ, List.replicate_zero, List.length_cons, List.length_nil, List.cons_append, List.nil_append, List.getElem?_cons_zero, List.getElem?_cons_succ, List.set_cons_zero, List.set_cons_succ, Ev.wipeE, Ev.rep1, Ev.rep2, Ev.rep3, Ev.rep4, Ev.evX, Ev.evXs, Ev.R.bind_exc, Ev.tryD, Ev.setO, Ev.raiseD, Ev.ofX_xc, Ev.ofX_nope, Ev.ofX_non, Ev.ofX_int, Ev.ofX_bl, Ev.ofX_str, Ev.ofX_lst, Ev.ofX_tup, Ev.ofX_obj, kc, sq1, h1, sl, list_lst, pp_law, sh, ey, eS, r1, Bool.not_true, s1, sq2, h2, q1, c3, q2, sm, Ev.mulR _ (fits_of (i := 48271) (by omega) (by omega)), Ev.mulR _ (fits_of (i := 7919) (by omega) (by omega)), Ev.mulR _ (fits_of (i := 16807) (by omega) (by omega)), len_dN, ln, gt_iff_lt]
    exact t
  | cons n0 nr =>
    have t := tail_ok (some (.scr (n0 :: nr))) (some (.lst (dN S))) o3 (some (.lst (dN S))) (some (.str y)) (some (.str x)) o7 y hz2 (by omega) ((S.map Int.ofNat).sum * 48271 + ((S.length : Nat) : Int) * 7919 + n0 * 16807)
    have l0 : decide ((0 : Int) < ((nr.length + 1 : Nat) : Int)) = true := decide_eq_true (by omega)
    have s0 : subD (.scr (n0 :: nr)) (.int 0) = .ok (.int n0) := by
      show ofO ((L2.atI (n0 :: nr) ((0 : Nat) : Int)).map D.int) = _
      rw [atI_nat _ _ (by simp)]
      rfl
    simp -implicitDefEqProofs only [Ev.fnD, Ev.outO, Ev.run, Ev.exs, Ev.ex, Ev.evs, Ev.ev, Ev.evO, Ev.evC, Ev.evI, Ev.getV, Ev.R.bind_ok, Ev.R.bind_bad, Ev.bindT, Ev.bindMany, Ev.binD, Ev.augD, Ev.addI, Ev.subID, Ev.shrD, Ev.shlD, Ev.powD, Ev.andD, Ev.orD, Ev.xorD, Ev.cmpD, Ev.neD, Ev.ltD, Ev.leD, Ev.gtD, Ev.geD, Ev.truthD, Ev.D.asB, Ev.D.asI, Ev.isNonD, Ev.isiD, Ev.tagD, Ev.isTy, Ev.ofO, Ev.bfD, Ev.bmD, Option.bind_some, Option.bind_none, List.map_cons, List.map_nil, List.replicate_succ, List.replicate_zero, List.length_cons, List.length_nil, List.cons_append, List.nil_append, List.getElem?_cons_zero, List.getElem?_cons_succ, List.set_cons_zero, List.set_cons_succ, Ev.wipeE, Ev.rep1, Ev.rep2, Ev.rep3, Ev.rep4, Ev.evX, Ev.evXs, Ev.R.bind_exc, Ev.tryD, Ev.setO, Ev.raiseD, Ev.ofX_xc, Ev.ofX_nope, Ev.ofX_non, Ev.ofX_int, Ev.ofX_bl, Ev.ofX_str, Ev.ofX_lst, Ev.ofX_tup, Ev.ofX_obj, kc, sq1, h1, sl, list_lst, pp_law, sh, ey, eS, r1, Bool.not_true, s1, sq2, h2, q1, c3, q2, sm, Ev.mulR _ (fits_of (i := 48271) (by omega) (by omega)), Ev.mulR _ (fits_of (i := 7919) (by omega) (by omega)), Ev.mulR _ (fits_of (i := 16807) (by omega) (by omega)), len_dN, ln, gt_iff_lt, l0, s0]
    exact t
end K05
theorem PySem.Challenge.cw_basehouse_k05_sets_written_holds : PySem.Challenge.rw_basehouse_k05_sets_written.Holds :=
  K05.holds K05.aim
