import PyProof.Rows.All
import Wide.All
import OpenK.AllK
import Wide.FinOn
import HandS.ForMost
import HandS.ForExc
import HandS.Lambda
import HandS.TupAny
import HandS.TupMul
import HandS.Style
import HandS.Wide
import HandS.IsInst
import HandS.Zip
import HandS.ExcOwn
import HandS.ExcIs
import HandS.TryOnly
import HandS.Conv
import KE.KDflt
import HandS.ExcInit
import OpenK.KCls
import HandS.ExcField
import HandS.EndOwn
import KE.KNestM
import HandS.Deep
import HandS.StrMore
import PyProof.Rows.StrCut
import HandS.ReplaceList
import KE.KExcIs
import PySem.Challenge.RW_tabgrow_k20_strokes
set_option Elab.async false
set_option linter.all false
set_option maxRecDepth 100000
/-! ## DlBase -/
/-! Plain data over the abstract heap, and what code does to it. -/
namespace Dl
open PySem L2

/-- data: plain values, frozen tuples and lists, and references into the store -/
inductive D where
  | non | bl (b : Bool) | int (i : Int) | str (s : List Nat) | tup (ds : List D) | lst (ds : List D) | ref (n : Nat) | scr (ns : List Int)
  /-- an exception as an except suite holds it: where it stands, its dict, its field, its number -/
  | exn (a : Nat) (o : Option (Nat × Str × Int))
  deriving Inhabited

mutual
def D.beq : D → D → Bool
  | .non, .non => true
  | .bl a, .bl b => a == b
  | .int a, .int b => a == b
  | .str a, .str b => a == b
  | .tup a, .tup b => D.beqs a b
  | .lst a, .lst b => D.beqs a b
  | .ref a, .ref b => a == b
  | .scr a, .scr b => a == b
  | .exn a o, .exn b u => decide (a = b ∧ o = u)
  | _, _ => false
def D.beqs : List D → List D → Bool
  | [], [] => true
  | x :: xs, y :: ys => D.beq x y && D.beqs xs ys
  | _, _ => false
end
mutual
theorem D.beq_refl : ∀ d : D, D.beq d d = true
  | .non => rfl
  | .bl a => by simp [D.beq]
  | .int a => by simp [D.beq]
  | .str a => by simp [D.beq]
  | .tup a => by unfold D.beq; exact D.beqs_refl a
  | .lst a => by unfold D.beq; exact D.beqs_refl a
  | .ref a => by simp [D.beq]
  | .scr a => by simp [D.beq]
  | .exn a o => by simp [D.beq]
theorem D.beqs_refl : ∀ ds : List D, D.beqs ds ds = true
  | [] => rfl
  | x :: xs => by unfold D.beqs; rw [D.beq_refl x, D.beqs_refl xs]; rfl
end
mutual
theorem D.eq_of_beq : ∀ (d e : D), D.beq d e = true → d = e
  | .non, e, h => by cases e <;> simp_all [D.beq]
  | .bl a, e, h => by cases e <;> simp_all [D.beq]
  | .int a, e, h => by cases e <;> simp_all [D.beq]
  | .str a, e, h => by cases e <;> simp_all [D.beq]
  | .ref a, e, h => by cases e <;> simp_all [D.beq]
  | .scr a, e, h => by cases e <;> simp_all [D.beq]
  | .exn a o, e, h => by cases e <;> simp_all [D.beq]
  | .tup a, e, h => by
    cases e with
    | tup b => unfold D.beq at h; rw [D.eqs_of_beqs a b h]
    | _ => simp [D.beq] at h
  | .lst a, e, h => by
    cases e with
    | lst b => unfold D.beq at h; rw [D.eqs_of_beqs a b h]
    | _ => simp [D.beq] at h
theorem D.eqs_of_beqs : ∀ (ds es : List D), D.beqs ds es = true → ds = es
  | [], es, h => by cases es <;> simp_all [D.beqs]
  | x :: xs, es, h => by
    cases es with
    | nil => simp [D.beqs] at h
    | cons y ys =>
      unfold D.beqs at h
      rw [Bool.and_eq_true] at h
      rw [D.eq_of_beq x y h.1, D.eqs_of_beqs xs ys h.2]
end

/-- what stands in the store -/
inductive Ob where
  | lst (ds : List D)
  | ins (C : Nat) (fs : List (Str × D))
  | dK (kvs : List (Key × D))
  | dT (kvs : List (List Key × D))
  | dead
abbrev Store := List Ob
abbrev Env := List (Option D)

/-- the longest text, list -/
def LIM : Nat := 1000000

/-- how an end came: a value, an exception (its class, what it bears), or no word is said -/
inductive R (A : Type) where
  | ok (a : A)
  | exc (c : Nat) (p : Option D) (st : Store)
  | bad
def R.bind {A B : Type} (r : R A) (f : A → R B) : R B := match r with
  | .ok a => f a
  | .exc c p st => .exc c p st
  | .bad => .bad
@[simp] theorem R.bind_ok {A B : Type} (a : A) (f : A → R B) : (R.ok a).bind f = f a := rfl
@[simp] theorem R.bind_exc {A B : Type} (c : Nat) (p : Option D) (st : Store) (f : A → R B) : (R.exc c p st).bind f = .exc c p st := rfl
@[simp] theorem R.bind_bad {A B : Type} (f : A → R B) : (R.bad).bind f = R.bad := rfl
/-- a value that may lack -/
def R.of {A : Type} : Option A → R A
  | some a => .ok a
  | none => .bad
@[simp] theorem R.of_some {A : Type} (a : A) : R.of (some a) = .ok a := rfl
@[simp] theorem R.of_none {A : Type} : R.of (none : Option A) = .bad := rfl

/-- the world: the written part, the classes by number, the one field of an exception's class -/
structure Wd where
  K : PySem.W.Frag
  cls : Nat → Addr
  pay : Nat → Option Str
  /-- the tables of the defs that make lambdas, the lambdas' names -/
  tabs : List (Addr × Str)

/-- the script's list -/
def ScrAt (F : Hp) (a : Addr) (ns : List Int) : Prop := (∃ o, F a = some (.frz o (.lst (ns.map V.int)))) ∨ F a = some (.lst (ns.map V.int))
theorem ScrAt.mono {F F' : Hp} {a : Addr} {ns : List Int} (s : Same F F') : ScrAt F a ns → ScrAt F' a ns
  | .inl ⟨o, h⟩ => .inl ⟨o, s _ _ h⟩
  | .inr h => .inr (s _ _ h)
theorem ScrAt.sq {F H : Hp} {a : Addr} {ns : List Int} {K : PySem.W.Frag} (s : Same F H) : ScrAt F a ns → SqL K H a (ns.map V.int)
  | .inl ⟨o, h⟩ => .inl (.inr ⟨o, s _ _ h⟩)
  | .inr h => .of (s _ _ h)
mutual
inductive Rep (F : Hp) (rho : List Addr) : V → D → Prop
  | non : Rep F rho .non .non
  | bl (b : Bool) : Rep F rho (.bl b) (.bl b)
  | int (i : Int) : Rep F rho (.int i) (.int i)
  | str (s : List Nat) : s.all (fun c => decide (c < 128)) = true → s.length ≤ LIM → Rep F rho (.str ⟨s.toArray⟩) (.str s)
  | tup {a : Addr} {vs : List V} {ds : List D} : F a = some (.tup vs) → Reps F rho vs ds → Rep F rho (.ref a) (.tup ds)
  | lst {a : Addr} {vs : List V} {ds : List D} : F a = some (.lst vs) → Reps F rho vs ds → Rep F rho (.ref a) (.lst ds)
  | ref {a : Addr} {n : Nat} : rho[n]? = some a → Rep F rho (.ref a) (.ref n)
  | scr {a : Addr} {ns : List Int} : ScrAt F a ns → Rep F rho (.ref a) (.scr ns)
  | exn0 (a : Addr) : Rep F rho (.ref a) (.exn a none)
  | exn1 {a dd : Addr} {f : Str} {i : Int} : F dd = some (.xd [(f, .int i)]) → Rep F rho (.ref a) (.exn a (some (dd, f, i)))
inductive Reps (F : Hp) (rho : List Addr) : List V → List D → Prop
  | nil : Reps F rho [] []
  | cons {v : V} {vs : List V} {d : D} {ds : List D} : Rep F rho v d → Reps F rho vs ds → Reps F rho (v :: vs) (d :: ds)
end

def Ext (r r' : List Addr) : Prop := ∀ (i : Nat) (a : Addr), r[i]? = some a → r'[i]? = some a
theorem Ext.refl (r : List Addr) : Ext r r := fun _ _ h => h
theorem Ext.trans {a b c : List Addr} (h : Ext a b) (k : Ext b c) : Ext a c := fun i x e => k i x (h i x e)
theorem Ext.snoc (r : List Addr) (a : Addr) : Ext r (r ++ [a]) := fun i x e => by
  have h := (List.getElem?_eq_some_iff.mp e).1
  rw [List.getElem?_append_left h]; exact e

section
variable {F F' : Hp} {r r' : List Addr}
mutual
theorem Rep.mono (s : Same F F') (x : Ext r r') : ∀ {d : D} {v : V}, Rep F r v d → Rep F' r' v d
  | _, _, .non => .non
  | _, _, .bl b => .bl b
  | _, _, .int i => .int i
  | _, _, .str t h1 h2 => .str t h1 h2
  | _, _, .tup h k => .tup (s _ _ h) (Reps.mono s x k)
  | _, _, .lst h k => .lst (s _ _ h) (Reps.mono s x k)
  | _, _, .ref h => .ref (x _ _ h)
  | _, _, .scr h => .scr (h.mono s)
  | _, _, .exn0 a => .exn0 a
  | _, _, .exn1 h => .exn1 (s _ _ h)
theorem Reps.mono (s : Same F F') (x : Ext r r') : ∀ {ds : List D} {vs : List V}, Reps F r vs ds → Reps F' r' vs ds
  | _, _, .nil => .nil
  | _, _, .cons h k => .cons (Rep.mono s x h) (Reps.mono s x k)
end
end
section
variable {F : Hp} {r : List Addr}
theorem Reps.length : ∀ {vs : List V} {ds : List D}, Reps F r vs ds → vs.length = ds.length
  | _, _, .nil => rfl
  | _, _, .cons _ k => by simp [Reps.length k]
theorem Reps.get : ∀ {vs : List V} {ds : List D} {i : Nat} {d : D}, Reps F r vs ds → ds[i]? = some d → ∃ v, vs[i]? = some v ∧ Rep F r v d
  | _, _, _, _, .nil, e => by simp at e
  | _, _, 0, _, .cons h _, e => by simp at e; subst e; exact ⟨_, rfl, h⟩
  | _, _, i + 1, d, .cons _ k, e => by
    obtain ⟨v, h1, h2⟩ := Reps.get (i := i) k (by simpa using e)
    exact ⟨v, by simpa using h1, h2⟩
theorem Reps.getV : ∀ {vs : List V} {ds : List D} {i : Nat} {v : V}, Reps F r vs ds → vs[i]? = some v → ∃ d, ds[i]? = some d ∧ Rep F r v d
  | _, _, _, _, .nil, e => by simp at e
  | _, _, 0, _, .cons h _, e => by simp at e; subst e; exact ⟨_, rfl, h⟩
  | _, _, i + 1, d, .cons _ k, e => by
    obtain ⟨v, h1, h2⟩ := Reps.getV (i := i) k (by simpa using e)
    exact ⟨v, by simpa using h1, h2⟩
theorem Reps.append : ∀ {vs ws : List V} {ds es : List D}, Reps F r vs ds → Reps F r ws es → Reps F r (vs ++ ws) (ds ++ es)
  | _, _, _, _, .nil, k => k
  | _, _, _, _, .cons h t, k => .cons h (Reps.append t k)
theorem Reps.take : ∀ {vs : List V} {ds : List D} (n : Nat), Reps F r vs ds → Reps F r (vs.take n) (ds.take n)
  | _, _, 0, _ => .nil
  | _, _, _ + 1, .nil => .nil
  | _, _, n + 1, .cons h t => .cons h (Reps.take n t)
theorem Reps.drop : ∀ {vs : List V} {ds : List D} (n : Nat), Reps F r vs ds → Reps F r (vs.drop n) (ds.drop n)
  | _, _, 0, h => h
  | _, _, _ + 1, .nil => .nil
  | _, _, n + 1, .cons _ t => Reps.drop n t
theorem Reps.set {v : V} {d : D} (h : Rep F r v d) : ∀ {vs : List V} {ds : List D} (i : Nat), Reps F r vs ds → Reps F r (vs.set i v) (ds.set i d)
  | _, _, _, .nil => .nil
  | _, _, 0, .cons _ t => .cons h t
  | _, _, i + 1, .cons q t => .cons q (Reps.set h i t)
theorem Reps.eraseIdx : ∀ {vs : List V} {ds : List D} (i : Nat), Reps F r vs ds → Reps F r (vs.eraseIdx i) (ds.eraseIdx i)
  | _, _, _, .nil => .nil
  | _, _, 0, .cons _ t => t
  | _, _, i + 1, .cons q t => .cons q (Reps.eraseIdx i t)
theorem Reps.reverse : ∀ {vs : List V} {ds : List D}, Reps F r vs ds → Reps F r vs.reverse ds.reverse
  | _, _, .nil => .nil
  | _, _, .cons h t => by rw [List.reverse_cons, List.reverse_cons]; exact Reps.append (Reps.reverse t) (.cons h .nil)
theorem Reps.flat {vs : List V} {ds : List D} (h : Reps F r vs ds) : ∀ k : Nat, Reps F r (List.replicate k vs).flatten (List.replicate k ds).flatten
  | 0 => .nil
  | k + 1 => by rw [List.replicate_succ, List.replicate_succ, List.flatten_cons, List.flatten_cons]; exact Reps.append h (Reps.flat h k)
theorem Reps.snoc {vs : List V} {ds : List D} {v : V} {d : D} (h : Reps F r vs ds) (k : Rep F r v d) : Reps F r (vs ++ [v]) (ds ++ [d]) := Reps.append h (.cons k .nil)
theorem Rep.isNon {v : V} {d : D} (h : Rep F r v d) : decide (v = .non) = (match d with | .non => true | _ => false) := by
  cases h <;> simp
end

/-- the fields of an instance -/
def Flds (F : Hp) (r : List Addr) : List (Str × V) → List (Str × D) → Prop
  | [], [] => True
  | (f, v) :: vs, (g, d) :: ds => f = g ∧ Rep F r v d ∧ Flds F r vs ds
  | _, _ => False
theorem Flds.mono {F F' : Hp} {r r' : List Addr} (s : Same F F') (x : Ext r r') : ∀ {vs : List (Str × V)} {ds : List (Str × D)}, Flds F r vs ds → Flds F' r' vs ds
  | [], [], _ => trivial
  | (f, v) :: vs, (g, d) :: ds, ⟨e, h, k⟩ => ⟨e, h.mono s x, Flds.mono s x k⟩
  | [], _ :: _, h => h.elim
  | _ :: _, [], h => h.elim
theorem Flds.look {F : Hp} {r : List Addr} {f : Str} : ∀ {vs : List (Str × V)} {ds : List (Str × D)} {d : D}, Flds F r vs ds → ds.lookup f = some d → ∃ v, vs.lookup f = some v ∧ Rep F r v d
  | [], [], _, _, e => by simp at e
  | (g, v) :: vs, (g', d') :: ds, d, ⟨e, h, k⟩, q => by
    subst e
    rw [List.lookup_cons] at q ⊢
    cases hb : f == g with
    | true => rw [hb] at q; cases q; exact ⟨v, rfl, h⟩
    | false => rw [hb] at q; exact Flds.look k q
  | [], _ :: _, _, h, _ => h.elim
  | _ :: _, [], _, h, _ => h.elim
theorem Flds.lookN {F : Hp} {r : List Addr} {f : Str} : ∀ {vs : List (Str × V)} {ds : List (Str × D)}, Flds F r vs ds → ds.lookup f = none → vs.lookup f = none
  | [], [], _, _ => rfl
  | (g, v) :: vs, (g', d') :: ds, ⟨e, h, k⟩, q => by
    subst e
    rw [List.lookup_cons] at q ⊢
    cases hb : f == g with
    | true => rw [hb] at q; cases q
    | false => rw [hb] at q; exact Flds.lookN k q
  | [], _ :: _, h, _ => h.elim
  | _ :: _, [], h, _ => h.elim
def putD (f : Str) (v : D) : List (Str × D) → List (Str × D)
  | [] => [(f, v)]
  | (g, u) :: r => if g = f then (g, v) :: r else (g, u) :: putD f v r
theorem Flds.put {F : Hp} {r : List Addr} {f : Str} {v : V} {d : D} (h : Rep F r v d) : ∀ {vs : List (Str × V)} {ds : List (Str × D)}, Flds F r vs ds → Flds F r (putF f v vs) (putD f d ds)
  | [], [], _ => ⟨rfl, h, trivial⟩
  | (g, v') :: vs, (g', d') :: ds, ⟨e, q, k⟩ => by
    subst e
    unfold putF putD
    split
    · exact ⟨rfl, h, k⟩
    · exact ⟨rfl, q, Flds.put h k⟩
  | [], _ :: _, h => h.elim
  | _ :: _, [], h => h.elim
theorem Flds.length {F : Hp} {r : List Addr} : ∀ {vs : List (Str × V)} {ds : List (Str × D)}, Flds F r vs ds → vs.length = ds.length
  | [], [], _ => rfl
  | (g, v) :: vs, (g', d) :: ds, ⟨_, _, k⟩ => by simp [Flds.length k]
  | [], _ :: _, h => h.elim
  | _ :: _, [], h => h.elim

def KVr {k : Type} (F : Hp) (r : List Addr) : List (k × V) → List (k × D) → Prop
  | [], [] => True
  | (f, v) :: vs, (g, d) :: ds => f = g ∧ Rep F r v d ∧ KVr F r vs ds
  | _, _ => False
theorem KVr.mono {k : Type} {F F' : Hp} {r r' : List Addr} (s : Same F F') (x : Ext r r') : ∀ {vs : List (k × V)} {ds : List (k × D)}, KVr F r vs ds → KVr F' r' vs ds
  | [], [], _ => trivial
  | (f, v) :: vs, (g, d) :: ds, ⟨e, h, k⟩ => ⟨e, h.mono s x, KVr.mono s x k⟩
  | [], _ :: _, h => h.elim
  | _ :: _, [], h => h.elim

/-- the object at a is the store's o -/
def ObOk (W : Wd) (F : Hp) (r : List Addr) (H : Hp) (a : Addr) : Ob → Prop
  | .lst ds => ∃ vs, H a = some (.lst vs) ∧ Reps F r vs ds
  | .ins C fs => ∃ dx vfs, H a = some (.ins (W.cls C) dx vfs) ∧ Flds F r vfs fs
  | .dK kvs => ∃ vs, H a = some (.dK vs) ∧ KVr F r vs kvs
  | .dT kvs => ∃ vs, H a = some (.dT vs) ∧ KVr F r vs kvs
  | .dead => ∃ o, H a = some o ∧ (∀ ps, o ≠ .tbl ps) ∧ ∀ φ, o ≠ .ext φ
theorem ObOk.mono {W : Wd} {F F' H H' : Hp} {r r' : List Addr} {a : Addr} (s : Same F F') (x : Ext r r') (h : H' a = H a) : ∀ {o : Ob}, ObOk W F r H a o → ObOk W F' r' H' a o
  | .lst _, ⟨vs, e, k⟩ => ⟨vs, h.trans e, k.mono s x⟩
  | .ins _ _, ⟨dx, vs, e, k⟩ => ⟨dx, vs, h.trans e, k.mono s x⟩
  | .dK _, ⟨vs, e, k⟩ => ⟨vs, h.trans e, k.mono s x⟩
  | .dT _, ⟨vs, e, k⟩ => ⟨vs, h.trans e, k.mono s x⟩
  | .dead, ⟨o, e, k⟩ => ⟨o, h.trans e, k⟩
theorem ObOk.ne {W : Wd} {F H : Hp} {r : List Addr} {a : Addr} : ∀ {o : Ob}, ObOk W F r H a o → H a ≠ none
  | .lst _, ⟨vs, e, k⟩ => by rw [e]; simp
  | .ins _ _, ⟨dx, vs, e, k⟩ => by rw [e]; simp
  | .dK _, ⟨vs, e, k⟩ => by rw [e]; simp
  | .dT _, ⟨vs, e, k⟩ => by rw [e]; simp
  | .dead, ⟨o, e, k⟩ => by rw [e]; simp
theorem ObOk.kind {W : Wd} {F H : Hp} {r : List Addr} {a : Addr} : ∀ {o : Ob}, ObOk W F r H a o → ∃ u, H a = some u ∧ (∀ ps, u ≠ .tbl ps) ∧ ∀ φ, u ≠ .ext φ
  | .lst _, ⟨vs, e, k⟩ => ⟨_, e, (fun _ z => by cases z), fun _ z => by cases z⟩
  | .ins _ _, ⟨dx, vs, e, k⟩ => ⟨_, e, (fun _ z => by cases z), fun _ z => by cases z⟩
  | .dK _, ⟨vs, e, k⟩ => ⟨_, e, (fun _ z => by cases z), fun _ z => by cases z⟩
  | .dT _, ⟨vs, e, k⟩ => ⟨_, e, (fun _ z => by cases z), fun _ z => by cases z⟩
  | .dead, h => h
/-- the tables are whole, and none of the rest -/
structure TabsOk (T : List (Addr × Str)) (F Rs H : Hp) (r : List Addr) : Prop where
  at_ : ∀ p ∈ T, LamX.TabS H p.1 p.2 ∧ F p.1 = none ∧ Rs p.1 = none ∧ p.1 ∉ r
  nF : ∀ a ps, F a ≠ some (.tbl ps)
  nR : ∀ a ps, Rs a ≠ some (.tbl ps)
theorem tabs_keep {H H' : Hp} {P : Addr} {q : Str} (t : LamX.TabS H P q) (k : ∀ a o, H a = some o → ((∃ ps, o = .tbl ps) ∨ ∃ φ, o = .ext φ) → H' a = some o) : LamX.TabS H' P q := by
  obtain ⟨ps, h1, h2, h3⟩ := t
  refine ⟨ps, k _ _ h1 (.inl ⟨ps, rfl⟩), h2, fun pos cv hc => ?_⟩
  obtain ⟨c, e1, e2⟩ := h3 pos cv hc
  exact ⟨c, e1, k _ _ e2 (.inr ⟨_, rfl⟩)⟩
theorem tabs_here {H : Hp} {P : Addr} {q : Str} (t : LamX.TabS H P q) : H P ≠ none := by
  obtain ⟨ps, h1, _⟩ := t
  rw [h1]; simp

/-- the heap H is the frozen part F, the store's objects at r, a part Rs that is none of ours, and waste -/
structure Holds (W : Wd) (Rs F H : Hp) (r : List Addr) (st : Store) : Prop where
  sF : Same F H
  sR : Same Rs H
  dj : ∀ a, F a ≠ none → Rs a = none
  len : r.length = st.length
  nd : r.Nodup
  own : ∀ a ∈ r, F a = none ∧ Rs a = none
  ob : ∀ (i : Nat) (a : Addr) (o : Ob), r[i]? = some a → st[i]? = some o → ObOk W F r H a o
  tb : TabsOk W.tabs F Rs H r

section
variable {W : Wd} {Rs F H : Hp} {r : List Addr} {st : Store}
theorem Same.none_of {F H : Hp} (s : Same F H) {a : Addr} (h : H a = none) : F a = none := s.free h
theorem Holds.freeF (h : Holds W Rs F H r st) {p : Addr} (e : H p = none) : F p = none := h.sF.free e
theorem Holds.freeR (h : Holds W Rs F H r st) {p : Addr} (e : H p = none) : Rs p = none := h.sR.free e
theorem Holds.there (h : Holds W Rs F H r st) {a : Addr} (e : a ∈ r) : H a ≠ none := by
  obtain ⟨i, hi, rfl⟩ := List.mem_iff_getElem.mp e
  have hs : i < st.length := by rw [← h.len]; exact hi
  exact (h.ob i r[i] st[i] (by simp [hi]) (by simp [hs])).ne
theorem Holds.notin (h : Holds W Rs F H r st) {p : Addr} (e : H p = none) : p ∉ r := fun m => h.there m e
/-- a new frozen object -/
theorem Holds.kindOf (h : Holds W Rs F H r st) {a : Addr} (e : a ∈ r) : ∃ u, H a = some u ∧ (∀ ps, u ≠ .tbl ps) ∧ ∀ φ, u ≠ .ext φ := by
  obtain ⟨i, hi, rfl⟩ := List.mem_iff_getElem.mp e
  have hs : i < st.length := by rw [← h.len]; exact hi
  exact (h.ob i r[i] st[i] (by simp [hi]) (by simp [hs])).kind
theorem Holds.frozen (h : Holds W Rs F H r st) {p : Addr} {o : HO} (e : H p = none) (hn : ∀ ps, o ≠ .tbl ps := by intro _ z; cases z) : Same F (upd F p o) ∧ Holds W Rs (upd F p o) (upd H p o) r st := by
  have sF : Same F (upd F p o) := fun b u q => by rw [upd_ne (ne_of_none q (h.freeF e))]; exact q
  refine ⟨sF, ⟨fun b u q => ?_, fun b u q => ?_, fun b q => ?_, h.len, h.nd, fun b m => ?_, fun i a o' e1 e2 => ?_, ⟨fun t ht => ?_, fun b ps => ?_, h.tb.nR⟩⟩⟩
  · by_cases hb : b = p
    · subst hb; rw [upd_same] at q ⊢; exact q
    · rw [upd_ne hb] at q ⊢; exact h.sF _ _ q
  · rw [upd_ne (ne_of_none q (h.freeR e))]; exact h.sR _ _ q
  · by_cases hb : b = p
    · rw [hb]; exact h.freeR e
    · rw [upd_ne hb] at q; exact h.dj b q
  · have hb : b ≠ p := fun z => h.notin e (z ▸ m)
    rw [upd_ne hb]; exact h.own b m
  · have hb : a ≠ p := fun z => h.notin e (z ▸ List.mem_of_getElem? e1)
    exact (h.ob i a o' e1 e2).mono sF (Ext.refl _) (upd_ne hb)
  · obtain ⟨t1, t2, t3, t4⟩ := h.tb.at_ t ht
    exact ⟨t1.ext fun b u q => by rw [upd_ne (ne_of_none q e)]; exact q, by rw [upd_ne (fun (z : t.1 = p) => tabs_here t1 (by rw [z]; exact e))]; exact t2, t3, t4⟩
  · by_cases hb : b = p
    · rw [hb, upd_same]; exact fun z => hn ps (Option.some.inj z)
    · rw [upd_ne hb]; exact h.tb.nF b ps
/-- a new object of the store -/
theorem Holds.fresh (h : Holds W Rs F H r st) {p : Addr} {o : HO} {b : Ob} (e : H p = none) (k : ObOk W F (r ++ [p]) (upd H p o) p b) : Holds W Rs F (upd H p o) (r ++ [p]) (st ++ [b]) := by
  refine ⟨fun c u q => ?_, fun c u q => ?_, h.dj, by simp [h.len], ?_, fun c m => ?_, fun i a o' e1 e2 => ?_, ⟨fun t ht => ?_, h.tb.nF, h.tb.nR⟩⟩
  · rw [upd_ne (ne_of_none q (h.freeF e))]; exact h.sF _ _ q
  · rw [upd_ne (ne_of_none q (h.freeR e))]; exact h.sR _ _ q
  · rw [List.nodup_append]
    refine ⟨h.nd, by simp, fun a ha b hb => ?_⟩
    have : b = p := by simpa using hb
    subst this
    exact fun z => h.notin e (z ▸ ha)
  · rcases List.mem_append.mp m with m | m
    · exact h.own c m
    · have : c = p := by simpa using m
      subst this
      exact ⟨h.freeF e, h.freeR e⟩
  · by_cases hi : i < r.length
    · rw [List.getElem?_append_left hi] at e1
      rw [List.getElem?_append_left (by rw [← h.len]; exact hi)] at e2
      have hb : a ≠ p := fun z => h.notin e (z ▸ List.mem_of_getElem? e1)
      exact (h.ob i a o' e1 e2).mono (Same.refl _) (Ext.snoc _ _) (upd_ne hb)
    · have hl : i = r.length := by
        have := (List.getElem?_eq_some_iff.mp e1).1
        simp at this; omega
      subst hl
      rw [List.getElem?_append_right (Nat.le_refl _)] at e1
      rw [List.getElem?_append_right (by rw [h.len]; exact Nat.le_refl _)] at e2
      simp at e1
      rw [h.len] at e2
      simp at e2
      subst e1; subst e2
      exact k
  · obtain ⟨t1, t2, t3, t4⟩ := h.tb.at_ t ht
    refine ⟨t1.ext fun b u q => by rw [upd_ne (ne_of_none q e)]; exact q, t2, t3, fun m => ?_⟩
    rcases List.mem_append.mp m with m | m
    · exact t4 m
    · exact tabs_here t1 (by rw [List.mem_singleton.mp m]; exact e)
/-- an object of the store is changed -/
theorem Holds.write (h : Holds W Rs F H r st) {n : Nat} {p : Addr} {o : HO} {b : Ob} (e : r[n]? = some p) (k : ObOk W F r (upd H p o) p b) : Holds W Rs F (upd H p o) r (st.set n b) := by
  have mp : p ∈ r := List.mem_of_getElem? e
  obtain ⟨o1, o2⟩ := h.own p mp
  refine ⟨fun c u q => ?_, fun c u q => ?_, h.dj, by simp [h.len], h.nd, h.own, fun i a o' e1 e2 => ?_, ⟨fun t ht => ?_, h.tb.nF, h.tb.nR⟩⟩
  · rw [upd_ne (fun z => by rw [z, o1] at q; cases q)]; exact h.sF _ _ q
  · rw [upd_ne (fun z => by rw [z, o2] at q; cases q)]; exact h.sR _ _ q
  · by_cases hi : i = n
    · subst hi
      rw [e] at e1; cases e1
      have hl : i < st.length := by rw [← h.len]; exact (List.getElem?_eq_some_iff.mp e).1
      rw [List.getElem?_set_self hl] at e2; cases e2
      exact k
    · rw [List.getElem?_set_ne (Ne.symm hi)] at e2
      have hb : a ≠ p := fun z => by
        subst z
        obtain ⟨h1, q1⟩ := List.getElem?_eq_some_iff.mp e
        obtain ⟨h2, q2⟩ := List.getElem?_eq_some_iff.mp e1
        exact hi ((List.getElem_inj h.nd).mp (q2.trans q1.symm))
      exact (h.ob i a o' e1 e2).mono (Same.refl _) (Ext.refl _) (upd_ne hb)
  · obtain ⟨t1, t2, t3, t4⟩ := h.tb.at_ t ht
    obtain ⟨u, hu, k1, k2⟩ := h.kindOf mp
    refine ⟨tabs_keep t1 fun a v q z => ?_, t2, t3, t4⟩
    rw [upd_ne fun w => ?_]
    · exact q
    · rw [w, hu] at q
      cases q
      rcases z with ⟨ps, z⟩ | ⟨φ, z⟩
      · exact k1 ps z
      · exact k2 φ z
theorem Holds.get (h : Holds W Rs F H r st) {n : Nat} {o : Ob} (e : st[n]? = some o) : ∃ a, r[n]? = some a ∧ ObOk W F r H a o := by
  have hl : n < r.length := by rw [h.len]; exact (List.getElem?_eq_some_iff.mp e).1
  exact ⟨r[n], by simp [hl], h.ob n _ o (by simp [hl]) e⟩
/-- all else is put aside -/
def isTbl : Option HO → Bool
  | some (.tbl _) => true
  | _ => false
def aside (F H : Hp) (r : List Addr) : Hp := fun a => if F a ≠ none ∨ a ∈ r ∨ isTbl (H a) = true then none else H a
theorem Holds.apart (h : Holds W Rs F H r st) : Holds W (aside F H r) F H r st := by
  refine ⟨h.sF, fun a o q => ?_, fun a q => ?_, h.len, h.nd, fun a m => ⟨(h.own a m).1, ?_⟩, h.ob, ⟨fun t ht => ?_, h.tb.nF, fun a ps z => ?_⟩⟩
  · unfold aside at q
    split at q
    · cases q
    · exact q
  · unfold aside; rw [if_pos (.inl q)]
  · unfold aside; rw [if_pos (.inr (.inl m))]
  · obtain ⟨t1, t2, t3, t4⟩ := h.tb.at_ t ht
    refine ⟨t1, t2, ?_, t4⟩
    obtain ⟨ps, h1, _⟩ := t1
    unfold aside; rw [if_pos (.inr (.inr (by rw [h1]; rfl)))]
  · unfold aside at z
    split at z
    · cases z
    · rename_i n
      exact n (.inr (.inr (by rw [z]; rfl)))
end

/-- the slots hold what the environment says -/
structure EnvOk (F : Hp) (r : List Addr) (sg : St) (env : Env) : Prop where
  len : sg.length = env.length
  at_ : ∀ (i : Nat) (d : D), env[i]? = some (some d) → ∃ v, sg[i]? = some (some v) ∧ Rep F r v d
theorem EnvOk.mono {F F' : Hp} {r r' : List Addr} {sg : St} {env : Env} (s : Same F F') (x : Ext r r') (h : EnvOk F r sg env) : EnvOk F' r' sg env :=
  ⟨h.len, fun i d e => let ⟨v, q, k⟩ := h.at_ i d e; ⟨v, q, k.mono s x⟩⟩
theorem EnvOk.set {F : Hp} {r : List Addr} {sg : St} {env : Env} {v : V} {d : D} (h : EnvOk F r sg env) (k : Rep F r v d) (i : Nat) : EnvOk F r (sg.set i (some v)) (env.set i (some d)) := by
  refine ⟨by simp [h.len], fun j e q => ?_⟩
  by_cases hj : i = j
  · subst hj
    by_cases hl : i < env.length
    · rw [List.getElem?_set_self hl] at q; cases q
      exact ⟨v, by rw [List.getElem?_set_self (by rw [h.len]; exact hl)], k⟩
    · rw [List.getElem?_eq_none (by simp; omega)] at q; cases q
  · rw [List.getElem?_set_ne hj] at q ⊢
    exact h.at_ j e q
theorem EnvOk.start {F : Hp} {r : List Addr} {vs : List V} {ds : List D} {n : Nat} (h : Reps F r vs ds) : EnvOk F r (vs.map some ++ List.replicate (n - vs.length) none) (ds.map some ++ List.replicate (n - ds.length) none) := by
  have hl := h.length
  refine ⟨by simp [hl], fun i d e => ?_⟩
  by_cases hi : i < ds.length
  · rw [List.getElem?_append_left (by simpa using hi), List.getElem?_map] at e
    cases q : ds[i]? with
    | none => rw [q] at e; simp at e
    | some d' =>
      rw [q] at e; simp at e; subst e
      obtain ⟨v, h1, h2⟩ := h.get q
      exact ⟨v, by rw [List.getElem?_append_left (by simp; omega), List.getElem?_map, h1]; rfl, h2⟩
  · rw [List.getElem?_append_right (by simpa using hi), List.getElem?_replicate] at e
    split at e <;> simp at e

/-! ### what is wanted behind code -/
def PayOk (W : Wd) (F : Hp) (r : List Addr) (H : Hp) (c : Nat) (od : Option Addr) : Option D → Prop
  | none => od = none
  | some d => ∃ f a i, W.pay c = some f ∧ od = some a ∧ F a = some (.xd [(f, .int i)]) ∧ d = .int i
def ExcPost (W : Wd) (Rs F : Hp) (r : List Addr) (c : Nat) (p : Option D) (st' : Store) (E : XK) : Prop :=
  ∀ F' H' r' od, Same F F' → Ext r r' → Holds W Rs F' H' r' st' → PayOk W F' r' H' c od p → E (.ref (W.cls c)) od H'
def PostX {A : Type} (W : Wd) (Rs F : Hp) (r : List Addr) (res : R A) (K : A → Prop) (E : XK) : Prop := match res with
  | .ok a => K a
  | .exc c p st' => ExcPost W Rs F r c p st' E
  | .bad => False
def onE (W : Wd) (Rs F : Hp) (r : List Addr) (Q : VK) : D × Store → Prop := fun a => ∀ F' H' r' v, Same F F' → Ext r r' → Holds W Rs F' H' r' a.2 → Rep F' r' v a.1 → Q v H'
def onA (W : Wd) (Rs F : Hp) (r : List Addr) (Q : List V → Hp → Prop) : List D × Store → Prop := fun a => ∀ F' H' r' vs, Same F F' → Ext r r' → Holds W Rs F' H' r' a.2 → Reps F' r' vs a.1 → Q vs H'
def onT (W : Wd) (Rs F : Hp) (r : List Addr) (Q : Bool → Hp → Prop) : Bool × Store → Prop := fun a => ∀ F' H' r', Same F F' → Ext r r' → Holds W Rs F' H' r' a.2 → Q a.1 H'
abbrev Post (W : Wd) (Rs F : Hp) (r : List Addr) (res : R (D × Store)) (Q : VK) (E : XK) : Prop := PostX W Rs F r res (onE W Rs F r Q) E
abbrev PostA (W : Wd) (Rs F : Hp) (r : List Addr) (res : R (List D × Store)) (Q : List V → Hp → Prop) (E : XK) : Prop := PostX W Rs F r res (onA W Rs F r Q) E
abbrev PostT (W : Wd) (Rs F : Hp) (r : List Addr) (res : R (Bool × Store)) (Q : Bool → Hp → Prop) (E : XK) : Prop := PostX W Rs F r res (onT W Rs F r Q) E
theorem ExcPost.later {W : Wd} {Rs F F1 : Hp} {r r1 : List Addr} {c : Nat} {p : Option D} {st' : Store} {E : XK} (s : Same F F1) (x : Ext r r1) (h : ExcPost W Rs F r c p st' E) : ExcPost W Rs F1 r1 c p st' E :=
  fun F' H' r' od s' x' => h F' H' r' od (s.trans s') (x.trans x')
section
variable {W : Wd} {Rs F F1 : Hp} {r r1 : List Addr} {E : XK}
theorem bindX {A B : Type} {res : R A} {f : A → R B} {K : B → Prop} {K' : A → Prop} (h : PostX W Rs F r (res.bind f) K E) (k : ∀ a, res = .ok a → PostX W Rs F r (f a) K E → K' a) : PostX W Rs F r res K' E := by
  cases res with
  | ok a => exact k a rfl h
  | exc c p st' => exact h
  | bad => exact h
theorem PostX.imp {A : Type} {res : R A} {K K' : A → Prop} (s : Same F F1) (x : Ext r r1) (h : PostX W Rs F r res K E) (k : ∀ a, K a → K' a) : PostX W Rs F1 r1 res K' E := by
  cases res with
  | ok a => exact k a h
  | exc c p st' => exact ExcPost.later s x h
  | bad => exact h
theorem Post.later {res : R (D × Store)} {Q : VK} (s : Same F F1) (x : Ext r r1) (h : Post W Rs F r res Q E) : Post W Rs F1 r1 res Q E :=
  PostX.imp s x h fun _ q F' H' r' v s' x' => q F' H' r' v (s.trans s') (x.trans x')
theorem PostA.later {res : R (List D × Store)} {Q : List V → Hp → Prop} (s : Same F F1) (x : Ext r r1) (h : PostA W Rs F r res Q E) : PostA W Rs F1 r1 res Q E :=
  PostX.imp s x h fun _ q F' H' r' v s' x' => q F' H' r' v (s.trans s') (x.trans x')
theorem PostT.later {res : R (Bool × Store)} {Q : Bool → Hp → Prop} (s : Same F F1) (x : Ext r r1) (h : PostT W Rs F r res Q E) : PostT W Rs F1 r1 res Q E :=
  PostX.imp s x h fun _ q F' H' r' s' x' => q F' H' r' (s.trans s') (x.trans x')
end

/-! ### the judgements -/
abbrev EV := Env → Store → R (D × Store)
abbrev TV := Env → Store → R (Bool × Store)
abbrev AV := Env → Store → R (List D × Store)
/-- e means f -/
def tDE (W : Wd) (E : XK) (f : EV) : TE := fun sg H Q => ∃ Rs F r env st, Holds W Rs F H r st ∧ EnvOk F r sg env ∧ Post W Rs F r (f env st) Q E
def DE (W : Wd) (X : Cx) (E : XK) (e : Expr) (f : EV) : Prop := PE X e (tDE W E f)
theorem DE.mk {W : Wd} {X : Cx} {E : XK} {e : Expr} {f : EV} {t : TE} (p : PE X e t) (q : ∀ Rs F H r sg env st Q, Holds W Rs F H r st → EnvOk F r sg env → Post W Rs F r (f env st) Q E → t sg H Q) : DE W X E e f :=
  ⟨fun pins s sg H Q I ⟨Rs, F, r, env, st, a, b, c⟩ => p.run pins s sg H Q I (q Rs F H r sg env st Q a b c)⟩
theorem DE.ex {W : Wd} {X : Cx} {E : XK} {e : Expr} {f : EV} (h : DE W X E e f) : ∃ t, PE X e t ∧ ∀ Rs F H r sg env st Q, Holds W Rs F H r st → EnvOk F r sg env → Post W Rs F r (f env st) Q E → t sg H Q :=
  ⟨_, h, fun Rs F H r sg env st Q a b c => ⟨Rs, F, r, env, st, a, b, c⟩⟩
def tDT (W : Wd) (E : XK) (f : TV) : TT := fun sg H Q => ∃ Rs F r env st, Holds W Rs F H r st ∧ EnvOk F r sg env ∧ PostT W Rs F r (f env st) Q E
def DT (W : Wd) (X : Cx) (E : XK) (e : Expr) (f : TV) : Prop := PT X e (tDT W E f)
theorem DT.mk {W : Wd} {X : Cx} {E : XK} {e : Expr} {f : TV} {t : TT} (p : PT X e t) (q : ∀ Rs F H r sg env st Q, Holds W Rs F H r st → EnvOk F r sg env → PostT W Rs F r (f env st) Q E → t sg H Q) : DT W X E e f :=
  ⟨fun pins s sg H Q I ⟨Rs, F, r, env, st, a, b, c⟩ => p.run pins s sg H Q I (q Rs F H r sg env st Q a b c)⟩
theorem DT.ex {W : Wd} {X : Cx} {E : XK} {e : Expr} {f : TV} (h : DT W X E e f) : ∃ t, PT X e t ∧ ∀ Rs F H r sg env st Q, Holds W Rs F H r st → EnvOk F r sg env → PostT W Rs F r (f env st) Q E → t sg H Q :=
  ⟨_, h, fun Rs F H r sg env st Q a b c => ⟨Rs, F, r, env, st, a, b, c⟩⟩
def tDW (W : Wd) (E : XK) (f : TV) : TT := fun sg H Q => ∃ Rs F r env st, Holds W Rs F H r st ∧ EnvOk F r sg env ∧ PostT W Rs F r (f env st) Q E
def DW (W : Wd) (X : Cx) (E : XK) (e : Expr) (f : TV) : Prop := PW X e (tDW W E f)
theorem DW.mk {W : Wd} {X : Cx} {E : XK} {e : Expr} {f : TV} {t : TT} (p : PW X e t) (q : ∀ Rs F H r sg env st Q, Holds W Rs F H r st → EnvOk F r sg env → PostT W Rs F r (f env st) Q E → t sg H Q) : DW W X E e f :=
  ⟨fun wh pins s sg H Q I ⟨Rs, F, r, env, st, a, b, c⟩ => p.run wh pins s sg H Q I (q Rs F H r sg env st Q a b c)⟩
theorem DW.ex {W : Wd} {X : Cx} {E : XK} {e : Expr} {f : TV} (h : DW W X E e f) : ∃ t, PW X e t ∧ ∀ Rs F H r sg env st Q, Holds W Rs F H r st → EnvOk F r sg env → PostT W Rs F r (f env st) Q E → t sg H Q :=
  ⟨_, h, fun Rs F H r sg env st Q a b c => ⟨Rs, F, r, env, st, a, b, c⟩⟩
def tDA (W : Wd) (E : XK) (f : AV) : TA := fun sg H Q => ∃ Rs F r env st, Holds W Rs F H r st ∧ EnvOk F r sg env ∧ PostA W Rs F r (f env st) Q E
def DA (W : Wd) (X : Cx) (E : XK) (e : List Expr) (f : AV) : Prop := PA X e (tDA W E f)
theorem DA.mk {W : Wd} {X : Cx} {E : XK} {e : List Expr} {f : AV} {t : TA} (p : PA X e t) (q : ∀ Rs F H r sg env st Q, Holds W Rs F H r st → EnvOk F r sg env → PostA W Rs F r (f env st) Q E → t sg H Q) : DA W X E e f :=
  ⟨fun pos pins s sg H Q I ⟨Rs, F, r, env, st, a, b, c⟩ => p.run pos pins s sg H Q I (q Rs F H r sg env st Q a b c)⟩
theorem DA.ex {W : Wd} {X : Cx} {E : XK} {e : List Expr} {f : AV} (h : DA W X E e f) : ∃ t, PA X e t ∧ ∀ Rs F H r sg env st Q, Holds W Rs F H r st → EnvOk F r sg env → PostA W Rs F r (f env st) Q E → t sg H Q :=
  ⟨_, h, fun Rs F H r sg env st Q a b c => ⟨Rs, F, r, env, st, a, b, c⟩⟩

/-- the ends of a statement -/
inductive SR where
  | nx (env : Env) (st : Store)
  | rt (d : D) (st : Store)
  | bk (env : Env) (st : Store)
  | ct (env : Env) (st : Store)
  | exc (c : Nat) (p : Option D) (st : Store)
  | bad
abbrev SV := Env → Store → SR
def PostF (W : Wd) (Rs F : Hp) (r : List Addr) (env' : Env) (st' : Store) (N : St → Hp → Prop) : Prop :=
  ∀ F' H' r' sg', Same F F' → Ext r r' → Holds W Rs F' H' r' st' → EnvOk F' r' sg' env' → N sg' H'
theorem PostF.later {W : Wd} {Rs F F1 : Hp} {r r1 : List Addr} {env' : Env} {st' : Store} {N : St → Hp → Prop} (s : Same F F1) (x : Ext r r1) (h : PostF W Rs F r env' st' N) : PostF W Rs F1 r1 env' st' N :=
  fun F' H' r' sg' s' x' => h F' H' r' sg' (s.trans s') (x.trans x')
def PostS (W : Wd) (Rs F : Hp) (r : List Addr) (res : SR) (D : Ends) (E : XK) : Prop := match res with
  | .nx env' st' => PostF W Rs F r env' st' D.nx
  | .rt d st' => ∀ F' H' r' v, Same F F' → Ext r r' → Holds W Rs F' H' r' st' → Rep F' r' v d → D.rt v H'
  | .bk env' st' => PostF W Rs F r env' st' D.bk
  | .ct env' st' => PostF W Rs F r env' st' D.ct
  | .exc c p st' => ExcPost W Rs F r c p st' E
  | .bad => False
theorem PostS.later {W : Wd} {Rs F F1 : Hp} {r r1 : List Addr} {res : SR} {D : Ends} {E : XK} (s : Same F F1) (x : Ext r r1) (h : PostS W Rs F r res D E) : PostS W Rs F1 r1 res D E := by
  cases res with
  | nx e t => exact PostF.later s x h
  | rt d t => exact fun F' H' r' v s' x' => h F' H' r' v (s.trans s') (x.trans x')
  | bk e t => exact PostF.later s x h
  | ct e t => exact PostF.later s x h
  | exc c p st' => exact ExcPost.later s x h
  | bad => exact h
def tDS (W : Wd) (E : XK) (f : SV) : TS := fun D sg H => ∃ Rs F r env st, Holds W Rs F H r st ∧ EnvOk F r sg env ∧ PostS W Rs F r (f env st) D E
def DS (W : Wd) (X : Cx) (E : XK) (e : Stmt) (f : SV) : Prop := PS X e (tDS W E f)
theorem DS.mk {W : Wd} {X : Cx} {E : XK} {e : Stmt} {f : SV} {t : TS} (p : PS X e t) (q : ∀ Rs F H r sg env st D, Holds W Rs F H r st → EnvOk F r sg env → PostS W Rs F r (f env st) D E → t D sg H) : DS W X E e f :=
  ⟨fun pins s sg H D I ⟨Rs, F, r, env, st, a, b, c⟩ => p.run pins s sg H D I (q Rs F H r sg env st D a b c)⟩
theorem DS.ex {W : Wd} {X : Cx} {E : XK} {e : Stmt} {f : SV} (h : DS W X E e f) : ∃ t, PS X e t ∧ ∀ Rs F H r sg env st D, Holds W Rs F H r st → EnvOk F r sg env → PostS W Rs F r (f env st) D E → t D sg H :=
  ⟨_, h, fun Rs F H r sg env st D a b c => ⟨Rs, F, r, env, st, a, b, c⟩⟩
def tDB (W : Wd) (E : XK) (f : SV) : TS := fun D sg H => ∃ Rs F r env st, Holds W Rs F H r st ∧ EnvOk F r sg env ∧ PostS W Rs F r (f env st) D E
def DB (W : Wd) (X : Cx) (E : XK) (e : List Stmt) (f : SV) : Prop := PSs X e (tDB W E f)
theorem DB.mk {W : Wd} {X : Cx} {E : XK} {e : List Stmt} {f : SV} {t : TS} (p : PSs X e t) (q : ∀ Rs F H r sg env st D, Holds W Rs F H r st → EnvOk F r sg env → PostS W Rs F r (f env st) D E → t D sg H) : DB W X E e f :=
  ⟨fun pins s sg H D I ⟨Rs, F, r, env, st, a, b, c⟩ => p.run pins s sg H D I (q Rs F H r sg env st D a b c)⟩
theorem DB.ex {W : Wd} {X : Cx} {E : XK} {e : List Stmt} {f : SV} (h : DB W X E e f) : ∃ t, PSs X e t ∧ ∀ Rs F H r sg env st D, Holds W Rs F H r st → EnvOk F r sg env → PostS W Rs F r (f env st) D E → t D sg H :=
  ⟨_, h, fun Rs F H r sg env st D a b c => ⟨Rs, F, r, env, st, a, b, c⟩⟩
/-- a def's meaning -/
abbrev FV := List D → Store → R (D × Store)
/-- a def's promise: it means g, for n arguments -/
def spD (W : Wd) (n : Nat) (g : FV) : Sp := fun vs H Q E => ∃ Rs F r st ds, Holds W Rs F H r st ∧ Reps F r vs ds ∧ ds.length = n ∧ Post W Rs F r (g ds st) Q E
def funD (n : Nat) (b : SV) : FV := fun ds st => match b (ds.map some ++ List.replicate (n - ds.length) none) st with
  | .nx _ st' => .ok (.non, st')
  | .rt d st' => .ok (d, st')
  | .exc c p st' => .exc c p st'
  | _ => .bad
end Dl
/-! ## DlExpr -/
/-! Expressions. -/
namespace Dl
open PySem L2

section
variable {W : Wd} {X : Cx} {E : XK}
/-! ### names and constants -/
def eV (i : Nat) : EV := fun env st => match env[i]? with
  | some (some d) => .ok (d, st)
  | _ => .bad
def eC (d : D) : EV := fun _ st => .ok (d, st)
theorem onE_here {Rs F H : Hp} {r : List Addr} {st : Store} {Q : VK} {v : V} {d : D} (h : Holds W Rs F H r st) (k : Rep F r v d) (q : onE W Rs F r Q (d, st)) : Q v H := q F H r v (Same.refl _) (Ext.refl _) h k
theorem de_var {i : Nat} {x : Str} {pos : Pos} (hN : X.N[i]? = some x) (hv : Vis X.env.scope x) (hd : (x == ("__debug__" : Str)) = false := by decide) (hcd : (x == ("__classdict__" : Str)) = false := by decide) : DE W X E (.Name x pos) (eV i) := by
  refine .mk (pe_var hN hv hd hcd) fun Rs F H r sg env st Q hH hE hP => ?_
  unfold eV at hP
  split at hP
  · rename_i d e
    obtain ⟨v, h1, h2⟩ := hE.at_ i d e
    exact ⟨v, h1, onE_here hH h2 hP⟩
  · exact hP.elim
theorem de_c {e : Expr} {v : V} {d : D} (h : PE X e (tC v)) (k : ∀ F r, Rep F r v d) : DE W X E e (eC d) :=
  .mk h fun Rs F H r sg env st Q hH hE hP => onE_here hH (k F r) hP
theorem de_int {i j pos} : DE W X E (.Constant (.int i) j pos) (eC (.int i)) := de_c pe_int fun _ _ => .int i
theorem de_bl {b j pos} : DE W X E (.Constant (.bool b) j pos) (eC (.bl b)) := de_c pe_bl fun _ _ => .bl b
theorem de_non {j pos} : DE W X E (.Constant .none j pos) (eC .non) := de_c pe_non fun _ _ => .non
theorem rep_str {x : Str} {s : List Nat} (h : x.cps.toList = s) (a : (s.all (fun c => decide (c < 128)) && decide (s.length ≤ LIM)) = true) (F : Hp) (r : List Addr) : Rep F r (.str x) (.str s) := by
  have e : x = ⟨s.toArray⟩ := by subst h; cases x; rfl
  rw [Bool.and_eq_true] at a
  rw [e]
  exact .str s a.1 (of_decide_eq_true a.2)
theorem de_str {x : Str} {s : List Nat} {j pos} (h : x.cps.toList = s) (a : (s.all (fun c => decide (c < 128)) && decide (s.length ≤ LIM)) = true) : DE W X E (.Constant (.str x) j pos) (eC (.str s)) := de_c pe_str (rep_str h a)
/-- a constant of the module -/
theorem de_globI {x : Str} {i : Int} {t : Tok} {pos : Pos} (hg : Gl X x) (hm : X.mg x = some (.int i t)) (hd : (x == ("__debug__" : Str)) = false := by decide) : DE W X E (.Name x pos) (eC (.int i)) := de_c (pe_glob hg hm (v := .int i) ⟨_, rfl⟩ hd) fun _ _ => .int i
theorem de_globS {x y : Str} {s : List Nat} {t : Tok} {pos : Pos} (hg : Gl X x) (hm : X.mg x = some (.str y t)) (h : y.cps.toList = s) (a : (s.all (fun c => decide (c < 128)) && decide (s.length ≤ LIM)) = true) (hd : (x == ("__debug__" : Str)) = false := by decide) : DE W X E (.Name x pos) (eC (.str s)) :=
  de_c (pe_glob hg hm (v := .str y) ⟨_, rfl⟩ hd) (rep_str h a)

/-! ### two values -/
abbrev G2 := Store → D → D → R (D × Store)
def eOp (g : G2) (fa fb : EV) : EV := fun env st => (fa env st).bind fun a => (fb env a.2).bind fun b => g b.2 a.1 b.1
/-- an operation of two values means g -/
def DOp (W : Wd) (X : Cx) (f : Value → Value → Sem Value) (g : G2) : Prop :=
  ∃ r, OpR X f r ∧ ∀ Rs F H rr st x y dx dy Q E, Holds W Rs F H rr st → Rep F rr x dx → Rep F rr y dy → Post W Rs F rr (g st dx dy) Q E → r x y H Q
theorem eOp_post {ta tb : TE} {rd : R2} {fa fb : EV} {g : G2}
    (qa : ∀ Rs F H r sg env st Q, Holds W Rs F H r st → EnvOk F r sg env → Post W Rs F r (fa env st) Q E → ta sg H Q)
    (qb : ∀ Rs F H r sg env st Q, Holds W Rs F H r st → EnvOk F r sg env → Post W Rs F r (fb env st) Q E → tb sg H Q)
    (qr : ∀ Rs F H rr st x y dx dy Q E, Holds W Rs F H rr st → Rep F rr x dx → Rep F rr y dy → Post W Rs F rr (g st dx dy) Q E → rd x y H Q)
    {Rs F H r sg env st Q} (hH : Holds W Rs F H r st) (hE : EnvOk F r sg env) (hP : Post W Rs F r (eOp g fa fb env st) Q E) : tOp rd ta tb sg H Q := by
  refine qa Rs F H r sg env st _ hH hE (bindX hP fun a ea q F1 H1 r1 v1 s1 x1 h1 k1 => ?_)
  refine qb Rs F1 H1 r1 sg env a.2 _ h1 (hE.mono s1 x1) (bindX (Post.later s1 x1 (res := (fb env a.2).bind _) q) fun b eb q2 F2 H2 r2 v2 s2 x2 h2 k2 => ?_)
  exact qr Rs F2 H2 r2 b.2 v1 v2 a.1 b.1 Q E h2 (k1.mono s2 x2) k2 (Post.later s2 x2 q2)
variable {a b : Expr} {fa fb : EV} {pos : Pos}
theorem de_op {op : Operator} {g : G2} (ho : DOp W X (binaryOp op) g) (ha : DE W X E a fa) (hb : DE W X E b fb) : DE W X E (.BinOp a op b pos) (eOp g fa fb) := by
  obtain ⟨r, hr, qr⟩ := ho
  obtain ⟨ta, pa, qa⟩ := ha.ex
  obtain ⟨tb, pb, qb⟩ := hb.ex
  exact .mk (pe_op hr pa pb) fun Rs F H rr sg env st Q hH hE hP => eOp_post qa qb qr hH hE hP
theorem de_cmp {op : CmpOp} {g : G2} (ho : DOp W X (compareOp op) g) (ha : DE W X E a fa) (hb : DE W X E b fb) (hm : behindInMarks op b = false) : DE W X E (.Compare a [op] [b] pos) (eOp g fa fb) := by
  obtain ⟨r, hr, qr⟩ := ho
  obtain ⟨ta, pa, qa⟩ := ha.ex
  obtain ⟨tb, pb, qb⟩ := hb.ex
  exact .mk (pe_cmpR hr pa pb hm) fun Rs F H rr sg env st Q hH hE hP => eOp_post qa qb qr hH hE hP
/-- a value that is a bool, as a test -/
def tv (f : EV) : TV := fun env st => (f env st).bind fun a => match a.1 with
  | .bl b => .ok (b, a.2)
  | _ => .bad
theorem tv_post {ta : TE} {f : EV} (qa : ∀ Rs F H r sg env st Q, Holds W Rs F H r st → EnvOk F r sg env → Post W Rs F r (f env st) Q E → ta sg H Q)
    {Rs F H r sg env st} {Q : Bool → Hp → Prop} (hH : Holds W Rs F H r st) (hE : EnvOk F r sg env) (hP : PostT W Rs F r (tv f env st) Q E) : ta sg H fun x H1 => ∃ k, x = .bl k ∧ Q k H1 := by
  refine qa Rs F H r sg env st _ hH hE (bindX hP fun a ea q F1 H1 r1 v1 s1 x1 h1 k1 => ?_)
  obtain ⟨d, st1⟩ := a
  cases d with
  | bl c => cases k1; exact ⟨c, rfl, q F1 H1 r1 s1 x1 h1⟩
  | _ => exact q.elim
theorem dt_cmp {op : CmpOp} {g : G2} (ho : DOp W X (compareOp op) g) (ha : DE W X E a fa) (hb : DE W X E b fb) (hm : behindInMarks op b = false) : DT W X E (.Compare a [op] [b] pos) (tv (eOp g fa fb)) := by
  obtain ⟨r, hr, qr⟩ := ho
  obtain ⟨ta, pa, qa⟩ := ha.ex
  obtain ⟨tb, pb, qb⟩ := hb.ex
  exact .mk (pt_cmpR hr pa pb hm) fun Rs F H rr sg env st Q hH hE hP => tv_post (fun Rs F H r sg env st Q hH hE hP => eOp_post qa qb qr hH hE hP) hH hE hP
theorem dt_val {e : Expr} {f : EV} (h : DE W X E e f) (he : ∀ whole, isTrue e X.env whole = (do let v ← whole; standAt e.pos; holding [v] (truthy v)) := by intro _; rfl) : DT W X E e (tv f) := by
  obtain ⟨t, p, q⟩ := h.ex
  exact .mk (pt_val p he) fun Rs F H rr sg env st Q hH hE hP => tv_post q hH hE hP
/-- a < b < c -/
def eChain (g g' : G2) (fa fb fc : EV) : EV := fun env st => (fa env st).bind fun a => (fb env a.2).bind fun b => (g b.2 a.1 b.1).bind fun z => match z.1 with
  | .bl true => (fc env z.2).bind fun c => g' c.2 b.1 c.1
  | .bl false => .ok (.bl false, z.2)
  | _ => .bad
theorem chain_post {c : Expr} {ta tb tc : TE} {rd rd' : R2} {fa fb fc : EV} {g g' : G2}
    (qa : ∀ Rs F H r sg env st Q, Holds W Rs F H r st → EnvOk F r sg env → Post W Rs F r (fa env st) Q E → ta sg H Q)
    (qb : ∀ Rs F H r sg env st Q, Holds W Rs F H r st → EnvOk F r sg env → Post W Rs F r (fb env st) Q E → tb sg H Q)
    (qc : ∀ Rs F H r sg env st Q, Holds W Rs F H r st → EnvOk F r sg env → Post W Rs F r (fc env st) Q E → tc sg H Q)
    (qr : ∀ Rs F H rr st x y dx dy Q E, Holds W Rs F H rr st → Rep F rr x dx → Rep F rr y dy → Post W Rs F rr (g st dx dy) Q E → rd x y H Q)
    (qr' : ∀ Rs F H rr st x y dx dy Q E, Holds W Rs F H rr st → Rep F rr x dx → Rep F rr y dy → Post W Rs F rr (g' st dx dy) Q E → rd' x y H Q)
    {Rs F H r sg env st Q} (hH : Holds W Rs F H r st) (hE : EnvOk F r sg env) (hP : Post W Rs F r (eChain g g' fa fb fc env st) Q E) : tChain rd rd' ta tb tc sg H Q := by
  refine qa Rs F H r sg env st _ hH hE (bindX hP fun a ea q F1 H1 r1 v1 s1 x1 h1 k1 => ?_)
  refine qb Rs F1 H1 r1 sg env a.2 _ h1 (hE.mono s1 x1) (bindX (Post.later s1 x1 (res := (fb env a.2).bind _) q) fun b eb q2 F2 H2 r2 v2 s2 x2 h2 k2 => ?_)
  refine qr Rs F2 H2 r2 b.2 v1 v2 a.1 b.1 _ E h2 (k1.mono s2 x2) k2 (bindX (Post.later s2 x2 (res := (g b.2 a.1 b.1).bind _) q2) fun z ez q3 F3 H3 r3 v3 s3 x3 h3 k3 => ?_)
  obtain ⟨dz, st3⟩ := z
  cases dz with
  | bl k =>
    cases k3
    refine ⟨k, rfl, ?_⟩
    cases k with
    | true =>
      show tc sg H3 fun u H4 => rd' v2 u H4 Q
      refine qc Rs F3 H3 r3 sg env st3 _ h3 (hE.mono ((s1.trans s2).trans s3) ((x1.trans x2).trans x3)) (bindX (Post.later s3 x3 (res := (fc env st3).bind _) q3) fun c ec q4 F4 H4 r4 v4 s4 x4 h4 k4 => ?_)
      exact qr' Rs F4 H4 r4 c.2 v2 v4 b.1 c.1 Q E h4 (k2.mono (s3.trans s4) (x3.trans x4)) k4 (Post.later s4 x4 q4)
    | false => exact q3 F3 H3 r3 (.bl false) s3 x3 h3 (.bl false)
  | _ => exact q3.elim
theorem de_chain {c : Expr} {fc : EV} {op op' : CmpOp} {g g' : G2} (ho : DOp W X (compareOp op) g) (ho' : DOp W X (compareOp op') g') (ha : DE W X E a fa) (hb : DE W X E b fb) (hc : DE W X E c fc)
    (hm : lastMarks [op, op'] [b, c] = false) : DE W X E (.Compare a [op, op'] [b, c] pos) (eChain g g' fa fb fc) := by
  obtain ⟨r, hr, qr⟩ := ho
  obtain ⟨r', hr', qr'⟩ := ho'
  obtain ⟨ta, pa, qa⟩ := ha.ex
  obtain ⟨tb, pb, qb⟩ := hb.ex
  obtain ⟨tc, pc, qc⟩ := hc.ex
  exact .mk (pe_chain hr hr' pa pb pc hm) fun Rs F H rr sg env st Q hH hE hP => chain_post (c := c) qa qb qc qr qr' hH hE hP
theorem dt_chain {c : Expr} {fc : EV} {op op' : CmpOp} {g g' : G2} (ho : DOp W X (compareOp op) g) (ho' : DOp W X (compareOp op') g') (ha : DE W X E a fa) (hb : DE W X E b fb) (hc : DE W X E c fc)
    (hm : lastMarks [op, op'] [b, c] = false) : DT W X E (.Compare a [op, op'] [b, c] pos) (tv (eChain g g' fa fb fc)) := by
  obtain ⟨r, hr, qr⟩ := ho
  obtain ⟨r', hr', qr'⟩ := ho'
  obtain ⟨ta, pa, qa⟩ := ha.ex
  obtain ⟨tb, pb, qb⟩ := hb.ex
  obtain ⟨tc, pc, qc⟩ := hc.ex
  exact .mk (pt_chain hr hr' pa pb pc hm) fun Rs F H rr sg env st Q hH hE hP => tv_post (fun Rs F H r sg env st Q hH hE hP => chain_post (c := c) qa qb qc qr qr' hH hE hP) hH hE hP

/-! ### and, or, not, if -/
def tAndD (f g : TV) : TV := fun env st => (f env st).bind fun a => if a.1 = true then g env a.2 else .ok (false, a.2)
def tOrD (f g : TV) : TV := fun env st => (f env st).bind fun a => if a.1 = true then .ok (true, a.2) else g env a.2
def tNotD (f : TV) : TV := fun env st => (f env st).bind fun a => .ok (!a.1, a.2)
variable {rest : List Expr} {ga gb : TV}
theorem onT_here {Rs F H : Hp} {r : List Addr} {st : Store} {Q : Bool → Hp → Prop} {b : Bool} (h : Holds W Rs F H r st) (q : onT W Rs F r Q (b, st)) : Q b H := q F H r (Same.refl _) (Ext.refl _) h
theorem dw_and1 (h : DT W X E a ga) : DW W X E (.BoolOp .And [a] pos) ga := let ⟨t, p, q⟩ := h.ex; .mk (pw_and1 p) q
theorem dw_or1 (h : DT W X E a ga) : DW W X E (.BoolOp .Or [a] pos) ga := let ⟨t, p, q⟩ := h.ex; .mk (pw_or1 p) q
theorem dw_and (ha : DT W X E a ga) (hb : DW W X E (.BoolOp .And (b :: rest) pos) gb) : DW W X E (.BoolOp .And (a :: b :: rest) pos) (tAndD ga gb) := by
  obtain ⟨ta, pa, qa⟩ := ha.ex
  obtain ⟨tb, pb, qb⟩ := hb.ex
  refine .mk (pw_and pa pb) fun Rs F H rr sg env st Q hH hE hP => ?_
  refine qa Rs F H rr sg env st _ hH hE (bindX hP fun a ea q F1 H1 r1 s1 x1 h1 => ?_)
  obtain ⟨c, st1⟩ := a
  cases c with
  | true => exact qb Rs F1 H1 r1 sg env st1 Q h1 (hE.mono s1 x1) (PostT.later s1 x1 q)
  | false => exact q F1 H1 r1 s1 x1 h1
theorem dw_or (ha : DT W X E a ga) (hb : DW W X E (.BoolOp .Or (b :: rest) pos) gb) : DW W X E (.BoolOp .Or (a :: b :: rest) pos) (tOrD ga gb) := by
  obtain ⟨ta, pa, qa⟩ := ha.ex
  obtain ⟨tb, pb, qb⟩ := hb.ex
  refine .mk (pw_or pa pb) fun Rs F H rr sg env st Q hH hE hP => ?_
  refine qa Rs F H rr sg env st _ hH hE (bindX hP fun a ea q F1 H1 r1 s1 x1 h1 => ?_)
  obtain ⟨c, st1⟩ := a
  cases c with
  | true => exact q F1 H1 r1 s1 x1 h1
  | false => exact qb Rs F1 H1 r1 sg env st1 Q h1 (hE.mono s1 x1) (PostT.later s1 x1 q)
theorem dt_w (h : DW W X E a ga) : DT W X E a ga := let ⟨t, p, q⟩ := h.ex; .mk (p.pt) q
theorem dt_not (h : DT W X E a ga) : DT W X E (.UnaryOp .Not a pos) (tNotD ga) := by
  obtain ⟨ta, pa, qa⟩ := h.ex
  refine .mk (pt_not pa) fun Rs F H rr sg env st Q hH hE hP => ?_
  exact qa Rs F H rr sg env st _ hH hE (bindX hP fun a ea q F1 H1 r1 s1 x1 h1 => q F1 H1 r1 s1 x1 h1)
def eAnd (f g : EV) : EV := fun env st => (f env st).bind fun a => match a.1 with
  | .bl true => g env a.2
  | .bl false => .ok (.bl false, a.2)
  | _ => .bad
def eOr (f g : EV) : EV := fun env st => (f env st).bind fun a => match a.1 with
  | .bl true => .ok (.bl true, a.2)
  | .bl false => g env a.2
  | _ => .bad
def eNot (f : EV) : EV := fun env st => (f env st).bind fun a => match a.1 with
  | .bl b => .ok (.bl (!b), a.2)
  | _ => .bad
theorem de_one {op} {f : EV} (h : DE W X E a f) : DE W X E (.BoolOp op [a] pos) f := let ⟨t, p, q⟩ := h.ex; .mk (pe_one p) q
theorem de_and (ha : DE W X E a fa) (hb : DE W X E (.BoolOp .And (b :: rest) pos) fb) : DE W X E (.BoolOp .And (a :: b :: rest) pos) (eAnd fa fb) := by
  obtain ⟨ta, pa, qa⟩ := ha.ex
  obtain ⟨tb, pb, qb⟩ := hb.ex
  refine .mk (pe_and pa pb) fun Rs F H rr sg env st Q hH hE hP => ?_
  refine qa Rs F H rr sg env st _ hH hE (bindX hP fun a ea q F1 H1 r1 v1 s1 x1 h1 k1 => ?_)
  obtain ⟨d, st1⟩ := a
  cases d with
  | bl c =>
    cases k1
    refine ⟨c, rfl, ?_⟩
    cases c with
    | true => exact qb Rs F1 H1 r1 sg env st1 Q h1 (hE.mono s1 x1) (Post.later s1 x1 q)
    | false => exact q F1 H1 r1 _ s1 x1 h1 (.bl false)
  | _ => exact q.elim
theorem de_or (ha : DE W X E a fa) (hb : DE W X E (.BoolOp .Or (b :: rest) pos) fb) : DE W X E (.BoolOp .Or (a :: b :: rest) pos) (eOr fa fb) := by
  obtain ⟨ta, pa, qa⟩ := ha.ex
  obtain ⟨tb, pb, qb⟩ := hb.ex
  refine .mk (pe_or pa pb) fun Rs F H rr sg env st Q hH hE hP => ?_
  refine qa Rs F H rr sg env st _ hH hE (bindX hP fun a ea q F1 H1 r1 v1 s1 x1 h1 k1 => ?_)
  obtain ⟨d, st1⟩ := a
  cases d with
  | bl c =>
    cases k1
    refine ⟨c, rfl, ?_⟩
    cases c with
    | true => exact q F1 H1 r1 _ s1 x1 h1 (.bl true)
    | false => exact qb Rs F1 H1 r1 sg env st1 Q h1 (hE.mono s1 x1) (Post.later s1 x1 q)
  | _ => exact q.elim
theorem de_not (h : DE W X E a fa) : DE W X E (.UnaryOp .Not a pos) (eNot fa) := by
  obtain ⟨ta, pa, qa⟩ := h.ex
  refine .mk (pe_not pa) fun Rs F H rr sg env st Q hH hE hP => ?_
  refine qa Rs F H rr sg env st _ hH hE (bindX hP fun a ea q F1 H1 r1 v1 s1 x1 h1 k1 => ?_)
  obtain ⟨d, st1⟩ := a
  cases d with
  | bl c => cases k1; exact ⟨c, rfl, q F1 H1 r1 _ s1 x1 h1 (.bl _)⟩
  | _ => exact q.elim
def eIf (t : TV) (f g : EV) : EV := fun env st => (t env st).bind fun a => if a.1 = true then f env a.2 else g env a.2
theorem de_if {c : Expr} (hc : DT W X E c ga) (ha : DE W X E a fa) (hb : DE W X E b fb) : DE W X E (.IfExp c a b pos) (eIf ga fa fb) := by
  obtain ⟨tc, pc, qc⟩ := hc.ex
  obtain ⟨ta, pa, qa⟩ := ha.ex
  obtain ⟨tb, pb, qb⟩ := hb.ex
  refine .mk (pe_ifExp pc pa pb) fun Rs F H rr sg env st Q hH hE hP => ?_
  refine qc Rs F H rr sg env st _ hH hE (bindX hP fun a ea q F1 H1 r1 s1 x1 h1 => ?_)
  obtain ⟨c, st1⟩ := a
  cases c with
  | true => exact qa Rs F1 H1 r1 sg env st1 Q h1 (hE.mono s1 x1) (Post.later s1 x1 q)
  | false => exact qb Rs F1 H1 r1 sg env st1 Q h1 (hE.mono s1 x1) (Post.later s1 x1 q)

/-! ### arguments, displays -/
def aNil : AV := fun _ st => .ok ([], st)
def aCons (f : EV) (g : AV) : AV := fun env st => (f env st).bind fun a => (g env a.2).bind fun b => .ok (a.1 :: b.1, b.2)
theorem da_nil : DA W X E [] aNil := .mk pa_nil fun Rs F H rr sg env st Q hH hE hP => hP F H rr [] (Same.refl _) (Ext.refl _) hH .nil
theorem da_cons {e : Expr} {es : List Expr} {f : EV} {g : AV} (he : DE W X E e f) (hr : DA W X E es g) (hs : starEach (e :: es) X.env = (false, eval e X.env) :: starEach es X.env := by rfl) : DA W X E (e :: es) (aCons f g) := by
  obtain ⟨te, pe, qe⟩ := he.ex
  obtain ⟨tr, pr, qr⟩ := hr.ex
  refine .mk (pa_cons pe pr hs) fun Rs F H rr sg env st Q hH hE hP => ?_
  refine qe Rs F H rr sg env st _ hH hE (bindX hP fun a ea q F1 H1 r1 v1 s1 x1 h1 k1 => ?_)
  refine qr Rs F1 H1 r1 sg env a.2 _ h1 (hE.mono s1 x1) (bindX (PostA.later s1 x1 (res := (g env a.2).bind _) q) fun b eb q2 F2 H2 r2 vs s2 x2 h2 k2 => ?_)
  exact q2 F2 H2 r2 (v1 :: vs) s2 x2 h2 (.cons (k1.mono s2 x2) k2)
/-- a list laid: frozen, or into the store -/
def newL (m : Bool) (ds : List D) (st : Store) : R (D × Store) := if m = true then .ok (.ref st.length, st ++ [.lst ds]) else .ok (.lst ds, st)
theorem newL_post {m : Bool} {Rs F H : Hp} {r : List Addr} {st : Store} {Q : VK} {vs : List V} {ds : List D} {p : Addr} (h : Holds W Rs F H r st) (k : Reps F r vs ds) (q : Post W Rs F r (newL m ds st) Q E) (e : H p = none) : Q (.ref p) (upd H p (.lst vs)) := by
  unfold newL at q
  cases m with
  | true =>
    refine q F (upd H p (.lst vs)) (r ++ [p]) (.ref p) (Same.refl _) (Ext.snoc _ _) (h.fresh e ⟨vs, upd_same, k.mono (Same.refl _) (Ext.snoc _ _)⟩) (.ref ?_)
    show (r ++ [p])[st.length]? = some p
    rw [← h.len, List.getElem?_append_right (Nat.le_refl _)]; simp
  | false =>
    obtain ⟨s, h'⟩ := h.frozen (o := .lst vs) e
    exact q _ _ r (.ref p) s (Ext.refl _) h' (.lst upd_same (k.mono s (Ext.refl _)))
theorem tup_post {Rs F H : Hp} {r : List Addr} {st : Store} {Q : VK} {vs : List V} {ds : List D} {p : Addr} (h : Holds W Rs F H r st) (k : Reps F r vs ds) (q : onE W Rs F r Q (.tup ds, st)) (e : H p = none) : Q (.ref p) (upd H p (.tup vs)) := by
  obtain ⟨s, h'⟩ := h.frozen (o := .tup vs) e
  exact q _ _ r (.ref p) s (Ext.refl _) h' (.tup upd_same (k.mono s (Ext.refl _)))
theorem lim_line {n : Nat} (h : n ≤ LIM) : n ≤ sizeLine := Nat.le_trans h (by decide)
theorem lim_lt {n : Nat} (h : n ≤ LIM) : n < sizeLine := Nat.lt_of_le_of_lt h (by decide)
def eTup (g : AV) : EV := fun env st => (g env st).bind fun a => if a.1.length ≤ LIM then .ok (.tup a.1, a.2) else .bad
def eLst (m : Bool) (g : AV) : EV := fun env st => (g env st).bind fun a => if a.1.length ≤ LIM then newL m a.1 a.2 else .bad
theorem de_tup {es : List Expr} {g : AV} {x1} (h : DA W X E es g) : DE W X E (.Tuple es x1 pos) (eTup g) := by
  obtain ⟨t, p, q⟩ := h.ex
  refine .mk (pe_tup p) fun Rs F H rr sg env st Q hH hE hP => ?_
  refine q Rs F H rr sg env st _ hH hE (bindX hP fun a ea q F1 H1 r1 vs s1 x1 h1 k1 => ?_)
  by_cases hl : a.1.length ≤ LIM
  · rw [if_pos hl] at q
    exact ⟨by rw [k1.length]; exact lim_line hl, fun pp hp => tup_post h1 k1 (Post.later s1 x1 (res := .ok (.tup a.1, a.2)) q) hp⟩
  · rw [if_neg hl] at q; exact q.elim
theorem de_lst (m : Bool) {es : List Expr} {g : AV} (h : DA W X E es g) : DE W X E (.List es pos) (eLst m g) := by
  obtain ⟨t, p, q⟩ := h.ex
  refine .mk (pe_lst p) fun Rs F H rr sg env st Q hH hE hP => ?_
  refine q Rs F H rr sg env st _ hH hE (bindX hP fun a ea q F1 H1 r1 vs s1 x1 h1 k1 => ?_)
  by_cases hl : a.1.length ≤ LIM
  · rw [if_pos hl] at q
    exact ⟨by rw [k1.length]; exact lim_line hl, fun pp hp => newL_post (m := m) h1 k1 (Post.later s1 x1 q) hp⟩
  · rw [if_neg hl] at q; exact q.elim
end

/-! ### lists and tuples by their data -/
def lstOf (st : Store) : D → Option (List D)
  | .lst ds => some ds
  | .ref n => match st[n]? with
    | some (.lst ds) => some ds
    | _ => none
  | _ => none
theorem lstOf_ok {W : Wd} {Rs F H : Hp} {r : List Addr} {st : Store} {v : V} {d : D} {ds : List D} (h : Holds W Rs F H r st) (k : Rep F r v d) (e : lstOf st d = some ds) : ∃ a vs, v = .ref a ∧ H a = some (.lst vs) ∧ Reps F r vs ds := by
  cases k with
  | lst q k => cases e; exact ⟨_, _, rfl, h.sF _ _ q, k⟩
  | @ref a n q =>
    unfold lstOf at e
    simp only at e
    split at e
    · rename_i ds' e'
      cases e
      have hh := h.ob n a _ q e'
      obtain ⟨vs, e1, k⟩ := hh
      exact ⟨a, vs, rfl, e1, k⟩
    · cases e
  | _ => cases e
theorem tup_ok {W : Wd} {Rs F H : Hp} {r : List Addr} {st : Store} {v : V} {ds : List D} (h : Holds W Rs F H r st) (k : Rep F r v (.tup ds)) : ∃ a vs, v = .ref a ∧ H a = some (.tup vs) ∧ Reps F r vs ds := by
  cases k with
  | tup q k => exact ⟨_, _, rfl, h.sF _ _ q, k⟩
end Dl
/-! ## DlOps -/
/-! Operations upon values. -/
namespace Dl
open PySem L2

section
variable {W : Wd} {X : Cx} {E : XK}
theorem DOp.of {f : Value → Value → Sem Value} {r : R2} {g : G2} (h : OpR X f r) (k : ∀ Rs F H rr st x y dx dy Q E, Holds W Rs F H rr st → Rep F rr x dx → Rep F rr y dy → Post W Rs F rr (g st dx dy) Q E → r x y H Q) : DOp W X f g := ⟨r, h, k⟩

/-! ### equality -/
def optAll {A : Type} : List (Option A) → Option (List A)
  | [] => some []
  | none :: _ => none
  | some a :: r => match optAll r with
    | some l => some (a :: l)
    | none => none
def toP (st : Store) : Nat → D → Option PyData
  | 0, _ => none
  | n + 1, d => match d with
    | .non => some .none
    | .bl b => some (.bool b)
    | .int i => some (.int i)
    | .str s => some (.str ⟨s.toArray⟩)
    | .tup ds => match optAll (ds.map (toP st n)) with
      | some ps => some (.tuple ps)
      | none => none
    | .lst ds => match optAll (ds.map (toP st n)) with
      | some ps => some (.list ps)
      | none => none
    | .ref k => match st[k]? with
      | some (.lst ds) => match optAll (ds.map (toP st n)) with
        | some ps => some (.list ps)
        | none => none
      | _ => none
    | .scr _ => none
    | .exn _ _ => none
theorem strOk_of {s : List Nat} (h : s.all (fun c => decide (c < 128)) = true) : PyData.strOk ⟨s.toArray⟩ = true := by
  unfold PyData.strOk
  rw [List.all_eq_true] at h
  simp only [List.size_toArray, List.all_toArray', List.all_eq_true, decide_eq_true_eq]
  intro x hx
  have := of_decide_eq_true (h x hx)
  omega
section
variable {Rs F H : Hp} {r : List Addr} {st : Store}
theorem toP_ok (h : Holds W Rs F H r st) : ∀ (n : Nat) (d : D) (v : V) (p : PyData), Rep F r v d → toP st n d = some p → Dp W.K H v p ∧ p.canLay0 = true ∧ p.depth ≤ n
  | 0, _, _, _, _, e => by cases e
  | n + 1, d, v, p, k, e => by
    have all : ∀ (ds : List D) (vs : List V) (ps : List PyData), Reps F r vs ds → optAll (ds.map (toP st n)) = some ps → DpAll W.K H vs ps ∧ PyData.canLayAll0 ps = true ∧ PyData.depthAll ps ≤ n := by
      intro ds
      induction ds with
      | nil => intro vs ps k e; cases k; cases e; exact ⟨.nil, rfl, Nat.zero_le _⟩
      | cons d ds ih =>
        intro vs ps k e
        cases k with
        | cons k1 k2 =>
          rw [List.map_cons] at e
          cases e1 : toP st n d with
          | none => rw [e1] at e; cases e
          | some p1 =>
            rw [e1] at e
            unfold optAll at e
            cases e2 : optAll (ds.map (toP st n)) with
            | none => rw [e2] at e; cases e
            | some ps2 =>
              rw [e2] at e
              cases e
              obtain ⟨a1, a2, a3⟩ := toP_ok h n d _ _ k1 e1
              obtain ⟨b1, b2, b3⟩ := ih _ _ k2 e2
              refine ⟨.cons a1 b1, ?_, ?_⟩
              · unfold PyData.canLayAll0; rw [a2, b2]; rfl
              · unfold PyData.depthAll; omega
    cases k with
    | non => cases e; exact ⟨.non, rfl, Nat.zero_le _⟩
    | bl b => cases e; exact ⟨.bl b, rfl, Nat.zero_le _⟩
    | int i => cases e; exact ⟨.int i, rfl, Nat.zero_le _⟩
    | str s a l => cases e; exact ⟨.str _, strOk_of a, Nat.zero_le _⟩
    | scr q => cases e
    | exn0 => cases e
    | exn1 q => cases e
    | tup q k =>
      unfold toP at e
      simp only at e
      split at e
      · rename_i ps e'
        cases e
        obtain ⟨a1, a2, a3⟩ := all _ _ _ k e'
        refine ⟨.tup (.of (h.sF _ _ q)) a1, ?_, ?_⟩
        · unfold PyData.canLay0; exact a2
        · unfold PyData.depth; omega
      · cases e
    | lst q k =>
      unfold toP at e
      simp only at e
      split at e
      · rename_i ps e'
        cases e
        obtain ⟨a1, a2, a3⟩ := all _ _ _ k e'
        refine ⟨.lst (.of (h.sF _ _ q)) a1, ?_, ?_⟩
        · unfold PyData.canLay0; exact a2
        · unfold PyData.depth; omega
      · cases e
    | @ref a m q =>
      unfold toP at e
      simp only at e
      split at e
      · rename_i ds e0
        split at e
        · rename_i ps e'
          cases e
          obtain ⟨vs, q', k⟩ := h.ob m a _ q e0
          obtain ⟨a1, a2, a3⟩ := all _ _ _ k e'
          refine ⟨.lst (.of q') a1, ?_, ?_⟩
          · unfold PyData.canLay0; exact a2
          · unfold PyData.depth; omega
        · cases e
      · cases e
end
def eqG (neg : Bool) : G2 := fun st d e => match toP st 40 d, toP st 40 e with
  | some p, some q => .ok (.bl (if neg = true then !PyData.eqv p q else PyData.eqv p q), st)
  | _, _ => .bad
theorem shaped_of {p : PyData} (a : p.canLay0 = true) (b : p.depth ≤ 40) : SeqAt.shaped p = true := by
  unfold SeqAt.shaped
  rw [a, decide_eq_true (show p.depth ≤ 64 by omega)]; rfl
theorem dop_eq (hK : X.K = W.K) (hu : X.A.units + 64 < cLine) : DOp W X (compareOp .Eq) (eqG false) := .of (op_eqD hu) fun Rs F H rr st x y dx dy Q E h kx ky hP => by
  unfold eqG at hP
  split at hP
  · rename_i p q e1 e2
    obtain ⟨a1, a2, a3⟩ := toP_ok h _ _ _ _ kx e1
    obtain ⟨b1, b2, b3⟩ := toP_ok h _ _ _ _ ky e2
    exact ⟨p, q, by rw [hK]; exact a1, by rw [hK]; exact b1, shaped_of a2 a3, shaped_of b2 b3, onE_here h (.bl _) hP⟩
  · exact hP.elim
theorem dop_ne (hK : X.K = W.K) (hu : X.A.units + 64 < cLine) : DOp W X (compareOp .NotEq) (eqG true) := .of (op_neD hu) fun Rs F H rr st x y dx dy Q E h kx ky hP => by
  unfold eqG at hP
  split at hP
  · rename_i p q e1 e2
    obtain ⟨a1, a2, a3⟩ := toP_ok h _ _ _ _ kx e1
    obtain ⟨b1, b2, b3⟩ := toP_ok h _ _ _ _ ky e2
    exact ⟨p, q, by rw [hK]; exact a1, by rw [hK]; exact b1, shaped_of a2 a3, shaped_of b2 b3, onE_here h (.bl _) hP⟩
  · exact hP.elim

/-! ### order -/
def ltG : G2 := fun st d e => match d, e with
  | .int i, .int j => .ok (.bl (decide (i < j)), st)
  | _, _ => .bad
def gtG : G2 := fun st d e => match d, e with
  | .int i, .int j => .ok (.bl (decide (j < i)), st)
  | _, _ => .bad
def geG : G2 := fun st d e => match d, e with
  | .int i, .int j => .ok (.bl (decide (j ≤ i)), st)
  | _, _ => .bad
def leG : G2 := fun st d e => match d, e with
  | .int i, .int j => .ok (.bl (decide (i ≤ j)), st)
  | .str a, .str b => .ok (.bl (!decide (b < a)), st)
  | _, _ => .bad
theorem dop_lt : DOp W X (compareOp .Lt) ltG := .of op_lt fun Rs F H rr st x y dx dy Q E h kx ky hP => by
  cases kx <;> cases ky <;> first | exact hP.elim | exact ⟨_, _, rfl, rfl, onE_here h (.bl _) hP⟩
theorem dop_gt : DOp W X (compareOp .Gt) gtG := .of op_gt fun Rs F H rr st x y dx dy Q E h kx ky hP => by
  cases kx <;> cases ky <;> first | exact hP.elim | exact ⟨_, _, rfl, rfl, onE_here h (.bl _) hP⟩
theorem dop_ge : DOp W X (compareOp .GtE) geG := .of op_ge fun Rs F H rr st x y dx dy Q E h kx ky hP => by
  cases kx <;> cases ky <;> first | exact hP.elim | exact ⟨_, _, rfl, rfl, onE_here h (.bl _) hP⟩
theorem dop_le : DOp W X (compareOp .LtE) leG := .of (op_le.or op_le_str) fun Rs F H rr st x y dx dy Q E h kx ky hP => by
  cases kx <;> cases ky <;> first | exact hP.elim | exact .inl ⟨_, _, rfl, rfl, onE_here h (.bl _) hP⟩ | exact .inr ⟨_, _, rfl, rfl, onE_here h (.bl _) hP⟩

/-! ### is -/
def isG (neg : Bool) : G2 := fun st d e => match d, e with
  | .bl a, .bl b => .ok (.bl (if neg = true then !decide (a = b) else decide (a = b)), st)
  | .non, .non => .ok (.bl (!neg), st)
  | _, .non => .ok (.bl neg, st)
  | _, _ => .bad
theorem dop_is : DOp W X (compareOp .Is) (isG false) := .of (op_isN.or op_isBl) fun Rs F H rr st x y dx dy Q E h kx ky hP => by
  cases kx <;> cases ky <;> first | exact hP.elim | exact .inl ⟨rfl, onE_here h (.bl _) hP⟩ | exact .inr ⟨_, _, rfl, rfl, onE_here h (.bl _) hP⟩
theorem dop_isnot : DOp W X (compareOp .IsNot) (isG true) := .of (op_notN.or op_notBl) fun Rs F H rr st x y dx dy Q E h kx ky hP => by
  cases kx <;> cases ky <;> first | exact hP.elim | exact .inl ⟨rfl, onE_here h (.bl _) hP⟩ | exact .inr ⟨_, _, rfl, rfl, onE_here h (.bl _) hP⟩

/-! ### arithmetic and joining -/
def addG (m : Bool) : G2 := fun st d e => match d, e with
  | .int i, .int j => .ok (.int (i + j), st)
  | .str a, .str b => if a.length + b.length ≤ LIM then .ok (.str (a ++ b), st) else .bad
  | .tup a, .tup b => if a.length + b.length ≤ LIM then .ok (.tup (a ++ b), st) else .bad
  | d, e => match lstOf st d, lstOf st e with
    | some a, some b => if a.length + b.length ≤ LIM then newL m (a ++ b) st else .bad
    | _, _ => .bad
theorem str_app (a b : List Nat) : ((⟨a.toArray⟩ : Str) ++ ⟨b.toArray⟩) = ⟨(a ++ b).toArray⟩ := TL.ext_tl (by rw [TL.tl_append])
theorem len_mk (a : List Nat) : (⟨a.toArray⟩ : Str).length = a.length := by simp [Str.length]
theorem rep_app {F : Hp} {r : List Addr} {a b : List Nat} (h1 : a.all (fun c => decide (c < 128)) = true) (h2 : b.all (fun c => decide (c < 128)) = true) (h : a.length + b.length ≤ LIM) : Rep F r (.str ((⟨a.toArray⟩ : Str) ++ ⟨b.toArray⟩)) (.str (a ++ b)) := by
  rw [str_app]
  exact .str _ (by rw [List.all_append, h1, h2]; rfl) (by simpa using h)
theorem addL {m : Bool} {st : Store} {d e : D} (h1 : ∀ i, d ≠ .int i) (h2 : ∀ i, d ≠ .str i) (h3 : ∀ i, d ≠ .tup i) : addG m st d e = match lstOf st d, lstOf st e with
    | some a, some b => if a.length + b.length ≤ LIM then newL m (a ++ b) st else .bad
    | _, _ => .bad := by
  cases d <;> first | rfl | exact absurd rfl (h1 _) | exact absurd rfl (h2 _) | exact absurd rfl (h3 _)
theorem dop_add (m : Bool) : DOp W X (binaryOp .Add) (addG m) := .of (op_add.or (op_add_str.or (op_catA.or op_cat))) fun Rs F H rr st x y dx dy Q E h kx ky hP => by
  have lists : (match lstOf st dx, lstOf st dy with
    | some a, some b => if a.length + b.length ≤ LIM then newL m (a ++ b) st else .bad
    | _, _ => (.bad : R (D × Store))) = addG m st dx dy → rCat x y H Q := fun eq => by
    rw [← eq] at hP
    split at hP
    · rename_i a b e1 e2
      by_cases hl : a.length + b.length ≤ LIM
      · rw [if_pos hl] at hP
        obtain ⟨p, vs, rfl, h1, k1⟩ := lstOf_ok h kx e1
        obtain ⟨q, ws, rfl, h2, k2⟩ := lstOf_ok h ky e2
        exact ⟨p, q, vs, ws, rfl, rfl, h1, h2, by rw [k1.length, k2.length]; exact lim_line hl, fun pp hp => newL_post h (Reps.append k1 k2) hP hp⟩
      · rw [if_neg hl] at hP; exact hP.elim
    · exact hP.elim
  cases kx with
  | int i =>
    cases ky with
    | int j => exact .inl ⟨_, _, rfl, rfl, onE_here h (.int _) hP⟩
    | _ => exact hP.elim
  | str a ha hal =>
    cases ky with
    | str b hb hbl =>
      refine .inr (.inl ⟨_, _, rfl, rfl, ?_⟩)
      by_cases hl : a.length + b.length ≤ LIM
      · unfold addG at hP
        simp only at hP
        rw [if_pos hl] at hP
        exact ⟨by rw [len_mk, len_mk]; exact lim_line hl, onE_here h (rep_app ha hb hl) hP⟩
      · unfold addG at hP
        simp only at hP
        rw [if_neg hl] at hP; exact hP.elim
    | _ => exact hP.elim
  | @tup p vs ds q1 k1 =>
    cases ky with
    | @tup p2 ws es q2 k2 =>
      refine .inr (.inr (.inl ?_))
      by_cases hl : ds.length + es.length ≤ LIM
      · unfold addG at hP
        simp only at hP
        rw [if_pos hl] at hP
        refine ⟨_, _, vs, ws, rfl, rfl, .of (h.sF _ _ q1), .of (h.sF _ _ q2), by rw [k1.length, k2.length]; exact lim_line hl, fun e => ?_, fun e1 e2 => ?_, fun e1 e2 pp hp => ?_⟩
        · subst e
          cases k1
          exact onE_here h (.tup q2 k2) hP
        · subst e2
          cases k2
          rw [List.append_nil] at hP
          exact onE_here h (.tup q1 k1) hP
        · exact tup_post h (Reps.append k1 k2) hP hp
      · unfold addG at hP
        simp only at hP
        rw [if_neg hl] at hP; exact hP.elim
    | _ => exact hP.elim
  | non => exact .inr (.inr (.inr (lists rfl)))
  | bl b => exact .inr (.inr (.inr (lists rfl)))
  | lst q k => exact .inr (.inr (.inr (lists rfl)))
  | ref q => exact .inr (.inr (.inr (lists rfl)))
  | scr q => exact .inr (.inr (.inr (lists rfl)))
  | exn0 => exact .inr (.inr (.inr (lists rfl)))
  | exn1 q => exact .inr (.inr (.inr (lists rfl)))
def subG : G2 := fun st d e => match d, e with
  | .int i, .int j => .ok (.int (i - j), st)
  | _, _ => .bad
theorem dop_sub : DOp W X (binaryOp .Sub) subG := .of op_sub fun Rs F H rr st x y dx dy Q E h kx ky hP => by
  cases kx <;> cases ky <;> first | exact hP.elim | exact ⟨_, _, rfl, rfl, onE_here h (.int _) hP⟩
def divG : G2 := fun st d e => match d, e with
  | .int i, .int j => if 0 < j ∧ j < 2 ^ 64 then .ok (.int (i / j), st) else .bad
  | _, _ => .bad
theorem dop_div : DOp W X (binaryOp .FloorDiv) divG := .of op_fdivW fun Rs F H rr st x y dx dy Q E h kx ky hP => by
  cases kx <;> cases ky <;> first | exact hP.elim | skip
  rename_i i j
  unfold divG at hP
  simp only at hP
  by_cases hl : 0 < j ∧ j < 2 ^ 64
  · rw [if_pos hl] at hP
    exact ⟨_, _, rfl, rfl, wide_div hl.1 (b := 64) (by omega) (by decide) (by decide), onE_here h (.int _) hP⟩
  · rw [if_neg hl] at hP; exact hP.elim
def modG : G2 := fun st d e => match d, e with
  | .int i, .int j => if 0 < j then .ok (.int (i % j), st) else .bad
  | _, _ => .bad
theorem dop_mod : DOp W X (binaryOp .Mod) modG := .of op_mod fun Rs F H rr st x y dx dy Q E h kx ky hP => by
  cases kx <;> cases ky <;> first | exact hP.elim | skip
  rename_i i j
  unfold modG at hP
  simp only at hP
  by_cases hl : 0 < j
  · rw [if_pos hl] at hP
    exact ⟨_, _, rfl, rfl, hl, onE_here h (.int _) hP⟩
  · rw [if_neg hl] at hP; exact hP.elim
def powG : G2 := fun st d e => match d, e with
  | .int i, .int j => if 0 ≤ j ∧ j ≤ 1000 ∧ i.natAbs < 2 ^ 64 then .ok (.int (i ^ j.toNat), st) else .bad
  | _, _ => .bad
theorem dop_pow : DOp W X (binaryOp .Pow) powG := .of op_pow fun Rs F H rr st x y dx dy Q E h kx ky hP => by
  cases kx <;> cases ky <;> first | exact hP.elim | skip
  rename_i i j
  unfold powG at hP
  simp only at hP
  by_cases hl : 0 ≤ j ∧ j ≤ 1000 ∧ i.natAbs < 2 ^ 64
  · rw [if_pos hl] at hP
    exact ⟨_, _, rfl, rfl, ⟨hl.1, by omega, hl.2.2⟩, onE_here h (.int _) hP⟩
  · rw [if_neg hl] at hP; exact hP.elim
/-- a text taken several times -/
def rMulS : R2 := fun x y H Q => ∃ z n, x = .str z ∧ y = .int n ∧ n ≤ 1000000 ∧ -1000000 ≤ n ∧ z.length * n.toNat ≤ 1000000 ∧ Q (.str ⟨(List.replicate n.toNat z.cps.toList).flatten.toArray⟩) H
theorem foldl_arr (a : Array Nat) : ∀ (k : Nat) (acc : Array Nat), (List.replicate k a).foldl (· ++ ·) acc = (acc.toList ++ (List.replicate k a.toList).flatten).toArray
  | 0, acc => by simp
  | k + 1, acc => by
    rw [List.replicate_succ, List.foldl_cons, foldl_arr a k, List.replicate_succ, List.flatten_cons]
    simp
theorem op_mulS : OpR X (binaryOp .Mult) rMulS := by
  intro pins s sg H x y v u Q I rx ry h
  obtain ⟨z, n, rfl, rfl, h1, h2, h3, q⟩ := h
  obtain ⟨t, rfl⟩ := rx
  obtain ⟨t', rfl⟩ := ry
  have fin : ∀ (w : Str) (u : Value) (s' : Shared), RelV (.str w) u → Inv X pins sg H s' → w = ⟨(List.replicate n.toNat z.cps.toList).flatten.toArray⟩ → EP X pins sg Q u s' := fun w u s' r I' e => ⟨.str w, H, I', r, by rw [e]; exact q⟩
  by_cases hn : n < 1
  · refine PySem.P.mul_str_none hn (by omega) (fin Str.empty _ _ ⟨_, rfl⟩ (I.tok _) ?_)
    have e : n.toNat = 0 := by omega
    rw [e]; rfl
  · refine PySem.P.mul_str ?_ ?_ ?_ ?_
    · rw [decide_eq_false (by omega), decide_eq_false (by omega)]; rfl
    · intro _ hb
      have hz : z.length ≤ 1000000 := by
        have : 1 ≤ n.toNat := by omega
        exact Nat.le_trans (Nat.le_mul_of_pos_right _ this) h3
      have : (1000000 : Int) ≤ (2 ^ 63 - 1 : Int) / n := by
        rw [Int.le_ediv_iff_mul_le (by omega)]
        omega
      omega
    · intro _ hb
      unfold Builtin.Str.tooLong
      have hs : (sizeLine : Nat) = 16777216 := sizeLine_eq
      simp only [decide_eq_false_iff_not]
      omega
    · rw [if_neg hn]
      by_cases hb : (n == 1 || z.length == 0) = true
      · rw [if_pos hb]
        refine fin z _ _ ⟨_, rfl⟩ I ?_
        rw [Bool.or_eq_true, beq_iff_eq, beq_iff_eq] at hb
        apply TL.ext_tl
        rw [TL.tl_mk]
        rcases hb with hb | hb
        · subst hb; simp [TL.tl]
        · have : z.cps.toList = [] := by
            have : z.cps.toList.length = 0 := by simpa [Str.length] using hb
            exact List.length_eq_zero_iff.mp this
          rw [this]; simp [TL.tl, this]
      · rw [if_neg hb]
        have e : (List.replicate n.toNat z.cps).foldl (· ++ ·) #[] = (List.replicate n.toNat z.cps.toList).flatten.toArray := by rw [foldl_arr]; simp
        refine ⟨?_, fin _ _ _ ⟨_, rfl⟩ (I.tok _) (by rw [e])⟩
        rw [e]
        show (List.replicate n.toNat z.cps.toList).flatten.toArray.size ≤ sizeLine
        have hs : (sizeLine : Nat) = 16777216 := sizeLine_eq
        rw [List.size_toArray, List.length_flatten, List.map_replicate, List.sum_replicate_nat]
        have : z.cps.toList.length = z.length := by simp [Str.length]
        rw [this, Nat.mul_comm]
        omega
def mulG (m : Bool) : G2 := fun st d e => match d, e with
  | .int i, .int j => if (-(2 ^ 64) < i ∧ i < 2 ^ 64) ∨ (-(2 ^ 64) < j ∧ j < 2 ^ 64) then .ok (.int (i * j), st) else .bad
  | .str s, .int n => if -1000000 ≤ n ∧ n ≤ 1000000 ∧ s.length * n.toNat ≤ LIM then .ok (.str (List.replicate n.toNat s).flatten, st) else .bad
  | .tup ds, .int n => if ds ≠ [] ∧ 2 ≤ n ∧ n ≤ 1000 ∧ ds.length ≤ 1000 then .ok (.tup (List.replicate n.toNat ds).flatten, st) else .bad
  | d, .int n => match lstOf st d with
    | some ds => if -1000000 ≤ n ∧ n ≤ 1000000 ∧ ds.length * n.toNat ≤ LIM then newL m (List.replicate n.toNat ds).flatten st else .bad
    | none => .bad
  | _, _ => .bad
theorem mulL {m : Bool} {st : Store} {d : D} {n : Int} (h1 : ∀ i, d ≠ .int i) (h2 : ∀ i, d ≠ .str i) (h3 : ∀ i, d ≠ .tup i) : mulG m st d (.int n) = match lstOf st d with
    | some ds => if -1000000 ≤ n ∧ n ≤ 1000000 ∧ ds.length * n.toNat ≤ LIM then newL m (List.replicate n.toNat ds).flatten st else .bad
    | none => .bad := by
  cases d <;> first | rfl | exact absurd rfl (h1 _) | exact absurd rfl (h2 _) | exact absurd rfl (h3 _)
theorem all_rep {s : List Nat} {p : Nat → Bool} (h : s.all p = true) : ∀ k : Nat, (List.replicate k s).flatten.all p = true
  | 0 => rfl
  | k + 1 => by rw [List.replicate_succ, List.flatten_cons, List.all_append, h, all_rep h k]; rfl
theorem len_rep {A : Type} (s : List A) (k : Nat) : (List.replicate k s).flatten.length = s.length * k := by
  rw [List.length_flatten, List.map_replicate, List.sum_replicate_nat, Nat.mul_comm]
theorem dop_mul (m : Bool) : DOp W X (binaryOp .Mult) (mulG m) := .of (op_mul.or (op_mulS.or (op_repT.or op_rep))) fun Rs F H rr st x y dx dy Q E h kx ky hP => by
  have lists : ∀ n, y = .int n → (match lstOf st dx with
    | some ds => if -1000000 ≤ n ∧ n ≤ 1000000 ∧ ds.length * n.toNat ≤ LIM then newL m (List.replicate n.toNat ds).flatten st else .bad
    | none => (.bad : R (D × Store))) = mulG m st dx dy → rRep x y H Q := fun n ey eq => by
    rw [← eq] at hP
    split at hP
    · rename_i a e1
      by_cases hl : -1000000 ≤ n ∧ n ≤ 1000000 ∧ a.length * n.toNat ≤ LIM
      · rw [if_pos hl] at hP
        obtain ⟨p, vs, rfl, h1, k1⟩ := lstOf_ok h kx e1
        exact ⟨p, n, vs, rfl, ey, h1, by omega, by omega, by rw [k1.length]; exact lim_line hl.2.2, fun pp hp => newL_post h (Reps.flat k1 _) hP hp⟩
      · rw [if_neg hl] at hP; exact hP.elim
    · exact hP.elim
  cases ky with
  | int n =>
    cases kx with
    | int i =>
      unfold mulG at hP
      simp only at hP
      split at hP
      · rename_i hc
        exact .inl ⟨_, _, rfl, rfl, hc, onE_here h (.int _) hP⟩
      · exact hP.elim
    | str a ha hal =>
      unfold mulG at hP
      simp only at hP
      split at hP
      · rename_i hc
        refine .inr (.inl ⟨_, _, rfl, rfl, hc.2.1, hc.1, by rw [len_mk]; exact hc.2.2, ?_⟩)
        refine onE_here h ?_ hP
        exact .str _ (all_rep ha _) (by rw [len_rep]; exact hc.2.2)
      · exact hP.elim
    | @tup p vs ds q1 k1 =>
      unfold mulG at hP
      simp only at hP
      split at hP
      · rename_i hc
        refine .inr (.inr (.inl ⟨_, _, vs, rfl, rfl, .of (h.sF _ _ q1), fun e => hc.1 ?_, hc.2.1, hc.2.2.1, by rw [k1.length]; exact hc.2.2.2, fun pp hp => tup_post h (Reps.flat k1 _) hP hp⟩))
        subst e; cases k1; rfl
      · exact hP.elim
    | non => exact .inr (.inr (.inr (lists _ rfl rfl)))
    | bl b => exact .inr (.inr (.inr (lists _ rfl rfl)))
    | lst q k => exact .inr (.inr (.inr (lists _ rfl rfl)))
    | ref q => exact .inr (.inr (.inr (lists _ rfl rfl)))
    | scr q => exact .inr (.inr (.inr (lists _ rfl rfl)))
    | exn0 => exact .inr (.inr (.inr (lists _ rfl rfl)))
    | exn1 q => exact .inr (.inr (.inr (lists _ rfl rfl)))
  | _ => cases kx <;> exact hP.elim

/-! ### in -/
def flatD : D → Bool
  | .non => true
  | .bl _ => true
  | .int _ => true
  | .str _ => true
  | _ => false
def eqFl : D → D → Bool
  | .non, .non => true
  | .bl a, .bl b => a == b
  | .bl a, .int b => (if a then 1 else 0) == b
  | .int a, .bl b => a == (if b then 1 else 0)
  | .int a, .int b => a == b
  | .str a, .str b => a == b
  | _, _ => false
theorem flatD_ok {F : Hp} {r : List Addr} {v : V} {d : D} (k : Rep F r v d) (h : flatD d = true) : flatV v = true := by cases k <;> first | rfl | cases h
theorem str_beq (a b : List Nat) : ((⟨a.toArray⟩ : Str) == ⟨b.toArray⟩) = (a == b) := by
  by_cases e : a = b
  · subst e; simp
  · rw [beq_eq_false_iff_ne.mpr e, beq_eq_false_iff_ne]
    intro q
    apply e
    have := congrArg (fun (x : Str) => x.cps.toList) q
    simpa using this
theorem eqFl_ok {F : Hp} {r : List Addr} {v w : V} {d e : D} (k : Rep F r v d) (l : Rep F r w e) (h : flatD d = true) (h' : flatD e = true) : eqV v w = eqFl d e := by
  cases k <;> first | (exact absurd h Bool.false_ne_true) | skip
  all_goals (cases l <;> first | rfl | exact str_beq _ _ | (exact absurd h' Bool.false_ne_true))
def seqOf (st : Store) : D → Option (List D)
  | .tup ds => some ds
  | d => lstOf st d
theorem inSeq_ok {F : Hp} {r : List Addr} {v : V} {d : D} (k : Rep F r v d) (h : flatD d = true) : ∀ {vs : List V} {ds : List D}, Reps F r vs ds → ds.all flatD = true → vs.all flatV = true ∧ inV v vs = ds.any fun e => eqFl e d
  | _, _, .nil, _ => ⟨rfl, rfl⟩
  | _, _, .cons k1 k2, e => by
    rw [List.all_cons, Bool.and_eq_true] at e
    obtain ⟨a, b⟩ := inSeq_ok k h k2 e.2
    refine ⟨by rw [List.all_cons, flatD_ok k1 e.1, a]; rfl, ?_⟩
    unfold inV at b ⊢
    rw [List.any_cons, List.any_cons, eqFl_ok k1 k e.1 h, b]
/-- a place at which x stands in y -/
def inS (x y : List Nat) : Bool := !(Builtin.Str.occurrences ⟨y.toArray⟩ ⟨x.toArray⟩ 0 y.length 1).isEmpty
def inG (neg : Bool) : G2 := fun st d e => match d, e with
  | .str [c], .str b => .ok (.bl (if neg = true then !decide (c ∈ b) else decide (c ∈ b)), st)
  | .str _, .str _ => .bad
  | d, e => match seqOf st e with
    | some ds => if flatD d = true ∧ ds.all flatD = true then .ok (.bl (if neg = true then !(ds.any fun z => eqFl z d) else ds.any fun z => eqFl z d), st) else .bad
    | none => .bad
theorem inG_seq {neg : Bool} {st : Store} {d e : D} (h : ∀ s, e ≠ .str s) : inG neg st d e = match seqOf st e with
    | some ds => if flatD d = true ∧ ds.all flatD = true then .ok (.bl (if neg = true then !(ds.any fun z => eqFl z d) else ds.any fun z => eqFl z d), st) else .bad
    | none => .bad := by
  cases e <;> first | exact absurd rfl (h _) | (cases d <;> first | rfl | (rename_i s; cases s <;> first | rfl | (rename_i t; cases t <;> rfl)))
theorem in_seq_ok {neg : Bool} (hK : X.K = W.K) {Rs F H : Hp} {rr : List Addr} {st : Store} {x y : V} {dx dy : D} {Q : VK} (h : Holds W Rs F H rr st) (kx : Rep F rr x dx) (ky : Rep F rr y dy) (hP : Post W Rs F rr (match seqOf st dy with
    | some ds => if flatD dx = true ∧ ds.all flatD = true then .ok (.bl (if neg = true then !(ds.any fun z => eqFl z dx) else ds.any fun z => eqFl z dx), st) else .bad
    | none => (.bad : R (D × Store))) Q E) : rIn X.K neg x y H Q := by
  split at hP
  · rename_i ds e1
    split at hP
    · rename_i hc
      obtain ⟨p, vs, rfl, hs, k1⟩ : ∃ p vs, y = .ref p ∧ (SqL X.K H p vs ∨ SqT X.K H p vs) ∧ Reps F rr vs ds := by
        cases ky with
        | tup q k => cases e1; exact ⟨_, _, rfl, .inr (.of (h.sF _ _ q)), k⟩
        | lst q k => cases e1; exact ⟨_, _, rfl, .inl (.of (h.sF _ _ q)), k⟩
        | ref q =>
          obtain ⟨a, vs, e, q', k⟩ := lstOf_ok h (.ref q) e1
          exact ⟨a, vs, e, .inl (.of q'), k⟩
        | _ => cases e1
      obtain ⟨a1, a2⟩ := inSeq_ok kx hc.1 k1 hc.2
      refine ⟨p, vs, rfl, hs, flatD_ok kx hc.1, a1, ?_⟩
      rw [a2]
      exact onE_here h (.bl _) hP
    · exact hP.elim
  · exact hP.elim
theorem dop_in (hK : X.K = W.K) : DOp W X (compareOp .In) (inG false) := .of (op_in_sign.or op_in_seq) fun Rs F H rr st x y dx dy Q E h kx ky hP => by
  cases ky with
  | str b hb hbl =>
    cases kx with
    | str a ha hal =>
      cases a with
      | nil => exact hP.elim
      | cons c t =>
        cases t with
        | nil => exact .inl ⟨c, _, rfl, rfl, onE_here h (.bl _) hP⟩
        | cons _ _ => exact hP.elim
    | _ => exact hP.elim
  | _ => rw [inG_seq (by intro s z; cases z)] at hP; exact .inr (in_seq_ok hK h kx (by first | exact .non | exact .bl _ | exact .int _ | exact .tup ‹_› ‹_› | exact .lst ‹_› ‹_› | exact .ref ‹_› | exact .scr (by assumption) | exact .exn0 _ | exact .exn1 (by assumption)) hP)
theorem dop_notin (hK : X.K = W.K) : DOp W X (compareOp .NotIn) (inG true) := .of (op_notIn_sign.or op_notIn_seq) fun Rs F H rr st x y dx dy Q E h kx ky hP => by
  cases ky with
  | str b hb hbl =>
    cases kx with
    | str a ha hal =>
      cases a with
      | nil => exact hP.elim
      | cons c t =>
        cases t with
        | nil => exact .inl ⟨c, _, rfl, rfl, onE_here h (.bl _) hP⟩
        | cons _ _ => exact hP.elim
    | _ => exact hP.elim
  | _ => rw [inG_seq (by intro s z; cases z)] at hP; exact .inr (in_seq_ok hK h kx (by first | exact .non | exact .bl _ | exact .int _ | exact .tup ‹_› ‹_› | exact .lst ‹_› ‹_› | exact .ref ‹_› | exact .scr (by assumption) | exact .exn0 _ | exact .exn1 (by assumption)) hP)
end
end Dl
/-! ## DlStmt -/
/-! Statements, targets, loops, comprehensions. -/
namespace Dl
open PySem L2

section
variable {W : Wd} {X : Cx} {E : XK} {Rs F F1 H : Hp} {r r1 : List Addr}
def sOf {A : Type} (res : R A) (k : A → SR) : SR := match res with
  | .ok a => k a
  | .exc c p st => .exc c p st
  | .bad => .bad
@[simp] theorem sOf_ok {A : Type} (a : A) (k : A → SR) : sOf (R.ok a) k = k a := rfl
@[simp] theorem sOf_exc {A : Type} (c : Nat) (p : Option D) (st : Store) (k : A → SR) : sOf (R.exc c p st : R A) k = .exc c p st := rfl
@[simp] theorem sOf_bad {A : Type} (k : A → SR) : sOf (R.bad : R A) k = .bad := rfl
theorem bindS {A : Type} {res : R A} {k : A → SR} {D : Ends} {K' : A → Prop} (h : PostS W Rs F r (sOf res k) D E) (q : ∀ a, res = .ok a → PostS W Rs F r (k a) D E → K' a) : PostX W Rs F r res K' E := by
  cases res with
  | ok a => exact q a rfl h
  | exc c p st' => exact h
  | bad => exact h
def sNext : SV := fun env st => .nx env st
def sCons (f g : SV) : SV := fun env st => match f env st with
  | .nx e s => g e s
  | .rt d s => .rt d s
  | .bk e s => .bk e s
  | .ct e s => .ct e s
  | .exc c p s => .exc c p s
  | .bad => .bad
def sPass : SV := sNext
def sBreak : SV := fun env st => .bk env st
def sCont : SV := fun env st => .ct env st
def sExpr (f : EV) : SV := fun env st => sOf (f env st) fun a => .nx env a.2
def sRet (f : EV) : SV := fun env st => sOf (f env st) fun a => .rt a.1 a.2
def sRetN : SV := fun env st => .rt .non st
def sIf (t : TV) (f g : SV) : SV := fun env st => sOf (t env st) fun a => if a.1 = true then f env a.2 else g env a.2
def sBad : SV := fun _ _ => .bad
theorem PostF.here {env : Env} {st : Store} {N : St → Hp → Prop} {sg : St} (h : Holds W Rs F H r st) (k : EnvOk F r sg env) (q : PostF W Rs F r env st N) : N sg H := q F H r sg (Same.refl _) (Ext.refl _) h k
variable {st : Stmt} {rest : List Stmt} {f g : SV} {e : Expr} {fe : EV} {pos : Pos}
theorem db_nil : DB W X E [] sNext := .mk pss_nil fun Rs F H r sg env st D hH hE hP => PostF.here hH hE hP
theorem db_one (h : DS W X E st f) : DB W X E [st] f := let ⟨t, p, q⟩ := h.ex; .mk (pss_one p) q
theorem db_cons (h1 : DS W X E st f) (h2 : DB W X E rest g) : DB W X E (st :: rest) (sCons f g) := by
  obtain ⟨t, p, q⟩ := h1.ex
  obtain ⟨t2, p2, q2⟩ := h2.ex
  refine .mk (pss_cons p p2) fun Rs F H r sg env st D hH hE hP => ?_
  refine q Rs F H r sg env st _ hH hE ?_
  unfold sCons at hP
  cases ef : f env st with
  | nx e1 s1 =>
    rw [ef] at hP
    exact fun F' H' r' sg' s x h k => q2 Rs F' H' r' sg' e1 s1 D h k (PostS.later s x hP)
  | rt d s1 => rw [ef] at hP; exact hP
  | bk e1 s1 => rw [ef] at hP; exact hP
  | ct e1 s1 => rw [ef] at hP; exact hP
  | exc c p s1 => rw [ef] at hP; exact hP
  | bad => rw [ef] at hP; exact hP
theorem db_bad {sts : List Stmt} : DB W X E sts sBad := .mk pss_never fun Rs F H r sg env st D hH hE hP => hP
theorem ds_bad : DS W X E st sBad := .mk ps_never fun Rs F H r sg env st D hH hE hP => hP
theorem ds_pass : DS W X E (.Pass pos) sPass := .mk ps_pass fun Rs F H r sg env st D hH hE hP => PostF.here hH hE hP
theorem ds_break : DS W X E (.Break pos) sBreak := .mk ps_break fun Rs F H r sg env st D hH hE hP => PostF.here hH hE hP
theorem ds_cont : DS W X E (.Continue pos) sCont := .mk ps_continue fun Rs F H r sg env st D hH hE hP => PostF.here hH hE hP
theorem ds_expr (h : DE W X E e fe) (hs : swapsWith e none pos.line X.env = pure false := by rfl) : DS W X E (.Expr e pos) (sExpr fe) := by
  obtain ⟨t, p, q⟩ := h.ex
  refine .mk (ps_expr p hs) fun Rs F H r sg env st D hH hE hP => ?_
  exact q Rs F H r sg env st _ hH hE (bindS hP fun a ea k F1 H1 r1 v1 s1 x1 h1 k1 => k F1 H1 r1 sg s1 x1 h1 (hE.mono s1 x1))
theorem ds_ret (h : DE W X E e fe) : DS W X E (.Return (some e) pos) (sRet fe) := by
  obtain ⟨t, p, q⟩ := h.ex
  refine .mk (ps_ret p) fun Rs F H r sg env st D hH hE hP => ?_
  exact q Rs F H r sg env st _ hH hE (bindS hP fun a ea k F1 H1 r1 v1 s1 x1 h1 k1 => k F1 H1 r1 v1 s1 x1 h1 k1)
theorem ds_retN : DS W X E (.Return none pos) sRetN := .mk ps_retN fun Rs F H r sg env st D hH hE hP => hP F H r .non (Same.refl _) (Ext.refl _) hH .non
theorem ds_if {c : Expr} {a b : List Stmt} {tc : TV} (hc : DT W X E c tc) (ha : DB W X E a f) (hb : DB W X E b g) : DS W X E (.If c a b pos) (sIf tc f g) := by
  obtain ⟨t, p, q⟩ := hc.ex
  obtain ⟨t1, p1, q1⟩ := ha.ex
  obtain ⟨t2, p2, q2⟩ := hb.ex
  refine .mk (ps_if p p1 p2) fun Rs F H r sg env st D hH hE hP => ?_
  refine q Rs F H r sg env st _ hH hE (bindS hP fun a ea k F1 H1 r1 s1 x1 h1 => ?_)
  obtain ⟨c, st1⟩ := a
  cases c with
  | true => exact q1 Rs F1 H1 r1 sg env st1 D h1 (hE.mono s1 x1) (PostS.later s1 x1 k)
  | false => exact q2 Rs F1 H1 r1 sg env st1 D h1 (hE.mono s1 x1) (PostS.later s1 x1 k)

/-! ### targets -/
abbrev GV := D → Env → Store → R (Env × Store)
def DG (W : Wd) (X : Cx) (E : XK) (tg : Expr) (g : GV) : Prop := ∃ t, PG X tg t ∧ ∀ Rs F H r sg env st v d N, Holds W Rs F H r st → EnvOk F r sg env → Rep F r v d → PostX W Rs F r (g d env st) (fun a => PostF W Rs F r a.1 a.2 N) E → t v sg H N
abbrev GVs := List D → Env → Store → R (Env × Store)
def DGs (W : Wd) (X : Cx) (E : XK) (tg : List Expr) (g : GVs) : Prop := ∃ t, PGs X tg t ∧ ∀ Rs F H r sg env st vs ds N, Holds W Rs F H r st → EnvOk F r sg env → Reps F r vs ds → PostX W Rs F r (g ds env st) (fun a => PostF W Rs F r a.1 a.2 N) E → t vs sg H N
def gN (i : Nat) : GV := fun d env st => .ok (env.set i (some d), st)
theorem dg_name {i : Nat} {x : Str} {pos : Pos} (hN : X.N.Nodup) (hi : X.N[i]? = some x) (hx : Loc X.env.scope x) (hf : X.fn x = true ∨ X.env.scope.names.lookup x = some .local := by first | exact .inl rfl | exact .inr rfl | assumption) : DG W X E (.Name x pos) (gN i) :=
  ⟨_, pg_name hN hi hx hf, fun Rs F H r sg env st v d N hH hE k hP => PostF.here hH (hE.set k i) hP⟩
def gsNil : GVs := fun ds env st => match ds with
  | [] => .ok (env, st)
  | _ => .bad
def gsCons (g : GV) (h : GVs) : GVs := fun ds env st => match ds with
  | d :: ds => (g d env st).bind fun a => h ds a.1 a.2
  | [] => .bad
theorem dgs_nil : DGs W X E [] gsNil := ⟨_, pgs_nil, fun Rs F H r sg env st vs ds N hH hE k hP => by
  cases k with
  | nil => exact ⟨rfl, PostF.here hH hE hP⟩
  | cons _ _ => exact hP.elim⟩
theorem dgs_cons {tg : Expr} {tgs : List Expr} {g : GV} {h : GVs} (h1 : DG W X E tg g) (h2 : DGs W X E tgs h)
    (hs : (assignEach (tg :: tgs) X.env).map (·.2) = assign tg X.env :: (assignEach tgs X.env).map (·.2) := by rfl) : DGs W X E (tg :: tgs) (gsCons g h) := by
  obtain ⟨t, p, q⟩ := h1
  obtain ⟨t2, p2, q2⟩ := h2
  refine ⟨_, pgs_cons p p2 hs, fun Rs F H r sg env st vs ds N hH hE k hP => ?_⟩
  cases k with
  | nil => exact hP.elim
  | @cons v vs d ds k1 k2 =>
    refine ⟨v, vs, rfl, q Rs F H r sg env st v d _ hH hE k1 (bindX hP fun a ea z F1 H1 r1 sg1 s1 x1 h1 e1 => ?_)⟩
    exact q2 Rs F1 H1 r1 sg1 a.1 a.2 vs ds N h1 e1 (k2.mono s1 x1) (PostX.imp s1 x1 z fun _ y => PostF.later s1 x1 y)
/-- (a, b, ..) = a tuple -/
def gTp (n : Nat) (h : GVs) : GV := fun d env st => match d with
  | .tup ds => if ds.length = n then h ds env st else .bad
  | _ => .bad
theorem dg_tup {es : List Expr} {k n : Nat} {h : GVs} {pos : Pos} (hc : X.calm = true) (hh : DGs W X E es h)
    (hn : (assignEach es X.env).length = n := by rfl) (hst : (assignEach es X.env).findIdx? (·.1) = none := by rfl) : DG W X E (.Tuple es k pos) (gTp n h) := by
  obtain ⟨t, p, q⟩ := hh
  refine ⟨_, pg_tup hc p hn hst, fun Rs F H r sg env st v d N hH hE k hP => ?_⟩
  cases d with
  | tup ds =>
    unfold gTp at hP
    simp only at hP
    split at hP
    · rename_i hl
      cases k with
      | @tup a vs _ e k1 => exact ⟨a, vs, rfl, .of (hH.sF _ _ e), by rw [k1.length, hl], q Rs F H r sg env st vs ds N hH hE k1 hP⟩
    · exact hP.elim
  | _ => exact hP.elim
/-- o[i] = e, by values -/
abbrev SetV := Store → D → D → D → Option Store
def DSet (W : Wd) (X : Cx) (g : SetV) : Prop := ∃ t, PSet X t ∧ ∀ Rs F H r st o i v dO di dv N, Holds W Rs F H r st → Rep F r o dO → Rep F r i di → Rep F r v dv →
  ∀ st', g st dO di dv = some st' → (∀ H', Holds W Rs F H' r st' → N H') → t o i v H N
def gSb (fo fi : EV) (g : SetV) : GV := fun d env st => (fo env st).bind fun a => (fi env a.2).bind fun b => match g b.2 a.1 b.1 d with
  | some st' => .ok (env, st')
  | none => .bad
theorem dg_sub {o i : Expr} {fo fi : EV} {g : SetV} {pos : Pos} (ho : DE W X E o fo) (hi : DE W X E i fi) (hs : DSet W X g)
    (ha : ∀ v, assign (.Subscript o i pos) X.env v = (do
      let ov ← holding [v] (eval o X.env)
      let iv ← holding [v, ov] (eval i X.env)
      standAt pos
      holding [v, ov, iv] (setItem ov iv v)
      release [v, ov, iv] []) := by intro _; rfl) : DG W X E (.Subscript o i pos) (gSb fo fi g) := by
  obtain ⟨to, po, qo⟩ := ho.ex
  obtain ⟨ti, pi, qi⟩ := hi.ex
  obtain ⟨ts, ps, qs⟩ := hs
  refine ⟨_, pg_sub po pi ps ha, fun Rs F H r sg env st v d N hH hE k hP => ?_⟩
  refine qo Rs F H r sg env st _ hH hE (bindX hP fun a ea z F1 H1 r1 v1 s1 x1 h1 k1 => ?_)
  refine qi Rs F1 H1 r1 sg env a.2 _ h1 (hE.mono s1 x1) (bindX (PostX.imp s1 x1 z fun _ y => PostF.later s1 x1 y) fun b eb z2 F2 H2 r2 v2 s2 x2 h2 k2 => ?_)
  cases e : g b.2 a.1 b.1 d with
  | none => rw [e] at z2; exact z2.elim
  | some st' =>
    rw [e] at z2
    exact qs Rs F2 H2 r2 b.2 v1 v2 v a.1 b.1 d _ h2 (k1.mono s2 x2) k2 (k.mono (s1.trans s2) (x1.trans x2)) st' e fun H' h' => z2 F2 H' r2 sg s2 x2 h' (hE.mono (s1.trans s2) (x1.trans x2))
def setLG : SetV := fun st o i v => match o, i with
  | .ref n, .int k => match st[n]? with
    | some (.lst ds) => match ixN ds.length k with
      | some j => some (st.set n (.lst (ds.set j v)))
      | none => none
    | _ => none
  | _, _ => none
theorem dset_list : DSet W X setLG := ⟨_, set_list, fun Rs F H r st o i v dO di dv N hH ko ki kv st' e hN => by
  cases ko with
  | @ref a n q =>
    cases ki with
    | int k =>
      unfold setLG at e
      simp only at e
      split at e
      · rename_i ds e1
        split at e
        · rename_i j e2
          cases e
          obtain ⟨vs, h1, k1⟩ := hH.ob n a _ q e1
          refine ⟨a, vs, k, j, rfl, rfl, h1, by rw [k1.length]; exact e2, hN _ (hH.write q ⟨_, upd_same, Reps.set kv j k1⟩)⟩
        · cases e
      · cases e
    | _ => cases e
  | _ => cases e⟩

/-! ### assignments -/
def sAsg (f : EV) (g : GV) : SV := fun env st => sOf (f env st) fun a => sOf (g a.1 env a.2) fun b => .nx b.1 b.2
theorem sAsg_post {te : TE} {tg : TG} {f : EV} {g : GV} (q : ∀ Rs F H r sg env st Q, Holds W Rs F H r st → EnvOk F r sg env → Post W Rs F r (f env st) Q E → te sg H Q)
    (qg : ∀ Rs F H r sg env st v d N, Holds W Rs F H r st → EnvOk F r sg env → Rep F r v d → PostX W Rs F r (g d env st) (fun a => PostF W Rs F r a.1 a.2 N) E → tg v sg H N)
    {Rs F H r sg env st D} (hH : Holds W Rs F H r st) (hE : EnvOk F r sg env) (hP : PostS W Rs F r (sAsg f g env st) D E) : tAsg te tg D sg H := by
  refine q Rs F H r sg env st _ hH hE (bindS hP fun a ea z F1 H1 r1 v1 s1 x1 h1 k1 => ?_)
  refine qg Rs F1 H1 r1 sg env a.2 v1 a.1 D.nx h1 (hE.mono s1 x1) k1 (bindS (D := D) (PostS.later s1 x1 z) fun b eb z2 => z2)
theorem ds_asg {tg e : Expr} {f : EV} {g : GV} (he : DE W X E e f) (hg : DG W X E tg g) (hs : swapsWithSole [tg] e pos.line X.env = pure false := by rfl) (hw : swappedStores [tg] e X.env = pure none := by rfl)
    (h1 : (assignEach [tg] X.env).map (·.2) = [assign tg X.env] := by rfl) : DS W X E (.Assign [tg] e pos) (sAsg f g) := by
  obtain ⟨t, p, q⟩ := he.ex
  obtain ⟨tg, pg, qg⟩ := hg
  exact .mk (ps_asg p pg hs hw h1) fun Rs F H r sg env st D hH hE hP => sAsg_post q qg hH hE hP
theorem gN_ok {i : Nat} : ∀ Rs F H r sg env st v d N, Holds W Rs F H r st → EnvOk F r sg env → Rep F r v d → PostX W Rs F r (gN i d env st) (fun a => PostF W Rs F r a.1 a.2 N) E → gName i v sg H N :=
  fun Rs F H r sg env st v d N hH hE k hP => PostF.here hH (hE.set k i) hP
theorem ds_set {i : Nat} {x : Str} {e : Expr} {f : EV} {pos' : Pos} (hN : X.N.Nodup) (hi : X.N[i]? = some x) (hx : Loc X.env.scope x) (he : DE W X E e f) (hs : swapsWith e (some (.Name x pos')) pos.line X.env = pure false := by rfl) (hf : X.fn x = true ∨ X.env.scope.names.lookup x = some .local := by first | exact .inl rfl | exact .inr rfl | assumption) :
    DS W X E (.Assign [.Name x pos'] e pos) (sAsg f (gN i)) := by
  obtain ⟨t, p, q⟩ := he.ex
  exact .mk (ps_set hN hi hx p hs hf) fun Rs F H r sg env st D hH hE hP => sAsg_post q gN_ok hH hE hP
/-- a, b = x, y by swapped stores -/
def sPar (i j : Nat) (f : AV) : SV := fun env st => sOf (f env st) fun a => match a.1 with
  | [d, e] => .nx ((env.set i (some d)).set j (some e)) a.2
  | _ => .bad
theorem ds_par {i j : Nat} {x y : Str} {a b : Expr} {fa : AV} {px py pt : Pos} {kt k2 pt2} (hc : X.calm = true) (hN : X.N.Nodup) (hi : X.N[i]? = some x) (hj : X.N[j]? = some y) (hij : i ≠ j)
    (hx : X.env.scope.names.lookup x = some .local) (hy : X.env.scope.names.lookup y = some .local) (ha : DA W X E [a, b] fa)
    (hw : swappedStores [.Tuple [.Name x px, .Name y py] kt pt] (.Tuple [a, b] k2 pt2) X.env = pure (some [x, y]))
    (hs : swapsWithSole [.Tuple [.Name x px, .Name y py] kt pt] (.Tuple [a, b] k2 pt2) pos.line X.env = pure false := by rfl) :
    DS W X E (.Assign [.Tuple [.Name x px, .Name y py] kt pt] (.Tuple [a, b] k2 pt2) pos) (sPar i j fa) := by
  obtain ⟨t, p, q⟩ := ha.ex
  refine .mk (ps_par hc hN hi hj hij hx hy p hw hs) fun Rs F H r sg env st D hH hE hP => ?_
  refine q Rs F H r sg env st _ hH hE (bindS hP fun a ea z F1 H1 r1 vs s1 x1 h1 k1 => ?_)
  obtain ⟨ds, st1⟩ := a
  cases k1 with
  | nil => exact z.elim
  | cons k1 k2 =>
    cases k2 with
    | nil => exact z.elim
    | cons k2 k3 =>
      cases k3 with
      | nil => exact ⟨_, _, rfl, z F1 H1 r1 _ s1 x1 h1 (((hE.mono s1 x1).set k1 i).set k2 j)⟩
      | cons _ _ => exact z.elim
def sPar3 (i j l : Nat) (f : AV) : SV := fun env st => sOf (f env st) fun a => match a.1 with
  | [d, e, c] => .nx (((env.set i (some d)).set j (some e)).set l (some c)) a.2
  | _ => .bad
theorem ds_par3 {i j l : Nat} {x y z : Str} {a b c : Expr} {fa : AV} {px py pz pt : Pos} {kt k2 pt2} (hc : X.calm = true) (hN : X.N.Nodup) (hi : X.N[i]? = some x) (hj : X.N[j]? = some y) (hl : X.N[l]? = some z) (hij : i ≠ j) (hil : i ≠ l) (hjl : j ≠ l)
    (hx : X.env.scope.names.lookup x = some .local) (hy : X.env.scope.names.lookup y = some .local) (hz : X.env.scope.names.lookup z = some .local) (ha : DA W X E [a, b, c] fa)
    (hw : swappedStores [.Tuple [.Name x px, .Name y py, .Name z pz] kt pt] (.Tuple [a, b, c] k2 pt2) X.env = pure (some [x, y, z]))
    (hs : swapsWithSole [.Tuple [.Name x px, .Name y py, .Name z pz] kt pt] (.Tuple [a, b, c] k2 pt2) pos.line X.env = pure false := by rfl) :
    DS W X E (.Assign [.Tuple [.Name x px, .Name y py, .Name z pz] kt pt] (.Tuple [a, b, c] k2 pt2) pos) (sPar3 i j l fa) := by
  obtain ⟨t, p, q⟩ := ha.ex
  refine .mk (ps_par3 hc hN hi hj hl hij hil hjl hx hy hz p hw hs) fun Rs F H r sg env st D hH hE hP => ?_
  refine q Rs F H r sg env st _ hH hE (bindS hP fun a ea z F1 H1 r1 vs s1 x1 h1 k1 => ?_)
  obtain ⟨ds, st1⟩ := a
  cases k1 with
  | nil => exact z.elim
  | cons k1 k2 =>
    cases k2 with
    | nil => exact z.elim
    | cons k2 k3 =>
      cases k3 with
      | nil => exact z.elim
      | cons k3 k4 =>
        cases k4 with
        | nil => exact ⟨_, _, _, rfl, z F1 H1 r1 _ s1 x1 h1 ((((hE.mono s1 x1).set k1 i).set k2 j).set k3 l)⟩
        | cons _ _ => exact z.elim

/-! ### while -/
def whileGo (t : TV) (b : SV) : Nat → Env → Store → SR
  | 0, _, _ => .bad
  | n + 1, env, st => sOf (t env st) fun a => if a.1 = true then (match b env a.2 with
      | .nx e s => whileGo t b n e s
      | .ct e s => whileGo t b n e s
      | .bk e s => .nx e s
      | .rt d s => .rt d s
      | .exc c p s => .exc c p s
      | .bad => .bad) else .nx env a.2
theorem ds_while (n : Nat) {c : Expr} {body : List Stmt} {tc : TV} {tb : SV} (hp : PassesOwn (model X.prog X.w) X.A X.env X.xe) (hc : DT W X E c tc) (hb : DB W X E body tb) : DS W X E (.While c body [] pos) (whileGo tc tb n) := by
  obtain ⟨t, p, q⟩ := hc.ex
  obtain ⟨t1, p1, q1⟩ := hb.ex
  refine .mk (ps_while hp p p1) fun Rs F H r sg env st D hH hE hP => ?_
  refine ⟨fun m sg' H' => ∃ F' r' env' st', Holds W Rs F' H' r' st' ∧ EnvOk F' r' sg' env' ∧ PostS W Rs F' r' (whileGo tc tb m env' st') D E, ⟨n, F, r, env, st, hH, hE, hP⟩, ?_⟩
  rintro m sg H ⟨F, r, env, st, hH, hE, hP⟩
  cases m with
  | zero => exact hP.elim
  | succ m =>
    unfold whileGo at hP
    refine q Rs F H r sg env st _ hH hE (bindS hP fun a ea k F1 H1 r1 s1 x1 h1 => ?_)
    obtain ⟨c, st1⟩ := a
    cases c with
    | false => exact k F1 H1 r1 sg s1 x1 h1 (hE.mono s1 x1)
    | true =>
      show ∃ N : St → Hp → Prop, _ ∧ _
      refine ⟨fun sg' H' => ∃ F' r' env' st', Holds W Rs F' H' r' st' ∧ EnvOk F' r' sg' env' ∧ PostS W Rs F' r' (whileGo tc tb m env' st') D E, fun sg' H' z => ⟨m, Nat.lt_succ_self m, z⟩, ?_⟩
      refine q1 Rs F1 H1 r1 sg env st1 _ h1 (hE.mono s1 x1) ?_
      replace k := PostS.later s1 x1 k
      simp only [if_true] at k
      cases eb : tb env st1 with
      | nx e s => rw [eb] at k; exact fun F2 H2 r2 sg2 s2 x2 h2 k2 => ⟨F2, r2, e, s, h2, k2, PostS.later s2 x2 k⟩
      | ct e s => rw [eb] at k; exact fun F2 H2 r2 sg2 s2 x2 h2 k2 => ⟨F2, r2, e, s, h2, k2, PostS.later s2 x2 k⟩
      | bk e s => rw [eb] at k; exact k
      | rt d s => rw [eb] at k; exact k
      | exc c p s => rw [eb] at k; exact k
      | bad => rw [eb] at k; exact k

/-! ### what is walked -/
def still (sub : List (Nat × List D)) (st : Store) : Bool := sub.all fun p => match st[p.1]? with
  | some (.lst ds) => D.beqs ds p.2
  | _ => false
theorem still_at {sub : List (Nat × List D)} {st : Store} (h : still sub st = true) {n : Nat} {ds : List D} (m : (n, ds) ∈ sub) : st[n]? = some (.lst ds) := by
  unfold still at h
  have q := List.all_eq_true.mp h (n, ds) m
  simp only at q
  split at q
  · rename_i es e
    rw [e, D.eqs_of_beqs _ _ q]
  · cases q
@[simp] theorem still_nil (st : Store) : still [] st = true := rfl
theorem still_one {n : Nat} {ds : List D} {st : Store} (h : st[n]? = some (.lst ds)) : still [(n, ds)] st = true := by
  unfold still
  simp [h, D.beqs_refl]
abbrev Wk := List D × List (Nat × List D)
abbrev IV := Env → Store → R (Wk × Store)
def Drv (W : Wd) (F0 : Hp) (r0 : List Addr) (J : It) (w : Wk) : Prop := ∀ (i : Nat) Rs F H r st, Same F0 F → Ext r0 r → Holds W Rs F H r st → still w.2 st = true →
  (∀ d, w.1[i]? = some d → J.go i H ∧ ∀ x H', J.yld i H x H' → ∃ F', Same F F' ∧ Holds W Rs F' H' r st ∧ Rep F' r x d) ∧ (w.1.length ≤ i → J.stop i H)
def DI (W : Wd) (X : Cx) (E : XK) (tg iter : Expr) (f : IV) : Prop := ∃ wi, PI X tg iter wi ∧ ∀ Rs F H r sg env st (Q : It → Hp → Prop), Holds W Rs F H r st → EnvOk F r sg env →
  PostX W Rs F r (f env st) (fun a => ∀ J F' H' r', Same F F' → Ext r r' → Holds W Rs F' H' r' a.2 → Drv W F' r' J a.1 → Q J H') E → wi sg H Q
def forGo (sub : List (Nat × List D)) (g : GV) (b : SV) : List D → Env → Store → SR
  | [], env, st => if still sub st = true then .nx env st else .bad
  | d :: ds, env, st => if still sub st = true then sOf (g d env st) fun a => (match b a.1 a.2 with
      | .nx e s => forGo sub g b ds e s
      | .ct e s => forGo sub g b ds e s
      | .bk e s => .nx e s
      | .rt d s => .rt d s
      | .exc c p s => .exc c p s
      | .bad => .bad) else .bad
def sFor (it : IV) (g : GV) (b : SV) : SV := fun env st => sOf (it env st) fun a => forGo a.1.2 g b a.1.1 env a.2
theorem ds_for {tg iter : Expr} {body : List Stmt} {it : IV} {g : GV} {tb : SV} (hp : PassesOwn (model X.prog X.w) X.A X.env X.xe) (hc : X.calm = true) (hi : DI W X E tg iter it) (hg : DG W X E tg g) (hb : DB W X E body tb)
    (hs : ∀ x, foldedSetIterable iter X.env x = pure x := by intro _; rfl) : DS W X E (.For tg iter body [] pos) (sFor it g tb) := by
  obtain ⟨wi, p, q⟩ := hi
  obtain ⟨t, pg, qg⟩ := hg
  obtain ⟨t1, p1, q1⟩ := hb.ex
  refine .mk (ps_for hp hc p pg p1 hs) fun Rs F H r sg env st D hH hE hP => ?_
  refine q Rs F H r sg env st _ hH hE (bindS hP fun a ea z J F0 H0 r0 s0 x0 h0 drv => ?_)
  obtain ⟨⟨items, sub⟩, st0⟩ := a
  refine ⟨fun i m sg' H' => m = items.length - i ∧ i ≤ items.length ∧ ∃ F' r' env' st', Same F0 F' ∧ Ext r0 r' ∧ Holds W Rs F' H' r' st' ∧ EnvOk F' r' sg' env' ∧ PostS W Rs F' r' (forGo sub g tb (items.drop i) env' st') D E,
    ⟨items.length, by simp, Nat.zero_le _, F0, r0, env, st0, Same.refl _, Ext.refl _, h0, hE.mono s0 x0, PostS.later s0 x0 z⟩, ?_⟩
  rintro i m sg H ⟨rfl, hi, F, r, env, st, s, x, hH, hE, hP⟩
  by_cases hl : i < items.length
  · rw [List.drop_eq_getElem_cons hl] at hP
    unfold forGo at hP
    by_cases hst : still sub st = true
    · rw [if_pos hst] at hP
      obtain ⟨d1, _⟩ := drv i Rs F H r st s x hH hst
      obtain ⟨go, yld⟩ := d1 items[i] (by simp [hl])
      refine .inr ⟨go, fun sg' H' => i + 1 ≤ items.length ∧ ∃ F' r' env' st', Same F0 F' ∧ Ext r0 r' ∧ Holds W Rs F' H' r' st' ∧ EnvOk F' r' sg' env' ∧ PostS W Rs F' r' (forGo sub g tb (items.drop (i + 1)) env' st') D E,
        fun sg' H' z => ⟨items.length - (i + 1), by omega, rfl, z⟩, fun v H1 y => ?_⟩
      obtain ⟨F1, s1, h1, k1⟩ := yld v H1 y
      have hP1 := PostS.later s1 (Ext.refl r) hP
      refine qg Rs F1 H1 r sg env st v items[i] _ h1 (hE.mono s1 (Ext.refl _)) k1 (bindS hP1 fun b eb z2 F2 H2 r2 sg2 s2 x2 h2 k2 => ?_)
      refine q1 Rs F2 H2 r2 sg2 b.1 b.2 _ h2 k2 ?_
      replace z2 := PostS.later s2 x2 z2
      cases ebb : tb b.1 b.2 with
      | nx e s' => rw [ebb] at z2; exact fun F3 H3 r3 sg3 s3 x3 h3 k3 => ⟨hl, F3, r3, e, s', ((s.trans s1).trans s2).trans s3, (x.trans x2).trans x3, h3, k3, PostS.later s3 x3 z2⟩
      | ct e s' => rw [ebb] at z2; exact fun F3 H3 r3 sg3 s3 x3 h3 k3 => ⟨hl, F3, r3, e, s', ((s.trans s1).trans s2).trans s3, (x.trans x2).trans x3, h3, k3, PostS.later s3 x3 z2⟩
      | bk e s' => rw [ebb] at z2; exact z2
      | rt d s' => rw [ebb] at z2; exact z2
      | exc c p s' => rw [ebb] at z2; exact z2
      | bad => rw [ebb] at z2; exact z2
    · rw [if_neg hst] at hP; exact hP.elim
  · have e : items.drop i = [] := List.drop_eq_nil_of_le (by omega)
    rw [e] at hP
    unfold forGo at hP
    by_cases hst : still sub st = true
    · rw [if_pos hst] at hP
      obtain ⟨_, d2⟩ := drv i Rs F H r st s x hH hst
      exact .inl ⟨d2 (by simpa using hl), PostF.here hH hE hP⟩
    · rw [if_neg hst] at hP; exact hP.elim

/-! ### a list, a tuple, a text -/
theorem drv_list {K : PySem.W.Frag} {F0 : Hp} {r0 : List Addr} {a : Addr} {w : Wk} (h : ∀ Rs F H r st, Same F0 F → Ext r0 r → Holds W Rs F H r st → still w.2 st = true → ∃ vs, SqL K H a vs ∧ Reps F r vs w.1) : Drv W F0 r0 (Itl K a) w := fun i Rs F H r st s x hH hst => by
  obtain ⟨vs, h1, k1⟩ := h Rs F H r st s x hH hst
  refine ⟨fun d e => ?_, fun hl => ⟨vs, h1, by rw [k1.length]; exact hl⟩⟩
  obtain ⟨v, e1, k⟩ := k1.get e
  refine ⟨⟨vs, v, h1, e1⟩, fun y H' yl => ?_⟩
  obtain ⟨e2, yl⟩ := yl
  subst e2
  have := yl vs h1
  rw [e1] at this; cases this
  exact ⟨F, Same.refl _, hH, k⟩
theorem drv_tup {K : PySem.W.Frag} {F0 : Hp} {r0 : List Addr} {a : Addr} {w : Wk} {vs : List V} (h : F0 a = some (.tup vs)) (k1 : Reps F0 r0 vs w.1) : Drv W F0 r0 (Itt K a) w := fun i Rs F H r st s x hH hst => by
  have h1 : SqT K H a vs := .of (hH.sF _ _ (s _ _ h))
  replace k1 := k1.mono s x
  refine ⟨fun d e => ?_, fun hl => ⟨vs, h1, by rw [k1.length]; exact hl⟩⟩
  obtain ⟨v, e1, k⟩ := k1.get e
  refine ⟨⟨vs, v, h1, e1⟩, fun y H' yl => ?_⟩
  obtain ⟨e2, yl⟩ := yl
  subst e2
  have := yl vs h1
  rw [e1] at this; cases this
  exact ⟨F, Same.refl _, hH, k⟩
theorem drv_str {F0 : Hp} {r0 : List Addr} {s : List Nat} {w : Wk} (hw : w.1 = s.map fun c => D.str [c]) (ha : s.all (fun c => decide (c < 128)) = true) : Drv W F0 r0 (Its ⟨s.toArray⟩) w := fun i Rs F H r st ss x hH hst => by
  refine ⟨fun d e => ?_, fun hl => by show s.toArray.size ≤ i; rw [hw, List.length_map] at hl; simpa using hl⟩
  rw [hw, List.getElem?_map] at e
  cases q : s[i]? with
  | none => rw [q] at e; cases e
  | some c =>
    rw [q] at e; cases e
    refine ⟨by show i < s.toArray.size; simpa using (List.getElem?_eq_some_iff.mp q).1, fun y H' yl => ?_⟩
    obtain ⟨e2, c', e3, e4⟩ := yl
    have e3' : s[i]? = some c' := by simpa using e3
    rw [q] at e3'; cases e3'
    subst e2 e4
    have hc := List.all_eq_true.mp ha c (List.mem_of_getElem? q)
    exact ⟨F, Same.refl _, hH, .str [c] (by simpa using hc) (by simp [LIM])⟩
def itemsOf (st : Store) : D → Option Wk
  | .lst ds => some (ds, [])
  | .tup ds => some (ds, [])
  | .str s => some (s.map fun c => D.str [c], [])
  | .scr ns => some (ns.map D.int, [])
  | .ref n => match st[n]? with
    | some (.lst ds) => some (ds, [(n, ds)])
    | _ => none
  | _ => none
def iSeq (f : EV) : IV := fun env st => (f env st).bind fun a => match itemsOf a.2 a.1 with
  | some w => .ok (w, a.2)
  | none => .bad
theorem reps_ints {F : Hp} {r : List Addr} : ∀ ns : List Int, Reps F r (ns.map V.int) (ns.map D.int)
  | [] => .nil
  | n :: ns => .cons (.int n) (reps_ints ns)
theorem pi_or {tg iter : Expr} {wi wi' : TI} (h : PI X tg iter wi) (h' : PI X tg iter wi') : PI X tg iter (fun sg H Q => wi sg H Q ∨ wi' sg H Q) :=
  ⟨fun pins s sg H Q I q => q.elim (h.run pins s sg H Q I) (h'.run pins s sg H Q I)⟩
theorem di_seq {tg e : Expr} {f : EV} (he : DE W X E e f) : DI W X E tg e (iSeq f) := by
  obtain ⟨t, p, q⟩ := he.ex
  refine ⟨_, pi_or (pi_list p) (pi_or (pi_tup p) (pi_str p)), fun Rs F H r sg env st Q hH hE hP => ?_⟩
  -- which one it is, by what the data are
  have lists : (∀ a, f env st = .ok a → ∀ w, itemsOf a.2 a.1 = some w → (∀ ds, a.1 ≠ .tup ds) ∧ (∀ s, a.1 ≠ .str s)) → iList X.K t sg H Q := fun hk => by
    refine q Rs F H r sg env st _ hH hE (bindX hP fun a ea z F1 H1 r1 v1 s1 x1 h1 k1 => ?_)
    cases ew : itemsOf a.2 a.1 with
    | none => rw [ew] at z; exact z.elim
    | some w =>
      rw [ew] at z
      obtain ⟨n1, n2⟩ := hk a ea w ew
      obtain ⟨d, st1⟩ := a
      have fin : ∀ p vs, v1 = .ref p → SqL X.K H1 p vs → Drv W F1 r1 (Itl X.K p) w → ∃ a, v1 = .ref a ∧ (∃ xs, SqL X.K H1 a xs) ∧ Q (Itl X.K a) H1 := fun p vs e h dr => ⟨p, e, ⟨vs, h⟩, z _ F1 H1 r1 s1 x1 h1 dr⟩
      cases k1 with
      | tup _ _ => exact absurd rfl (n1 _)
      | str _ _ _ => exact absurd rfl (n2 _)
      | lst e k => cases ew; exact fin _ _ rfl (.of (h1.sF _ _ e)) (drv_list fun Rs F H r st s x hH _ => ⟨_, .of (hH.sF _ _ (s _ _ e)), k.mono s x⟩)
      | @scr a ns e => cases ew; exact fin _ _ rfl (e.sq h1.sF) (drv_list fun Rs F H r st s x hH _ => ⟨_, e.sq (fun _ _ z => hH.sF _ _ (s _ _ z)), reps_ints ns⟩)
      | @ref a n e =>
        unfold itemsOf at ew
        simp only at ew
        split at ew
        · rename_i ds e1
          cases ew
          obtain ⟨vs, q1, k⟩ := h1.ob n a _ e e1
          refine fin a vs rfl (.of q1) (drv_list fun Rs F H r st s x hH hst => ?_)
          obtain ⟨vs', q1', k'⟩ := hH.ob n a _ (x _ _ e) (still_at (ds := ds) hst (List.mem_cons_self))
          exact ⟨vs', .of q1', k'⟩
        · cases ew
      | _ => cases ew
  cases ef : f env st with
  | bad => unfold iSeq at hP; rw [ef] at hP; exact hP.elim
  | exc c p' s' => exact .inl (lists fun a ea => by rw [ef] at ea; cases ea)
  | ok a =>
    obtain ⟨d, st1⟩ := a
    cases d with
    | tup ds =>
      refine .inr (.inl (q Rs F H r sg env st _ hH hE (bindX hP fun a ea z F1 H1 r1 v1 s1 x1 h1 k1 => ?_)))
      rw [ef] at ea; cases ea
      cases k1 with
      | tup e k => exact ⟨_, rfl, ⟨_, .of (h1.sF _ _ e)⟩, z _ F1 H1 r1 s1 x1 h1 (drv_tup e k)⟩
    | str s =>
      refine .inr (.inr (q Rs F H r sg env st _ hH hE (bindX hP fun a ea z F1 H1 r1 v1 s1 x1 h1 k1 => ?_)))
      rw [ef] at ea; cases ea
      cases k1 with
      | str s ha hl => exact ⟨_, rfl, z _ F1 H1 r1 s1 x1 h1 (drv_str rfl ha)⟩
    | _ => exact .inl (lists fun a ea w ew => by rw [ef] at ea; cases ea; exact ⟨(fun _ z => nomatch z), (fun _ z => nomatch z)⟩)
end
end Dl
/-! ## DlComp -/
/-! List comprehensions; ranges, enumerate, zip. -/
namespace Dl
open PySem L2

section
variable {W : Wd} {Rs F H : Hp} {r : List Addr} {st : Store} {p : Addr} {o o' : HO}
theorem Holds.guard (h : Holds W Rs F H r st) (e : H p = none) (hn : ∀ ps, o ≠ .tbl ps := by intro _ z; cases z) : Holds W (upd Rs p o) F (upd H p o) r st := by
  refine ⟨fun c u q => ?_, fun c u q => ?_, fun c q => ?_, h.len, h.nd, fun c m => ⟨(h.own c m).1, ?_⟩, fun i a b e1 e2 => ?_, ⟨fun t ht => ?_, h.tb.nF, fun b ps => ?_⟩⟩
  · rw [upd_ne (ne_of_none q (h.freeF e))]; exact h.sF _ _ q
  · by_cases hc : c = p
    · subst hc; rw [upd_same] at q ⊢; exact q
    · rw [upd_ne hc] at q ⊢; exact h.sR _ _ q
  · by_cases hc : c = p
    · subst hc; exact absurd (h.freeF e) q
    · rw [upd_ne hc]; exact h.dj c q
  · have hc : c ≠ p := fun z => h.notin e (z ▸ m)
    rw [upd_ne hc]; exact (h.own c m).2
  · have hc : a ≠ p := fun z => h.notin e (z ▸ List.mem_of_getElem? e1)
    exact (h.ob i a b e1 e2).mono (Same.refl _) (Ext.refl _) (upd_ne hc)
  · obtain ⟨t1, t2, t3, t4⟩ := h.tb.at_ t ht
    exact ⟨t1.ext fun b u q => by rw [upd_ne (ne_of_none q e)]; exact q, t2, by rw [upd_ne (fun (z : t.1 = p) => tabs_here t1 (by rw [z]; exact e))]; exact t3, t4⟩
  · by_cases hb : b = p
    · rw [hb, upd_same]; exact fun z => hn ps (Option.some.inj z)
    · rw [upd_ne hb]; exact h.tb.nR b ps
theorem Holds.at_guard (h : Holds W (upd Rs p o) F H r st) : H p = some o ∧ F p = none ∧ p ∉ r := by
  refine ⟨h.sR _ _ upd_same, ?_, fun m => ?_⟩
  · cases q : F p with
    | none => rfl
    | some u =>
      have := h.dj p (by rw [q]; simp)
      rw [upd_same] at this; cases this
  · have := (h.own p m).2
    rw [upd_same] at this; cases this
theorem Holds.reguard (h : Holds W (upd Rs p o) F H r st) (hn : ∀ ps, o' ≠ .tbl ps := by intro _ z; cases z) (hx : ∀ φ, o ≠ .ext φ := by intro _ z; cases z) : Holds W (upd Rs p o') F (upd H p o') r st := by
  obtain ⟨e0, e1, e2⟩ := h.at_guard
  refine ⟨fun c u q => ?_, fun c u q => ?_, fun c q => ?_, h.len, h.nd, fun c m => ⟨(h.own c m).1, ?_⟩, fun i a b e1' e2' => ?_, ⟨fun t ht => ?_, h.tb.nF, fun b ps => ?_⟩⟩
  · rw [upd_ne (fun z => by rw [z, e1] at q; cases q)]; exact h.sF _ _ q
  · by_cases hc : c = p
    · subst hc; rw [upd_same] at q ⊢; exact q
    · rw [upd_ne hc] at q ⊢
      exact h.sR c u (by rw [upd_ne hc]; exact q)
  · by_cases hc : c = p
    · subst hc; exact absurd e1 q
    · have := h.dj c q
      rw [upd_ne hc] at this ⊢; exact this
  · have hc : c ≠ p := fun z => e2 (z ▸ m)
    have := (h.own c m).2
    rw [upd_ne hc] at this ⊢; exact this
  · have hc : a ≠ p := fun z => e2 (z ▸ List.mem_of_getElem? e1')
    exact (h.ob i a b e1' e2').mono (Same.refl _) (Ext.refl _) (upd_ne hc)
  · obtain ⟨t1, t2, t3, t4⟩ := h.tb.at_ t ht
    have hp : t.1 ≠ p := fun z => by rw [z, upd_same] at t3; cases t3
    refine ⟨tabs_keep t1 fun a v q z => ?_, t2, by rw [upd_ne hp] at t3 ⊢; exact t3, t4⟩
    rw [upd_ne fun w => ?_]
    · exact q
    · rw [w, e0] at q
      cases q
      rcases z with ⟨ps, z⟩ | ⟨φ, z⟩
      · exact h.tb.nR p ps (by rw [upd_same, z])
      · exact hx φ z
  · by_cases hb : b = p
    · rw [hb, upd_same]; exact fun z => hn ps (Option.some.inj z)
    · have := h.tb.nR b ps
      rw [upd_ne hb] at this ⊢; exact this
theorem Holds.thaw (h : Holds W (upd Rs p o) F H r st) (e : Rs p = none) : Same F (upd F p o) ∧ Holds W Rs (upd F p o) H r st := by
  obtain ⟨e0, e1, e2⟩ := h.at_guard
  have sF : Same F (upd F p o) := fun b u q => by rw [upd_ne (ne_of_none q e1)]; exact q
  refine ⟨sF, ⟨fun c u q => ?_, fun c u q => ?_, fun c q => ?_, h.len, h.nd, fun c m => ?_, fun i a b e1' e2' => ?_, ⟨fun t ht => ?_, fun b ps => ?_, fun b ps z => ?_⟩⟩⟩
  · by_cases hc : c = p
    · subst hc; rw [upd_same] at q; cases q; exact e0
    · rw [upd_ne hc] at q; exact h.sF _ _ q
  · have hc : c ≠ p := ne_of_none q e
    exact h.sR c u (by rw [upd_ne hc]; exact q)
  · by_cases hc : c = p
    · rw [hc]; exact e
    · rw [upd_ne hc] at q
      have := h.dj c q
      rw [upd_ne hc] at this; exact this
  · have hc : c ≠ p := fun z => e2 (z ▸ m)
    have := h.own c m
    rw [upd_ne hc] at this ⊢; exact this
  · exact (h.ob i a b e1' e2').mono sF (Ext.refl _) rfl
  · obtain ⟨t1, t2, t3, t4⟩ := h.tb.at_ t ht
    have hp : t.1 ≠ p := fun z => by rw [z, upd_same] at t3; cases t3
    exact ⟨t1, by rw [upd_ne hp]; exact t2, by rw [upd_ne hp] at t3; exact t3, t4⟩
  · by_cases hb : b = p
    · rw [hb, upd_same]
      intro z
      exact h.tb.nR p ps (by rw [upd_same]; exact z)
    · rw [upd_ne hb]; exact h.tb.nF b ps
  · by_cases hb : b = p
    · rw [hb, e] at z; cases z
    · exact h.tb.nR b ps (by rw [upd_ne hb]; exact z)
theorem Holds.adopt {b : Ob} (h : Holds W (upd Rs p o) F H r st) (e : Rs p = none) (k : ObOk W F (r ++ [p]) H p b) : Holds W Rs F H (r ++ [p]) (st ++ [b]) := by
  obtain ⟨e0, e1, e2⟩ := h.at_guard
  refine ⟨h.sF, fun c u q => ?_, fun c q => ?_, by simp [h.len], ?_, fun c m => ?_, fun i a o' e1' e2' => ?_, ⟨fun t ht => ?_, h.tb.nF, fun b ps z => ?_⟩⟩
  · have hc : c ≠ p := ne_of_none q e
    exact h.sR c u (by rw [upd_ne hc]; exact q)
  · by_cases hc : c = p
    · rw [hc]; exact e
    · have := h.dj c q
      rw [upd_ne hc] at this; exact this
  · rw [List.nodup_append]
    refine ⟨h.nd, by simp, fun a ha b hb => ?_⟩
    have : b = p := by simpa using hb
    subst this
    exact fun z => e2 (z ▸ ha)
  · rcases List.mem_append.mp m with m | m
    · have hc : c ≠ p := fun z => e2 (z ▸ m)
      have := h.own c m
      rw [upd_ne hc] at this; exact this
    · have : c = p := by simpa using m
      subst this
      exact ⟨e1, e⟩
  · by_cases hi : i < r.length
    · rw [List.getElem?_append_left hi] at e1'
      rw [List.getElem?_append_left (by rw [← h.len]; exact hi)] at e2'
      exact (h.ob i a o' e1' e2').mono (Same.refl _) (Ext.snoc _ _) rfl
    · have hl : i = r.length := by
        have := (List.getElem?_eq_some_iff.mp e1').1
        simp at this; omega
      subst hl
      rw [List.getElem?_append_right (Nat.le_refl _)] at e1'
      rw [List.getElem?_append_right (by rw [h.len]; exact Nat.le_refl _)] at e2'
      simp at e1'
      rw [h.len] at e2'
      simp at e2'
      subst e1'; subst e2'
      exact k
  · obtain ⟨t1, t2, t3, t4⟩ := h.tb.at_ t ht
    have hp : t.1 ≠ p := fun z => by rw [z, upd_same] at t3; cases t3
    refine ⟨t1, t2, by rw [upd_ne hp] at t3; exact t3, fun m => ?_⟩
    rcases List.mem_append.mp m with m | m
    · exact t4 m
    · exact hp (List.mem_singleton.mp m)
  · by_cases hb : b = p
    · rw [hb, e] at z; cases z
    · exact h.tb.nR b ps (by rw [upd_ne hb]; exact z)
end

section
variable {W : Wd} {X : Cx} {E : XK}
/-- no exception is borne -/
def noX {A : Type} (res : R A) : R A := match res with
  | .ok a => .ok a
  | _ => .bad
@[simp] theorem noX_ok {A : Type} (a : A) : noX (R.ok a) = .ok a := rfl
@[simp] theorem noX_exc {A : Type} (c : Nat) (p : Option D) (st : Store) : noX (R.exc c p st : R A) = .bad := rfl
@[simp] theorem noX_bad {A : Type} : noX (R.bad : R A) = .bad := rfl
theorem bindN {A B : Type} {Rs Rs' F F' : Hp} {r r' : List Addr} {E E' : XK} {res : R A} {f : A → R B} {K : B → Prop} {K' : A → Prop} (h : PostX W Rs F r ((noX res).bind f) K E) (k : ∀ a, res = .ok a → PostX W Rs F r (f a) K E → K' a) : PostX W Rs' F' r' res K' E' := by
  cases res with
  | ok a => exact k a rfl h
  | exc c p st' => exact h.elim
  | bad => exact h
def tDTs (W : Wd) (E : XK) (f : TV) : TT := tDT W E f
def DTs (W : Wd) (X : Cx) (E : XK) (ifs : List Expr) (f : TV) : Prop := PTs X ifs (tDT W E f)
def tYesD : TV := fun _ st => .ok (true, st)
theorem dts_nil : DTs W X E [] tYesD := ⟨fun pins s sg H Q I ⟨Rs, F, r, env, st, a, b, c⟩ => pts_nil.run pins s sg H Q I (onT_here a c)⟩
theorem dts_one {c : Expr} {f : TV} (h : DT W X E c f) : DTs W X E [c] f := pts_one h
def wipeD (env : Env) : List Nat → Env
  | [] => env
  | v :: vs => (wipeD env vs).set v none
theorem wipe_ok {F : Hp} {r : List Addr} {sg : St} {env : Env} (h : EnvOk F r sg env) : ∀ vs : List Nat, EnvOk F r (wipe sg vs) (wipeD env vs)
  | [] => h
  | v :: vs => by
    have ih := wipe_ok h vs
    unfold wipe wipeD
    refine ⟨by simp [ih.len], fun j e q => ?_⟩
    by_cases hj : v = j
    · subst hj
      by_cases hl : v < (wipeD env vs).length
      · rw [List.getElem?_set_self hl] at q; cases q
      · rw [List.getElem?_eq_none (by simp; omega)] at q; cases q
    · rw [List.getElem?_set_ne hj] at q ⊢
      exact ih.at_ j e q
/-- the block's target: one name, or two -/
inductive Tg1 where
  | one (j : Nat)
  | two (j k : Nat)
def Tg1.put : Tg1 → D → Env → Option Env
  | .one j, d, env => some (env.set j (some d))
  | .two j k, .tup [a, b], env => some ((env.set j (some a)).set k (some b))
  | _, _, _ => none
def Tg1.inside : Tg1 → List Nat → Bool
  | .one j, vs => vs.contains j
  | .two j k, vs => vs.contains j && vs.contains k
def Tg1.rd (K : PySem.W.Frag) : Tg1 → TG
  | .one j => gName j
  | .two j k => gTup K 2 (gCons (gName j) (gCons (gName k) gNil))
def Tg1.On (X : Cx) (tg : Expr) (t : Tg1) : Prop := PG X tg (t.rd X.K)
theorem tg_one {x : Str} {pos : Pos} {j : Nat} (hN : X.N.Nodup) (hi : X.N[j]? = some x) (hx : Loc X.env.scope x) (hf : X.fn x = true ∨ X.env.scope.names.lookup x = some .local := by first | exact .inl rfl | exact .inr rfl | assumption) : Tg1.On X (.Name x pos) (.one j) := pg_name hN hi hx hf
theorem tg_two {x y : Str} {p1 p2 : Pos} {j k kk : Nat} {pos : Pos} (hc : X.calm = true) (h1 : PG X (.Name x p1) (gName j)) (h2 : PG X (.Name y p2) (gName k)) : Tg1.On X (.Tuple [.Name x p1, .Name y p2] kk pos) (.two j k) :=
  pg_tup hc (pgs_cons h1 (pgs_cons h2 pgs_nil (by rfl)) (by rfl)) (by rfl) (by rfl)
theorem wipe_set {sg : St} {x : Option V} {j : Nat} : ∀ {vs : List Nat}, vs.contains j = true → wipe (sg.set j x) vs = wipe sg vs
  | [], h => by simp at h
  | v :: vs, h => by
    unfold wipe
    by_cases hj : j = v
    · subst hj
      have : ∀ (vs : List Nat) (sg : St), (wipe (sg.set j x) vs).set j none = (wipe sg vs).set j none := by
        intro vs
        induction vs with
        | nil => intro sg; unfold wipe; rw [List.set_set]
        | cons u us ih =>
          intro sg
          unfold wipe
          by_cases hu : u = j
          · subst hu; rw [List.set_set, List.set_set, ih]
          · rw [List.set_comm _ _ hu, List.set_comm _ _ hu, ih]
      exact this vs sg
    · have : vs.contains j = true := by
        rw [List.contains_cons] at h
        simp [hj] at h
        simpa using h
      rw [wipe_set this]
theorem wipe_wipe {sg : St} : ∀ {vs : List Nat}, wipe (wipe sg vs) vs = wipe sg vs := by
  intro vs
  have : ∀ (us : List Nat) (sg : St), (∀ u ∈ us, vs.contains u = true) → wipe (wipe sg us) vs = wipe sg vs := by
    intro us
    induction us with
    | nil => intro sg _; rfl
    | cons u us ih =>
      intro sg h
      rw [wipe, wipe_set (h u (by simp)), ih sg fun v hv => h v (by simp [hv])]
  exact this vs sg fun u hu => by simpa using hu
theorem Tg1.post {t : Tg1} {vs : List Nat} (hin : t.inside vs = true) {Rs F H : Hp} {r : List Addr} {st : Store} {sg : St} {env : Env} {v : V} {d : D} {env1 : Env} {N : St → Hp → Prop} (hH : Holds W Rs F H r st) (hE : EnvOk F r (wipe sg vs) env) (k : Rep F r v d) (e : t.put d env = some env1)
    (q : ∀ sg2, EnvOk F r sg2 env1 → wipe sg2 vs = wipe sg vs → N sg2 H) : t.rd X.K v (wipe sg vs) H N := by
  cases t with
  | one j =>
    cases e
    exact q _ (hE.set k j) (by rw [wipe_set hin, wipe_wipe])
  | two j l =>
    unfold Tg1.inside at hin
    rw [Bool.and_eq_true] at hin
    cases d with
    | tup ds =>
      match ds, e, k with
      | [a, b], e, .tup h (.cons k1 (.cons k2 .nil)) =>
        cases e
        refine ⟨_, _, rfl, .of (hH.sF _ _ h), rfl, _, _, rfl, _, _, rfl, rfl, q _ ((hE.set k1 j).set k2 l) ?_⟩
        rw [wipe_set hin.2, wipe_set hin.1, wipe_wipe]
      | [], e, _ => cases e
      | [_], e, _ => cases e
      | _ :: _ :: _ :: _, e, _ => cases e
    | _ => cases e
def lcGo (sub : List (Nat × List D)) (t : Tg1) (tt : TV) (te : EV) (env0 : Env) : List D → List D → Store → R (List D × Store)
  | [], acc, st => if still sub st = true then .ok (acc, st) else .bad
  | d :: ds, acc, st => if still sub st = true then (match t.put d env0 with
    | some env1 => (noX (tt env1 st)).bind fun b => if b.1 = true then (noX (te env1 b.2)).bind fun y => lcGo sub t tt te env0 ds (acc ++ [y.1]) y.2 else lcGo sub t tt te env0 ds acc b.2
    | none => .bad) else .bad
def eLc (m : Bool) (it : IV) (vs : List Nat) (t : Tg1) (tt : TV) (te : EV) : EV := fun env st => (it env st).bind fun a => if a.1.1.length ≤ LIM then
  (lcGo a.1.2 t tt te (wipeD env vs) a.1.1 [] a.2).bind fun b => newL m b.1 b.2 else .bad
theorem lc_post {m : Bool} {tg iter : Expr} {wi : TI} {it : IV} {vs : List Nat} {t : Tg1} {tt : TV} {te : EV} (hin : t.inside vs = true)
    (qi : ∀ Rs F H r sg env st (Q : It → Hp → Prop), Holds W Rs F H r st → EnvOk F r sg env → PostX W Rs F r (it env st) (fun a => ∀ J F' H' r', Same F F' → Ext r r' → Holds W Rs F' H' r' a.2 → Drv W F' r' J a.1 → Q J H') E → wi sg H Q)
    {Rs F H r sg env st Q} (hH : Holds W Rs F H r st) (hE : EnvOk F r sg env) (hP : Post W Rs F r (eLc m it vs t tt te env st) Q E) : tLc wi (t.rd X.K) (tDT W E0 tt) (tDE W E0 te) vs sg H Q := by
  refine qi Rs F H r sg env st _ hH hE (bindX hP fun a ea z J F0 H0 r0 s0 x0 h0 drv => ?_)
  obtain ⟨⟨items, sub⟩, st0⟩ := a
  by_cases hl : items.length ≤ LIM
  · simp only [if_pos hl] at z
    intro D hD
    have z0 : Post W Rs F0 r0 ((lcGo sub t tt te (wipeD env vs) items [] st0).bind fun b => newL m b.1 b.2) Q E := Post.later s0 x0 z
    have hE0 := wipe_ok (hE.mono s0 x0) vs
    have hRD : Rs D = none := h0.freeR hD
    refine ⟨fun i mm H' => mm = items.length - i ∧ i ≤ items.length ∧ ∃ F' r' st' acc accV, Same F0 F' ∧ Ext r0 r' ∧ Holds W (upd Rs D (.lst accV)) F' H' r' st' ∧ Reps F' r' accV acc ∧ acc.length ≤ i ∧
      Post W Rs F' r' ((lcGo sub t tt te (wipeD env vs) (items.drop i) acc st').bind fun b => newL m b.1 b.2) Q E,
      ⟨items.length, by simp, Nat.zero_le _, F0, r0, st0, [], [], Same.refl _, Ext.refl _, h0.guard hD, .nil, Nat.le_refl _, z0⟩, ?_⟩
    rintro i mm H' ⟨rfl, hi, F', r', st', acc, accV, s, x, hH', kacc, hacc, hP'⟩
    have hlen := kacc.length
    by_cases hlt : i < items.length
    · rw [List.drop_eq_getElem_cons hlt] at hP'
      unfold lcGo at hP'
      by_cases hst : still sub st' = true
      · rw [if_pos hst] at hP'
        cases ep : t.put items[i] (wipeD env vs) with
        | none => rw [ep] at hP'; exact hP'.elim
        | some env1 =>
          rw [ep] at hP'
          simp only at hP'
          obtain ⟨d1, _⟩ := drv i _ F' H' r' st' s x hH' hst
          obtain ⟨go, yld⟩ := d1 items[i] (by simp [hlt])
          refine .inr ⟨go, fun H2 => i + 1 ≤ items.length ∧ ∃ F' r' st' acc accV, Same F0 F' ∧ Ext r0 r' ∧ Holds W (upd Rs D (.lst accV)) F' H2 r' st' ∧ Reps F' r' accV acc ∧ acc.length ≤ i + 1 ∧
            Post W Rs F' r' ((lcGo sub t tt te (wipeD env vs) (items.drop (i + 1)) acc st').bind fun b => newL m b.1 b.2) Q E, fun H2 y => ⟨items.length - (i + 1), by omega, rfl, y⟩, fun v H1 y => ?_⟩
          obtain ⟨F1, s1, h1, k1⟩ := yld v H1 y
          refine Tg1.post hin h1 (hE0.mono (s.trans s1) x) k1 ep fun sg2 hE2 hw => ⟨hw, ?_⟩
          have hP1 := Post.later s1 (Ext.refl _) hP'
          -- the tests
          have asc : ((noX (tt env1 st')).bind fun b => if b.1 = true then (noX (te env1 b.2)).bind fun y => lcGo sub t tt te (wipeD env vs) (items.drop (i + 1)) (acc ++ [y.1]) y.2 else lcGo sub t tt te (wipeD env vs) (items.drop (i + 1)) acc b.2).bind (fun b => newL m b.1 b.2) =
              (noX (tt env1 st')).bind fun b => (if b.1 = true then (noX (te env1 b.2)).bind fun y => lcGo sub t tt te (wipeD env vs) (items.drop (i + 1)) (acc ++ [y.1]) y.2 else lcGo sub t tt te (wipeD env vs) (items.drop (i + 1)) acc b.2).bind (fun b => newL m b.1 b.2) := by
            cases noX (tt env1 st') <;> rfl
          rw [asc] at hP1
          refine ⟨_, F1, r', env1, st', h1, hE2, bindN hP1 fun b eb z2 F2 H2 r2 s2 x2 h2 => ?_⟩
          obtain ⟨bb, st2⟩ := b
          cases bb with
          | false =>
            exact ⟨hlt, F2, r2, st2, acc, accV, (s.trans s1).trans s2, x.trans x2, h2, kacc.mono (s1.trans s2) x2, by omega, Post.later s2 x2 z2⟩
          | true =>
            have asc2 : ((noX (te env1 st2)).bind fun y => lcGo sub t tt te (wipeD env vs) (items.drop (i + 1)) (acc ++ [y.1]) y.2).bind (fun b => newL m b.1 b.2) = (noX (te env1 st2)).bind fun y => (lcGo sub t tt te (wipeD env vs) (items.drop (i + 1)) (acc ++ [y.1]) y.2).bind (fun b => newL m b.1 b.2) := by
              cases noX (te env1 st2) <;> rfl
            simp only [if_true] at z2
            rw [asc2] at z2
            refine ⟨_, F2, r2, env1, st2, h2, hE2.mono s2 x2, bindN (Post.later s2 x2 z2) fun y ey z3 F3 H3 r3 v3 s3 x3 h3 k3 => ?_⟩
            refine ⟨accV, h3.at_guard.1, by rw [hlen]; exact lim_lt (by omega), hlt, F3, r3, y.2, acc ++ [y.1], accV ++ [v3], ((s.trans s1).trans s2).trans s3, (x.trans x2).trans x3, h3.reguard, Reps.snoc (kacc.mono ((s1.trans s2).trans s3) (x2.trans x3)) k3, by simp; omega, Post.later s3 x3 z3⟩
      · rw [if_neg hst] at hP'; exact hP'.elim
    · have e : items.drop i = [] := List.drop_eq_nil_of_le (by omega)
      rw [e] at hP'
      unfold lcGo at hP'
      by_cases hst : still sub st' = true
      · rw [if_pos hst] at hP'
        obtain ⟨_, d2⟩ := drv i _ F' H' r' st' s x hH' hst
        refine .inl ⟨d2 (by simpa using hlt), ?_⟩
        change Post W Rs F' r' (newL m acc st') Q E at hP'
        unfold newL at hP'
        cases m with
        | true =>
          refine hP' F' H' (r' ++ [D]) (.ref D) (Same.refl _) (Ext.snoc _ _) (hH'.adopt hRD ⟨accV, hH'.at_guard.1, kacc.mono (Same.refl _) (Ext.snoc _ _)⟩) (.ref ?_)
          show (r' ++ [D])[st'.length]? = some D
          rw [← hH'.len, List.getElem?_append_right (Nat.le_refl _)]; simp
        | false =>
          obtain ⟨s2, h2⟩ := hH'.thaw hRD
          exact hP' _ H' r' (.ref D) s2 (Ext.refl _) h2 (.lst upd_same (kacc.mono s2 (Ext.refl _)))
      · rw [if_neg hst] at hP'; exact hP'.elim
  · simp only [if_neg hl] at z
    exact z.elim
theorem de_lc (m : Bool) {elt tg iter : Expr} {ifs : List Expr} {scope : Scope} {own : List (Str × Nat)} {vs : List Nat} {pos : Pos} {it : IV} {t : Tg1} {tt : TV} {te : EV} (hc : X.calm = true) (hN : X.N.Nodup) (hi : DI W X E tg iter it) (ok : BlkOk X.N X.env.scope scope own) (hv : own.map (·.2) = vs) (hin : t.inside vs = true)
    (hg : ∀ (s : Shared) (H : Hp) (C : Addr) (cl : List (Str × Addr)) (fp : List Addr), Tg1.On (X.blk s H scope (compEnvC scope cl C X.env) fp) tg t) (ht : ∀ (s : Shared) (H : Hp) (C : Addr) (cl : List (Str × Addr)) (fp : List Addr), DTs W (X.blk s H scope (compEnvC scope cl C X.env) fp) E0 ifs tt)
    (he : ∀ (s : Shared) (H : Hp) (C : Addr) (cl : List (Str × Addr)) (fp : List Addr), DE W (X.blk s H scope (compEnvC scope cl C X.env) fp) E0 elt te) (hs : ∀ x, foldedSetIterable iter X.env x = pure x := by intro _; rfl) :
    DE W X E (.ListComp elt [⟨tg, iter, ifs, 0⟩] scope pos) (eLc m it vs t tt te) := by
  obtain ⟨wi, pi, qi⟩ := hi
  subst hv
  exact .mk (pe_lc (g := t.rd X.K) hc hN pi ok (fun s H C cl fp => hg s H C cl fp) ht he hs) fun Rs F H r sg env st Q hH hE hP => lc_post (tg := tg) (iter := iter) hin qi hH hE hP
theorem ds_setLc (m : Bool) {i : Nat} {y : Str} {py : Pos} {elt tg iter : Expr} {ifs : List Expr} {scope : Scope} {own : List (Str × Nat)} {vs : List Nat} {pos spos : Pos} {it : IV} {t : Tg1} {tt : TV} {te : EV} (hc : X.calm = true) (hN : X.N.Nodup) (hy : X.N[i]? = some y) (hyl : X.env.scope.names.lookup y = some .local)
    (hsw : swapsWith (.ListComp elt [⟨tg, iter, ifs, 0⟩] scope pos) (some (.Name y py)) spos.line X.env = pure true) (hi : DI W X E tg iter it) (ok : BlkOk X.N X.env.scope scope own) (hv : own.map (·.2) = vs) (hin : t.inside vs = true)
    (hg : ∀ (s : Shared) (H : Hp) (C : Addr) (cl : List (Str × Addr)) (fp : List Addr), Tg1.On (X.blk s H scope (compEnvC scope cl C X.env) fp) tg t) (ht : ∀ (s : Shared) (H : Hp) (C : Addr) (cl : List (Str × Addr)) (fp : List Addr), DTs W (X.blk s H scope (compEnvC scope cl C X.env) fp) E0 ifs tt)
    (he : ∀ (s : Shared) (H : Hp) (C : Addr) (cl : List (Str × Addr)) (fp : List Addr), DE W (X.blk s H scope (compEnvC scope cl C X.env) fp) E0 elt te) (hs : ∀ x, foldedSetIterable iter X.env x = pure x := by intro _; rfl) :
    DS W X E (.Assign [.Name y py] (.ListComp elt [⟨tg, iter, ifs, 0⟩] scope pos) spos) (sAsg (eLc m it vs t tt te) (gN i)) := by
  obtain ⟨wi, pi, qi⟩ := hi
  subst hv
  exact .mk (ps_setLc (g := t.rd X.K) hc hN hy hyl hsw pi ok (fun s H C cl fp => hg s H C cl fp) ht he hs) fun Rs F H r sg env st D hH hE hP => sAsg_post (fun Rs F H r sg env st Q hH hE hP => lc_post (tg := tg) (iter := iter) hin qi hH hE hP) gN_ok hH hE hP

/-! ### ranges -/
def intsD (lo : Int) (n : Nat) : List D := (List.range n).map fun (i : Nat) => D.int (lo + (i : Int))
theorem ints_at (lo : Int) (n i : Nat) (h : i < n) : (intsD lo n)[i]? = some (.int (lo + (i : Int))) := by simp [intsD, h]
theorem drv_range {F0 : Hp} {r0 : List Addr} {lo : Int} {n : Nat} : Drv W F0 r0 (Itr lo n) (intsD lo n, []) := fun i Rs F H r st s x hH hst => by
  refine ⟨fun d e => ?_, fun hl => by show n ≤ i; simpa [intsD] using hl⟩
  have hi : i < n := by
    have := (List.getElem?_eq_some_iff.mp e).1
    simpa [intsD] using this
  rw [show (intsD lo n, ([] : List (Nat × List D))).1 = intsD lo n from rfl, ints_at lo n i hi] at e
  cases e
  refine ⟨hi, fun y H' yl => ?_⟩
  obtain ⟨e2, e3⟩ := yl
  subst e2 e3
  exact ⟨F, Same.refl _, hH, .int _⟩
def iR1 (g : AV) : IV := fun env st => (g env st).bind fun a => match a.1 with
  | [.int n] => if -1000000 ≤ n ∧ n ≤ 1000000 then .ok ((intsD 0 n.toNat, []), a.2) else .bad
  | _ => .bad
def iR2 (g : AV) : IV := fun env st => (g env st).bind fun a => match a.1 with
  | [.int i, .int n] => if (-1000000 ≤ i ∧ i ≤ 1000000) ∧ -1000000 ≤ n ∧ n ≤ 1000000 then .ok ((intsD i (n - i).toNat, []), a.2) else .bad
  | _ => .bad
theorem di_r1 {tg a : Expr} {g : AV} {p pos : Pos} (hg : Gl X "range") (hm : X.mg "range" = none) (ha : DA W X E [a] g) (hs : starEach [a] X.env = [(false, eval a X.env)] := by rfl) : DI W X E tg (.Call (.Name "range" p) [a] [] pos) (iR1 g) := by
  obtain ⟨t, pa, q⟩ := ha.ex
  refine ⟨_, pi_range1 hg hm pa hs, fun Rs F H r sg env st Q hH hE hP => ?_⟩
  refine q Rs F H r sg env st _ hH hE (bindX hP fun a ea z F1 H1 r1 vs s1 x1 h1 k1 => ?_)
  obtain ⟨ds, st1⟩ := a
  simp only at z
  split at z
  · rename_i n
    split at z
    · rename_i hc
      match k1 with
      | .cons (.int _) .nil => exact ⟨n, rfl, by omega, by omega, z _ F1 H1 r1 s1 x1 h1 drv_range⟩
    · exact z.elim
  · exact z.elim
theorem di_r2 {tg a b : Expr} {g : AV} {p pos : Pos} (hg : Gl X "range") (hm : X.mg "range" = none) (ha : DA W X E [a, b] g) (hs : starEach [a, b] X.env = [(false, eval a X.env), (false, eval b X.env)] := by rfl) (hs2 : starEach [b] X.env = [(false, eval b X.env)] := by rfl) :
    DI W X E tg (.Call (.Name "range" p) [a, b] [] pos) (iR2 g) := by
  obtain ⟨t, pa, q⟩ := ha.ex
  refine ⟨_, pi_range2 hg hm pa hs hs2, fun Rs F H r sg env st Q hH hE hP => ?_⟩
  refine q Rs F H r sg env st _ hH hE (bindX hP fun a ea z F1 H1 r1 vs s1 x1 h1 k1 => ?_)
  obtain ⟨ds, st1⟩ := a
  simp only at z
  split at z
  · rename_i i n
    split at z
    · rename_i hc
      match k1 with
      | .cons (.int _) (.cons (.int _) .nil) => exact ⟨i, n, rfl, ⟨by omega, by omega, by omega, by omega⟩, z _ F1 H1 r1 s1 x1 h1 drv_range⟩
    · exact z.elim
  · exact z.elim
/-- range(a, b, -1) -/
theorem drv_down {F0 : Hp} {r0 : List Addr} {lo c : Int} {n : Nat} : Drv W F0 r0 (Itc lo c n) ((List.range n).map (fun (i : Nat) => D.int (lo + (i : Int) * c)), []) := fun i Rs F H r st s x hH hst => by
  refine ⟨fun d e => ?_, fun hl => by show n ≤ i; simpa using hl⟩
  have hi : i < n := by
    have := (List.getElem?_eq_some_iff.mp e).1
    simpa using this
  simp [hi] at e
  subst e
  refine ⟨hi, fun y H' yl => ?_⟩
  obtain ⟨e2, e3⟩ := yl
  subst e2 e3
  exact ⟨F, Same.refl _, hH, .int _⟩
def iR3 (g : AV) : IV := fun env st => (g env st).bind fun a => match a.1 with
  | [.int i, .int n, .int c] => if (-1000000 ≤ i ∧ i ≤ 1000000) ∧ (-1000000 ≤ n ∧ n ≤ 1000000) ∧ c = -1 then .ok (((List.range (i - n).toNat).map (fun (k : Nat) => D.int (i + (k : Int) * -1)), []), a.2) else .bad
  | _ => .bad
theorem di_r3 {tg a b c : Expr} {g : AV} {p pos : Pos} (hg : Gl X "range") (hm : X.mg "range" = none) (ha : DA W X E [a, b, c] g)
    (h : ∀ {t : TA}, PA X [a, b, c] t → PI X tg (.Call (.Name "range" p) [a, b, c] [] pos) (iRng3 t)) :
    DI W X E tg (.Call (.Name "range" p) [a, b, c] [] pos) (iR3 g) := by
  obtain ⟨t, pa, q⟩ := ha.ex
  refine ⟨_, h pa, fun Rs F H r sg env st Q hH hE hP => ?_⟩
  refine q Rs F H r sg env st _ hH hE (bindX hP fun a ea z F1 H1 r1 vs s1 x1 h1 k1 => ?_)
  obtain ⟨ds, st1⟩ := a
  simp only at z
  split at z
  · rename_i i n c
    split at z
    · rename_i hc
      obtain ⟨c1, c2, rfl⟩ := hc
      match k1 with
      | .cons (.int _) (.cons (.int _) (.cons (.int _) .nil)) => exact ⟨i, n, -1, (i - n).toNat, rfl, RgC.neg (by omega) (by omega) (by omega) (by omega), z _ F1 H1 r1 s1 x1 h1 drv_down⟩
    · exact z.elim
  · exact z.elim
end
end Dl
/-! ## DlEnum -/
/-! enumerate, zip of lists. -/
namespace Dl
open PySem L2

section
variable {W : Wd} {X : Cx} {E : XK}
def pairUp (ds : List D) : List D := ds.mapIdx fun (i : Nat) d => D.tup [.int (i : Int), d]
theorem pairUp_len (ds : List D) : (pairUp ds).length = ds.length := by simp [pairUp]
theorem pairUp_at {ds : List D} {i : Nat} {e : D} (h : (pairUp ds)[i]? = some e) : ∃ d, ds[i]? = some d ∧ e = .tup [.int (i : Int), d] := by
  unfold pairUp at h
  rw [List.getElem?_mapIdx] at h
  cases q : ds[i]? with
  | none => rw [q] at h; cases h
  | some d => rw [q] at h; cases h; exact ⟨d, rfl, rfl⟩
/-- a list by its items, as it stands -/
def listOf (st : Store) : D → Option Wk
  | .lst ds => some (ds, [])
  | .ref n => match st[n]? with
    | some (.lst ds) => some (ds, [(n, ds)])
    | _ => none
  | _ => none
theorem listOf_ok {Rs F H : Hp} {r : List Addr} {st : Store} {v : V} {d : D} {w : Wk} (h : Holds W Rs F H r st) (k : Rep F r v d) (e : listOf st d = some w) :
    ∃ a, v = .ref a ∧ (∃ vs, H a = some (.lst vs) ∧ Reps F r vs w.1) ∧ ∀ Rs' F' H' r' st', Same F F' → Ext r r' → Holds W Rs' F' H' r' st' → still w.2 st' = true → ∃ vs, H' a = some (.lst vs) ∧ Reps F' r' vs w.1 := by
  cases k with
  | @lst a vs ds q k => cases e; exact ⟨a, rfl, ⟨vs, h.sF _ _ q, k⟩, fun Rs' F' H' r' st' s x h' _ => ⟨vs, h'.sF _ _ (s _ _ q), k.mono s x⟩⟩
  | @ref a n q =>
    unfold listOf at e
    simp only at e
    split at e
    · rename_i ds e1
      cases e
      obtain ⟨vs, q1, k⟩ := h.ob n a _ q e1
      refine ⟨a, rfl, ⟨vs, q1, k⟩, fun Rs' F' H' r' st' s x h' hst => ?_⟩
      obtain ⟨vs', q1', k'⟩ := h'.ob n a _ (x _ _ q) (still_at (ds := ds) hst List.mem_cons_self)
      exact ⟨vs', q1', k'⟩
    · cases e
  | _ => cases e
theorem drv_enum {K : PySem.W.Frag} {F0 : Hp} {r0 : List Addr} {a : Addr} {w : Wk} (h : ∀ Rs F H r st, Same F0 F → Ext r0 r → Holds W Rs F H r st → still w.2 st = true → ∃ vs, H a = some (.lst vs) ∧ Reps F r vs w.1) : Drv W F0 r0 (Ite K a) (pairUp w.1, w.2) := fun i Rs F H r st s x hH hst => by
  obtain ⟨vs, h1, k1⟩ := h Rs F H r st s x hH hst
  refine ⟨fun d e => ?_, fun hl => ⟨vs, .of h1, by rw [k1.length]; rw [pairUp_len] at hl; exact hl⟩⟩
  obtain ⟨d', e', rfl⟩ := pairUp_at e
  obtain ⟨v, e1, k⟩ := k1.get e'
  refine ⟨⟨vs, v, .of h1, e1⟩, fun y H' yl => ?_⟩
  obtain ⟨T, z, rfl, hT, rfl, yl⟩ := yl
  have := yl vs (.of h1)
  rw [e1] at this; cases this
  obtain ⟨s1, h2⟩ := hH.frozen (o := .tup [.int (i : Nat), v]) hT
  exact ⟨_, s1, h2, .tup upd_same (.cons (.int _) (.cons (k.mono s1 (Ext.refl _)) .nil))⟩
def iEn (g : AV) : IV := fun env st => (g env st).bind fun a => match a.1 with
  | [d] => match listOf a.2 d with
    | some w => .ok ((pairUp w.1, w.2), a.2)
    | none => .bad
  | _ => .bad
theorem di_enum {e : Expr} {g : AV} {p pos tpos : Pos} {elts : List Expr} {kk : Nat} (hg : Gl X "enumerate") (hm : X.mg "enumerate" = none) (ha : DA W X E [e] g) (hs : starEach [e] X.env = [(false, eval e X.env)] := by rfl) :
    DI W X E (.Tuple elts kk tpos) (.Call (.Name "enumerate" p) [e] [] pos) (iEn g) := by
  obtain ⟨t, pa, q⟩ := ha.ex
  refine ⟨_, pi_enum hg hm pa hs, fun Rs F H r sg env st Q hH hE hP => ?_⟩
  refine q Rs F H r sg env st _ hH hE (bindX hP fun a ea z F1 H1 r1 vs s1 x1 h1 k1 => ?_)
  obtain ⟨ds, st1⟩ := a
  simp only at z
  split at z
  · split at z
    · rename_i d w e
      match k1 with
      | .cons k .nil =>
        obtain ⟨a, rfl, ⟨vs, h2, k2⟩, hh⟩ := listOf_ok h1 k e
        exact ⟨a, vs, rfl, .of h2, z _ F1 H1 r1 s1 x1 h1 (drv_enum hh)⟩
    · exact z.elim
  · exact z.elim
def zipUp : List D → List D → List D
  | a :: as, b :: bs => .tup [a, b] :: zipUp as bs
  | _, _ => []
theorem zipUp_len : ∀ as bs : List D, (zipUp as bs).length = min as.length bs.length
  | [], _ => by simp [zipUp]
  | _ :: _, [] => by simp [zipUp]
  | a :: as, b :: bs => by simp [zipUp, zipUp_len as bs]
theorem zipUp_at : ∀ {as bs : List D} {i : Nat} {e : D}, (zipUp as bs)[i]? = some e → ∃ a b, as[i]? = some a ∧ bs[i]? = some b ∧ e = .tup [a, b]
  | [], _, i, e, h => by simp [zipUp] at h
  | _ :: _, [], i, e, h => by simp [zipUp] at h
  | a :: as, b :: bs, 0, e, h => by simp [zipUp] at h; exact ⟨a, b, rfl, rfl, h.symm⟩
  | a :: as, b :: bs, i + 1, e, h => by
    simp [zipUp] at h
    obtain ⟨x, y, h1, h2, h3⟩ := zipUp_at h
    exact ⟨x, y, by simpa using h1, by simpa using h2, h3⟩
theorem drv_zip {K : PySem.W.Frag} {F0 : Hp} {r0 : List Addr} {a b : Addr} {w w' : Wk} (h : ∀ Rs F H r st, Same F0 F → Ext r0 r → Holds W Rs F H r st → still w.2 st = true → ∃ vs, H a = some (.lst vs) ∧ Reps F r vs w.1)
    (h' : ∀ Rs F H r st, Same F0 F → Ext r0 r → Holds W Rs F H r st → still w'.2 st = true → ∃ vs, H b = some (.lst vs) ∧ Reps F r vs w'.1) : Drv W F0 r0 (Itz K a b) (zipUp w.1 w'.1, w.2 ++ w'.2) := fun i Rs F H r st s x hH hst => by
  have hst' : still w.2 st = true ∧ still w'.2 st = true := by
    unfold still at hst ⊢
    rw [List.all_append, Bool.and_eq_true] at hst
    exact hst
  obtain ⟨vs, h1, k1⟩ := h Rs F H r st s x hH hst'.1
  obtain ⟨ws, h2, k2⟩ := h' Rs F H r st s x hH hst'.2
  refine ⟨fun d e => ?_, fun hl => ⟨vs, ws, .of h1, .of h2, ?_⟩⟩
  · obtain ⟨d1, d2, e1, e2, rfl⟩ := zipUp_at e
    obtain ⟨v1, f1, m1⟩ := k1.get e1
    obtain ⟨v2, f2, m2⟩ := k2.get e2
    refine ⟨⟨vs, ws, v1, v2, .of h1, .of h2, f1, f2⟩, fun y H' yl => ?_⟩
    obtain ⟨T, z1, z2, rfl, hT, rfl, yl1, yl2⟩ := yl
    have q1 := yl1 vs (.of h1)
    have q2 := yl2 ws (.of h2)
    rw [f1] at q1; cases q1
    rw [f2] at q2; cases q2
    obtain ⟨s1, h3⟩ := hH.frozen (o := .tup [v1, v2]) hT
    exact ⟨_, s1, h3, .tup upd_same (.cons (m1.mono s1 (Ext.refl _)) (.cons (m2.mono s1 (Ext.refl _)) .nil))⟩
  · rw [zipUp_len] at hl
    rw [k1.length, k2.length]
    omega
def iZp (g : AV) : IV := fun env st => (g env st).bind fun a => match a.1 with
  | [d, e] => match listOf a.2 d, listOf a.2 e with
    | some w, some w' => .ok ((zipUp w.1 w'.1, w.2 ++ w'.2), a.2)
    | _, _ => .bad
  | _ => .bad
theorem di_zip {e e2 : Expr} {g : AV} {p pos tpos : Pos} {elts : List Expr} {kk : Nat} (hg : Gl X "zip") (hm : X.mg "zip" = none) (ha : DA W X E [e, e2] g)
    (hs : starEach [e, e2] X.env = (false, eval e X.env) :: starEach [e2] X.env := by rfl) (hpl : (backTo pos (starEach [e2] X.env)).any (·.1) = false := by rfl) :
    DI W X E (.Tuple elts kk tpos) (.Call (.Name "zip" p) [e, e2] [] pos) (iZp g) := by
  obtain ⟨t, pa, q⟩ := ha.ex
  refine ⟨_, pi_zip hg hm pa hs hpl, fun Rs F H r sg env st Q hH hE hP => ?_⟩
  refine q Rs F H r sg env st _ hH hE (bindX hP fun a ea z F1 H1 r1 vs s1 x1 h1 k1 => ?_)
  obtain ⟨ds, st1⟩ := a
  simp only at z
  split at z
  · split at z
    · rename_i d e w w' e1 e2
      match k1 with
      | .cons k (.cons k' .nil) =>
        obtain ⟨a, rfl, ⟨vs, h2, k2⟩, hh⟩ := listOf_ok h1 k e1
        obtain ⟨b, rfl, ⟨ws, h3, k3⟩, hh'⟩ := listOf_ok h1 k' e2
        exact ⟨a, b, vs, ws, rfl, .of h2, .of h3, z _ F1 H1 r1 s1 x1 h1 (drv_zip hh hh')⟩
    · exact z.elim
  · exact z.elim
end
end Dl
/-! ## DlCall -/
/-! Defs, calls, instances. -/
namespace Dl
open PySem L2

section
variable {P : Program} {w : World} {W : Wd} {X : Cx} {E : XK}
/-- THE RULE for a def -/
theorem fnD {mg : Str → Option Value} {base : Heap} {x qual : Str} {s : Stmt} {f : Addr} {fd : FuncData} {N ps : List Str} {k n : Nat} {b : SV} (F : Fun W.K x qual s f fd) (S : FnScope N ps (defScope s)) (hn : ps.length = n)
    (hbody : ∀ (cdv : Value) (A : Around) (outer : List PySem.Env) (sh : Shared) (H : Hp) (E : XK), Room k (A.deeper (PyProof.Rows.envOfC qual (defScope s) sh.heap.objs.size f cdv)) →
      DB W (cxOf (L2.CX P w) P w W.K mg base N qual (defScope s) f cdv A outer sh H E) E (defBody s) b) : FnOk P w W.K mg base (L2.CX P w) (k + 1) f fd ps (spD W n (funD N.length b)) := by
  refine F.okX S (fun vs H Q E h => ?_) (fun cdv A outer sh H vs Q E hr h => ?_)
  · obtain ⟨Rs, F, r, st, ds, _, h, hl, _⟩ := h
    rw [h.length, hl, hn]
  · obtain ⟨Rs, F, r, st, ds, hH, hk, hl, hP⟩ := h
    obtain ⟨t, p, q⟩ := (hbody cdv A outer sh H E hr).ex
    refine ⟨t, p, q Rs F H r _ _ st _ hH (EnvOk.start hk) ?_⟩
    unfold funD at hP
    cases eb : b (List.map some ds ++ List.replicate (N.length - ds.length) none) st with
    | nx e s' => rw [eb] at hP; exact fun F' H' r' sg' s1 x1 h1 k1 => hP F' H' r' .non s1 x1 h1 .non
    | rt d s' => rw [eb] at hP; exact hP
    | bk e s' => rw [eb] at hP; exact hP.elim
    | ct e s' => rw [eb] at hP; exact hP.elim
    | exc c p s' => rw [eb] at hP; exact hP
    | bad => rw [eb] at hP; exact hP.elim
/-- another meaning, of which the first one follows -/
theorem spD_imp {mg : Str → Option Value} {base : Heap} {CX : CXT} {k n : Nat} {f : Addr} {fd : FuncData} {ps : List Str} {g g' : FV} (F : FnOk P w W.K mg base CX k f fd ps (spD W n g))
    (h : ∀ Rs F H r st vs ds Q E, Holds W Rs F H r st → Reps F r vs ds → ds.length = n → Post W Rs F r (g' ds st) Q E → Post W Rs F r (g ds st) Q E) : FnOk P w W.K mg base CX k f fd ps (spD W n g') :=
  F.imp fun vs H Q E ⟨Rs, F, r, st, ds, a, b, c, d⟩ => ⟨Rs, F, r, st, ds, a, b, c, h Rs F H r st vs ds Q E a b c d⟩
theorem spD_eq {mg : Str → Option Value} {base : Heap} {CX : CXT} {k n : Nat} {f : Addr} {fd : FuncData} {ps : List Str} {g g' : FV} (F : FnOk P w W.K mg base CX k f fd ps (spD W n g))
    (h : ∀ ds st, ds.length = n → g' ds st ≠ .bad → g ds st = g' ds st) : FnOk P w W.K mg base CX k f fd ps (spD W n g') :=
  spD_imp F fun Rs F H r st vs ds Q E a b c d => by
    by_cases e : g' ds st = .bad
    · rw [e] at d; exact d.elim
    · rw [h ds st c e]; exact d

def eCall (n : Nat) (g : FV) (ga : AV) : EV := fun env st => (ga env st).bind fun a => if a.1.length = n then g a.1 a.2 else .bad
theorem passE {E' : XK} {xe : Value → Shared → Prop} : Passes (L2.CX X.prog X.w) X E0 := passL
section
variable {CX : CXT} {k j n : Nat} {f : Addr} {fd : FuncData} {ps : List Str} {g : FV} {x : Str} {e : Expr} {es : List Expr} {p pos apos : Pos} {ga : AV}
theorem de_call (hK : X.K = W.K) (F : FnOk X.prog X.w W.K X.mg X.base CX k f fd ps (spD W n g)) (hr : Room j X.A) (hj : k ≤ j) (hg : Gl X x) (hm : X.mg x = some (.ref f)) (hk : PySem.W.keepIn W.K (.ref f) = true) (hb : Binds W.K fd ps []) (hx : Passes CX X E)
    (ha : DA W X E (e :: es) ga) (hdb : (x == ("__debug__" : Str)) = false := by decide) (he : starEach (e :: es) X.env = (false, eval e X.env) :: starEach es X.env := by rfl) (hpl : (backTo pos (starEach es X.env)).any (·.1) = false := by rfl) :
    DE W X E (.Call (.Name x p) (e :: es) [] pos) (eCall n g ga) := by
  obtain ⟨t, pa, q⟩ := ha.ex
  refine .mk (pe_call (sp := spD W n g) (by rw [hK]; exact F) (hr.mono hj) hg hm (by rw [hK]; exact hk) (by rw [hK]; exact hb) .nil hx pa hdb he hpl) fun Rs F H r sg env st Q hH hE hP => ?_
  refine q Rs F H r sg env st _ hH hE (bindX hP fun a ea z F1 H1 r1 vs s1 x1 h1 k1 => ?_)
  by_cases hl : a.1.length = n
  · rw [if_pos hl] at z
    exact ⟨Rs, F1, r1, a.2, a.1, h1, by rw [List.append_nil]; exact k1, hl, Post.later s1 x1 z⟩
  · rw [if_neg hl] at z; exact z.elim
theorem de_call0 (hK : X.K = W.K) (F : FnOk X.prog X.w W.K X.mg X.base CX k f fd ps (spD W 0 g)) (hr : Room j X.A) (hj : k ≤ j) (hg : Gl X x) (hm : X.mg x = some (.ref f)) (hk : PySem.W.keepIn W.K (.ref f) = true) (hb : Binds W.K fd ps []) (hx : Passes CX X E)
    (hdb : (x == ("__debug__" : Str)) = false := by decide) : DE W X E (.Call (.Name x p) [] [] pos) (eCall 0 g aNil) := by
  refine .mk (pe_call0 (sp := spD W 0 g) (by rw [hK]; exact F) (hr.mono hj) hg hm (by rw [hK]; exact hk) (by rw [hK]; exact hb) .nil hx hdb) fun Rs F H r sg env st Q hH hE hP => ?_
  exact ⟨Rs, F, r, st, [], hH, .nil, rfl, hP⟩
/-- o.m(..), o of the class c -/
def eMeth (c : Nat) (m : Str) (n : Nat) (g : FV) (fo : EV) (ga : AV) : EV := fun env st => (fo env st).bind fun o => match o.1 with
  | .ref i => match o.2[i]? with
    | some (.ins c' fs) => if c' = c ∧ fs.lookup m = none then (ga env o.2).bind fun a => if a.1.length + 1 = n then g (.ref i :: a.1) a.2 else .bad else .bad
    | _ => .bad
  | _ => .bad
theorem meth_post {m : Str} {c : Nat} {fo : EV} {to : TE} {ta : TA}
    (qo : ∀ Rs F H r sg env st Q, Holds W Rs F H r st → EnvOk F r sg env → Post W Rs F r (fo env st) Q E → to sg H Q)
    (qa : ∀ Rs F H r sg env st Q, Holds W Rs F H r st → EnvOk F r sg env → PostA W Rs F r (ga env st) Q E → ta sg H Q)
    {Rs F H r sg env st Q} (hH : Holds W Rs F H r st) (hE : EnvOk F r sg env) (hP : Post W Rs F r (eMeth c m n g fo ga env st) Q E) : tMeth (W.cls c) m (spD W n g) [] E to ta sg H Q := by
  refine qo Rs F H r sg env st _ hH hE (bindX hP fun o eo z F1 H1 r1 v1 s1 x1 h1 k1 => ?_)
  obtain ⟨d, st1⟩ := o
  cases k1 with
  | @ref a i e =>
    simp only at z
    split at z
    · rename_i c' fs e1
      split at z
      · rename_i hc
        obtain ⟨rfl, hm⟩ := hc
        obtain ⟨dx, vfs, e2, k2⟩ := h1.ob i a _ e e1
        refine ⟨a, dx, vfs, rfl, e2, k2.lookN hm, ?_⟩
        refine qa Rs F1 H1 r1 sg env st1 _ h1 (hE.mono s1 x1) (bindX (Post.later s1 x1 z) fun b eb z2 F2 H2 r2 vs s2 x2 h2 k2 => ?_)
        by_cases hl : b.1.length + 1 = n
        · rw [if_pos hl] at z2
          exact ⟨Rs, F2, r2, b.2, .ref i :: b.1, h2, by rw [List.append_nil]; exact .cons (.ref (x2 _ _ e)) k2, hl, Post.later s2 x2 z2⟩
        · rw [if_neg hl] at z2; exact z2.elim
      · exact z.elim
    · exact z.elim
  | _ => exact z.elim
theorem de_meth {o : Expr} {fo : EV} {c : Nat} {m : Str} {pl : Sem Bool} (hK : X.K = W.K) (he : DE W X E o fo) (cl : Cls W.K (W.cls c)) (hm : Meth W.K (W.cls c) m f) (F : FnOk X.prog X.w W.K X.mg X.base CX k f fd ps (spD W n g)) (hr : Room j X.A) (hj : k ≤ j) (hb : Binds W.K fd ps []) (hx : Passes CX X E) (ha : DA W X E (e :: es) ga)
    (hst : starEach (e :: es) X.env = (false, eval e X.env) :: starEach es X.env := by rfl) (hpl : (backTo pos (starEach es X.env)).any (·.1) = false := by rfl)
    (ht : eval (.Call (.Attribute o m apos) (e :: es) [] pos) X.env = (do
      let ov ← eval o X.env
      standAt apos.atName
      let (f, first) ← holding [ov] (getMethod ov m pl)
      callWith pos f first (backTo pos (starEach (e :: es) X.env)) (backToKw pos (keywordEach [] X.env))) := by rfl) :
    DE W X E (.Call (.Attribute o m apos) (e :: es) [] pos) (eMeth c m n g fo ga) := by
  obtain ⟨to, po, qo⟩ := he.ex
  obtain ⟨ta, pa, qa⟩ := ha.ex
  exact .mk (pe_meth (pl := pl) (C := W.cls c) (sp := spD W n g) po (by rw [hK]; exact cl) (by rw [hK]; exact hm) (by rw [hK]; exact F) (hr.mono hj) (by rw [hK]; exact hb) .nil hx pa hst hpl ht) fun Rs F H r sg env st Q hH hE hP => meth_post qo qa hH hE hP
theorem de_meth0 {o : Expr} {fo : EV} {c : Nat} {m : Str} {pl : Sem Bool} (hK : X.K = W.K) (he : DE W X E o fo) (cl : Cls W.K (W.cls c)) (hm : Meth W.K (W.cls c) m f) (F : FnOk X.prog X.w W.K X.mg X.base CX k f fd ps (spD W n g)) (hr : Room j X.A) (hj : k ≤ j) (hb : Binds W.K fd ps []) (hx : Passes CX X E)
    (h : ∀ {to : TE}, PE X o to → PE X (.Call (.Attribute o m apos) [] [] pos) (tMeth (W.cls c) m (spD W n g) [] E to tNil)) :
    DE W X E (.Call (.Attribute o m apos) [] [] pos) (eMeth c m n g fo aNil) := by
  obtain ⟨to, po, qo⟩ := he.ex
  exact .mk (h po) fun Rs F H r sg env st Q hH hE hP => meth_post (ga := aNil) qo (fun Rs F H r sg env st Q hH hE hP => hP F H r [] (Same.refl _) (Ext.refl _) hH .nil) hH hE hP
theorem Holds.waste {Rs F H : Hp} {r : List Addr} {st : Store} {q : Addr} {o : HO} (h : Holds W Rs F H r st) (e : H q = none) : Holds W Rs F (upd H q o) r st := by
  refine ⟨fun c u z => ?_, fun c u z => ?_, h.dj, h.len, h.nd, h.own, fun i a b e1 e2 => ?_, ⟨fun t ht => ?_, h.tb.nF, h.tb.nR⟩⟩
  · rw [upd_ne (ne_of_none z (h.freeF e))]; exact h.sF _ _ z
  · rw [upd_ne (ne_of_none z (h.freeR e))]; exact h.sR _ _ z
  · have hc : a ≠ q := fun z => h.notin e (z ▸ List.mem_of_getElem? e1)
    exact (h.ob i a b e1 e2).mono (Same.refl _) (Ext.refl _) (upd_ne hc)
  · obtain ⟨t1, t2, t3, t4⟩ := h.tb.at_ t ht
    exact ⟨t1.ext fun b u z => by rw [upd_ne (ne_of_none z e)]; exact z, t2, t3, t4⟩
/-- C(..) -/
def eMake (c : Nat) (n : Nat) (g : FV) (ga : AV) : EV := fun env st => (ga env st).bind fun a => if a.1.length + 1 = n then (g (.ref a.2.length :: a.1) (a.2 ++ [.ins c []])).bind fun b => match b.1 with
  | .non => .ok (.ref a.2.length, b.2)
  | _ => .bad else .bad
theorem make_post {c : Nat} {ta : TA}
    (qa : ∀ Rs F H r sg env st Q, Holds W Rs F H r st → EnvOk F r sg env → PostA W Rs F r (ga env st) Q E → ta sg H Q)
    {Rs F H r sg env st Q} (hH : Holds W Rs F H r st) (hE : EnvOk F r sg env) (hP : Post W Rs F r (eMake c n g ga env st) Q E) : tMake (W.cls c) (spD W n g) [] E ta sg H Q := by
  refine qa Rs F H r sg env st _ hH hE (bindX hP fun a ea z F1 H1 r1 vs s1 x1 h1 k1 => ?_)
  intro x dx hx hdx hne
  by_cases hl : a.1.length + 1 = n
  · rw [if_pos hl] at z
    have hx' : upd H1 dx (.own x) x = none := by rw [upd_ne (Ne.symm hne)]; exact hx
    have h2 := (h1.waste (o := .own x) hdx).fresh (o := .ins (W.cls c) dx []) (b := .ins c []) hx' ⟨dx, [], upd_same, trivial⟩
    have e1 : (r1 ++ [x])[a.2.length]? = some x := by rw [← h1.len, List.getElem?_append_right (Nat.le_refl _)]; simp
    refine ⟨Rs, F1, r1 ++ [x], a.2 ++ [.ins c []], .ref a.2.length :: a.1, h2, by rw [List.append_nil]; exact .cons (.ref e1) (k1.mono (Same.refl _) (Ext.snoc _ _)), hl, ?_⟩
    have z1 := Post.later s1 (x1.trans (Ext.snoc r1 x)) z
    refine bindX z1 fun b eb z2 F2 H2 r2 v2 s2 x2 h2 k2 => ?_
    obtain ⟨d, st2⟩ := b
    cases d with
    | non => cases k2; exact ⟨rfl, z2 F2 H2 r2 _ s2 x2 h2 (.ref (x2 _ _ e1))⟩
    | _ => exact z2.elim
  · rw [if_neg hl] at z; exact z.elim
theorem de_make {c : Nat} (hK : X.K = W.K) (M : Mk W.K (W.cls c) f) (F : FnOk X.prog X.w W.K X.mg X.base CX k f fd ps (spD W n g)) (hr : Room (j + 1) X.A) (hj : k ≤ j) (hg : Gl X x) (hm : X.mg x = some (.ref (W.cls c))) (hb : Binds W.K fd ps []) (hx : Passes CX X E)
    (ha : DA W X E (e :: es) ga) (hdb : (x == ("__debug__" : Str)) = false := by decide) (he : starEach (e :: es) X.env = (false, eval e X.env) :: starEach es X.env := by rfl) (hpl : (backTo pos (starEach es X.env)).any (·.1) = false := by rfl) :
    DE W X E (.Call (.Name x p) (e :: es) [] pos) (eMake c n g ga) := by
  obtain ⟨ta, pa, qa⟩ := ha.ex
  exact .mk (pe_make (C := W.cls c) (sp := spD W n g) (by rw [hK]; exact M) (by rw [hK]; exact F) (hr.mono (by omega)) hg hm (by rw [hK]; exact hb) .nil hx pa hdb he hpl) fun Rs F H r sg env st Q hH hE hP => make_post qa hH hE hP
end

/-! ### fields -/
def eFld (c : Nat) (f : Str) (fo : EV) : EV := fun env st => (fo env st).bind fun o => match o.1 with
  | .ref i => match o.2[i]? with
    | some (.ins c' fs) => if c' = c then (match fs.lookup f with
      | some d => .ok (d, o.2)
      | none => .bad) else .bad
    | _ => .bad
  | _ => .bad
theorem de_fld {o : Expr} {fo : EV} {c : Nat} {f : Str} {pos : Pos} (hK : X.K = W.K) (he : DE W X E o fo) (cl : Cls W.K (W.cls c)) (na : NoAttr W.K (W.cls c) f) (hb : attributeBase o f X.env (eval o X.env) = eval o X.env := by rfl) : DE W X E (.Attribute o f pos) (eFld c f fo) := by
  obtain ⟨to, po, qo⟩ := he.ex
  refine .mk (pe_fld po hb) fun Rs F H r sg env st Q hH hE hP => ?_
  refine qo Rs F H r sg env st _ hH hE (bindX hP fun o eo z F1 H1 r1 v1 s1 x1 h1 k1 => ?_)
  obtain ⟨d, st1⟩ := o
  cases k1 with
  | @ref a i e =>
    simp only at z
    split at z
    · rename_i c' fs e1
      split at z
      · rename_i hc
        subst hc
        split at z
        · rename_i d e3
          obtain ⟨dx, vfs, e2, k2⟩ := h1.ob i a _ e e1
          obtain ⟨v, e4, k4⟩ := k2.look e3
          rw [hK]
          exact ⟨a, _, dx, vfs, v, rfl, e2, cl, na, e4, z F1 H1 r1 v s1 x1 h1 k4⟩
        · exact z.elim
      · exact z.elim
    · exact z.elim
  | _ => exact z.elim
def sFldD (c : Nat) (f : Str) (fo fv : EV) : SV := fun env st => sOf (fv env st) fun v => sOf (fo env v.2) fun o => match o.1 with
  | .ref i => match o.2[i]? with
    | some (.ins c' fs) => if c' = c ∧ fs.length < 900 then .nx env (o.2.set i (.ins c' (putD f v.1 fs))) else .bad
    | _ => .bad
  | _ => .bad
theorem ds_fld {o value : Expr} {fo fv : EV} {c : Nat} {f : Str} {pos pos' : Pos} (hK : X.K = W.K) (he : DE W X E o fo) (hv : DE W X E value fv) (cl : Cls W.K (W.cls c)) (na : NoAttr W.K (W.cls c) f) (hs : swapsWith value (some (.Attribute o f pos')) pos.line X.env = pure false := by rfl) :
    DS W X E (.Assign [.Attribute o f pos'] value pos) (sFldD c f fo fv) := by
  obtain ⟨to, po, qo⟩ := he.ex
  obtain ⟨tv, pv, qv⟩ := hv.ex
  refine .mk (ps_fld po pv hs) fun Rs F H r sg env st D hH hE hP => ?_
  refine qv Rs F H r sg env st _ hH hE (bindS hP fun b eb zb F0 H0 r0 v0 s0 x0 h0 k0 => ?_)
  refine qo Rs F0 H0 r0 sg env b.2 _ h0 (hE.mono s0 x0) (bindS (PostS.later s0 x0 zb) fun o eo z F1 H1 r1 v1 s1 x1 h1 k1 => ?_)
  obtain ⟨d, st1⟩ := o
  cases k1 with
  | @ref a i e =>
    simp only at z
    split at z
    · rename_i c' fs e1
      split at z
      · rename_i hc
        obtain ⟨rfl, hl⟩ := hc
        obtain ⟨dx, vfs, e2, k2⟩ := h1.ob i a _ e e1
        rw [hK]
        refine ⟨a, _, dx, vfs, rfl, e2, cl, na, by rw [k2.length]; omega, ?_⟩
        exact z F1 _ r1 sg s1 x1 (h1.write e ⟨dx, _, upd_same, Flds.put (k0.mono s1 x1) k2⟩) (hE.mono (s0.trans s1) (x0.trans x1))
      · exact z.elim
    · exact z.elim
  | _ => exact z.elim
/-- e.f += value, ints -/
def sFldAdd (c : Nat) (f : Str) (fo fv : EV) : SV := fun env st => sOf (fo env st) fun o => match o.1 with
  | .ref i => match o.2[i]? with
    | some (.ins c' fs) => if c' = c then (match fs.lookup f with
      | some (.int a) => sOf (fv env o.2) fun v => match v.1, v.2[i]? with
        | .int b, some (.ins c2 fs2) => if c2 = c ∧ fs2.length < 900 then .nx env (v.2.set i (.ins c2 (putD f (.int (a + b)) fs2))) else .bad
        | _, _ => .bad
      | _ => .bad) else .bad
    | _ => .bad
  | _ => .bad
theorem ds_fldadd {o value : Expr} {fo fv : EV} {c : Nat} {f : Str} {pos tpos : Pos} (hK : X.K = W.K) (he : DE W X E o fo) (hv : DE W X E value fv) (cl : Cls W.K (W.cls c)) (na : NoAttr W.K (W.cls c) f) :
    DS W X E (.AugAssign (.Attribute o f tpos) .Add value pos) (sFldAdd c f fo fv) := by
  obtain ⟨to, po, qo⟩ := he.ex
  obtain ⟨tv, pv, qv⟩ := hv.ex
  refine .mk (ps_fldaug po pv in_add) fun Rs F H r sg env st D hH hE hP => ?_
  refine qo Rs F H r sg env st _ hH hE (bindS hP fun o eo z F1 H1 r1 v1 s1 x1 h1 k1 => ?_)
  obtain ⟨d, st1⟩ := o
  cases k1 with
  | @ref a i e =>
    simp only at z
    split at z
    · rename_i c' fs e1
      split at z
      · rename_i hc
        subst hc
        split at z
        · rename_i n e3
          obtain ⟨dx, vfs, e2, k2⟩ := h1.ob i a _ e e1
          obtain ⟨v, e4, k4⟩ := k2.look e3
          cases k4
          rw [hK]
          refine ⟨a, _, dx, vfs, _, rfl, e2, cl, na, e4, ?_⟩
          refine qv Rs F1 H1 r1 sg env st1 _ h1 (hE.mono s1 x1) (bindS (PostS.later s1 x1 z) fun b eb z2 F2 H2 r2 v2 s2 x2 h2 k2' => ?_)
          obtain ⟨d2, st2⟩ := b
          simp only at z2
          split at z2
          · rename_i m c2 fs2 e5
            cases k2'
            split at z2
            · rename_i hc
              obtain ⟨rfl, hl⟩ := hc
              obtain ⟨dx', vfs', e6, k6⟩ := h2.ob i a _ (x2 _ _ e) e5
              exact ⟨_, _, rfl, rfl, dx', vfs', e6, by rw [k6.length]; omega, z2 F2 _ r2 sg s2 x2 (h2.write (x2 _ _ e) ⟨dx', _, upd_same, Flds.put (.int _) k6⟩) (hE.mono (s1.trans s2) (x1.trans x2))⟩
            · exact z2.elim
          · exact z2.elim
        · exact z.elim
      · exact z.elim
    · exact z.elim
  | _ => exact z.elim
end
end Dl
/-! ## DlBi -/
/-! Built-in functions and methods. -/
namespace Dl
open PySem L2

section
variable {W : Wd} {X : Cx} {E : XK}
/-! ### subscripts, slices -/
def ixG : G2 := fun st d e => match d, e with
  | .tup ds, .int i => R.of ((atI ds i).map fun x => (x, st))
  | .str s, .int i => R.of ((atI s i).map fun c => (.str [c], st))
  | d, .int i => match lstOf st d with
    | some ds => R.of ((atI ds i).map fun x => (x, st))
    | none => .bad
  | _, _ => .bad
theorem Reps.atI {F : Hp} {r : List Addr} {vs : List V} {ds : List D} {i : Int} {d : D} (h : Reps F r vs ds) (e : L2.atI ds i = some d) : ∃ v, L2.atI vs i = some v ∧ Rep F r v d := by
  unfold L2.atI at e ⊢
  rw [h.length]
  cases q : ixN ds.length i with
  | none => rw [q] at e; cases e
  | some j => rw [q] at e; exact h.get e
theorem ix_l {st : Store} {d : D} {i : Int} (h1 : ∀ i, d ≠ .tup i) (h2 : ∀ i, d ≠ .str i) : ixG st d (.int i) = match lstOf st d with
    | some ds => R.of ((atI ds i).map fun x => (x, st))
    | none => .bad := by
  cases d <;> first | rfl | exact absurd rfl (h1 _) | exact absurd rfl (h2 _)
theorem de_ix {a b : Expr} {fa fb : EV} {pos : Pos} (hK : X.K = W.K) (ha : DE W X E a fa) (hb : DE W X E b fb) (hs : PlainIx b) : DE W X E (.Subscript a b pos) (eOp ixG fa fb) := by
  obtain ⟨ta, pa, qa⟩ := ha.ex
  obtain ⟨tb, pb, qb⟩ := hb.ex
  refine .mk (pe_ix ix_seq pa pb hs) fun Rs F H rr sg env st Q hH hE hP => eOp_post qa qb ?_ hH hE hP
  intro Rs F H rr st x y dx dy Q E h kx ky hP
  have lists : ∀ i, y = .int i → (match lstOf st dx with
    | some ds => R.of ((atI ds i).map fun x => (x, st))
    | none => (.bad : R (D × Store))) = ixG st dx dy → rIxL X.K x y H Q := fun i ey eq => by
    rw [← eq] at hP
    split at hP
    · rename_i ds e1
      obtain ⟨p, vs, rfl, h1, k1⟩ := lstOf_ok h kx e1
      cases e2 : atI ds i with
      | none => rw [e2] at hP; exact hP.elim
      | some d =>
        rw [e2] at hP
        obtain ⟨v, e3, k⟩ := k1.atI e2
        exact ⟨p, vs, i, v, rfl, ey, .of h1, e3, onE_here h k hP⟩
    · exact hP.elim
  cases ky with
  | int i =>
    cases kx with
    | @tup p vs ds q k1 =>
      unfold ixG at hP
      simp only at hP
      cases e2 : atI ds i with
      | none => rw [e2] at hP; exact hP.elim
      | some d =>
        rw [e2] at hP
        obtain ⟨v, e3, k⟩ := k1.atI e2
        exact .inr (.inl ⟨p, vs, i, v, rfl, rfl, .of (h.sF _ _ q), e3, onE_here h k hP⟩)
    | str s hs hl =>
      unfold ixG at hP
      simp only at hP
      cases e2 : atI s i with
      | none => rw [e2] at hP; exact hP.elim
      | some c =>
        rw [e2] at hP
        have hc : c < 128 := by
          obtain ⟨j, _, e3, _⟩ := atI_get e2
          exact of_decide_eq_true (List.all_eq_true.mp hs c (List.mem_of_getElem? e3))
        exact .inr (.inr ⟨_, i, c, rfl, rfl, by rw [len_mk]; exact lim_line hl, e2, onE_here h (.str [c] (by simp [hc]) (by simp [LIM])) hP⟩)
    | non => exact .inl (lists _ rfl rfl)
    | bl b => exact .inl (lists _ rfl rfl)
    | int b => exact .inl (lists _ rfl rfl)
    | lst q k => exact .inl (lists _ rfl rfl)
    | ref q => exact .inl (lists _ rfl rfl)
    | scr q => exact .inl (lists _ rfl rfl)
    | exn0 => exact .inl (lists _ rfl rfl)
    | exn1 q => exact .inl (lists _ rfl rfl)
  | _ => cases kx <;> exact hP.elim
/-- a part of a slice -/
def poNone : Env → Store → R (Option Int × Store) := fun _ st => .ok (none, st)
def poSome (f : EV) : Env → Store → R (Option Int × Store) := fun env st => (f env st).bind fun a => match a.1 with
  | .int i => .ok (some i, a.2)
  | _ => .bad
def DP (W : Wd) (X : Cx) (E : XK) (e : Option Expr) (f : Env → Store → R (Option Int × Store)) : Prop := ∃ t, PO X e t ∧ ∀ Rs F H r sg env st (Q : Option Int → Hp → Prop), Holds W Rs F H r st → EnvOk F r sg env →
  PostX W Rs F r (f env st) (fun a => ∀ F' H' r', Same F F' → Ext r r' → Holds W Rs F' H' r' a.2 → Q a.1 H') E → t sg H Q
theorem dp_none : DP W X E none poNone := ⟨_, po_none, fun Rs F H r sg env st Q hH hE hP => hP F H r (Same.refl _) (Ext.refl _) hH⟩
theorem dp_some {e : Expr} {f : EV} (h : DE W X E e f) : DP W X E (some e) (poSome f) := by
  obtain ⟨t, p, q⟩ := h.ex
  refine ⟨_, po_some p, fun Rs F H r sg env st Q hH hE hP => ?_⟩
  refine q Rs F H r sg env st _ hH hE (bindX hP fun a ea z F1 H1 r1 v1 s1 x1 h1 k1 => ?_)
  obtain ⟨d, st1⟩ := a
  cases k1 with
  | int i => exact ⟨i, rfl, z F1 H1 r1 s1 x1 h1⟩
  | _ => exact z.elim
/-- what xs[lo:hi] is -/
def cutD {A : Type} (xs : List A) (lo hi : Option Int) : List A := (xs.drop (HT.sIx xs.length 0 lo)).take (HT.sIx xs.length xs.length hi - HT.sIx xs.length 0 lo)
theorem cutD_le {A : Type} (xs : List A) (lo hi : Option Int) : (cutD xs lo hi).length ≤ xs.length := by
  unfold cutD
  rw [List.length_take, List.length_drop]
  omega
theorem Reps.cut {F : Hp} {r : List Addr} {vs : List V} {ds : List D} (h : Reps F r vs ds) (lo hi : Option Int) : Reps F r (cutV vs lo hi) (cutD ds lo hi) := by
  unfold cutV cutD
  rw [h.length]
  exact (h.drop _).take _
def slG (m : Bool) (st : Store) (d : D) (lo hi : Option Int) : R (D × Store) := match d with
  | .tup ds => .ok (.tup (cutD ds lo hi), st)
  | .str s => .ok (.str (cutD s lo hi), st)
  | d => match lstOf st d with
    | some ds => newL m (cutD ds lo hi) st
    | none => .bad
def eSl (m : Bool) (f : EV) (l h : Env → Store → R (Option Int × Store)) : EV := fun env st => (f env st).bind fun a => (l env a.2).bind fun b => (h env b.2).bind fun c => slG m c.2 a.1 b.1 c.1
theorem cutS_mk (s : List Nat) (lo hi : Option Int) : cutS ⟨s.toArray⟩ lo hi = ⟨(cutD s lo hi).toArray⟩ := by
  unfold cutS cutD
  simp [Str.length]
theorem cut_whole {A : Type} (xs : List A) (lo hi : Option Int) (h : HT.sIx xs.length 0 lo = 0 ∧ HT.sIx xs.length xs.length hi = xs.length) : cutD xs lo hi = xs := by
  unfold cutD
  rw [h.1, h.2]
  simp
theorem de_sl (m : Bool) {e : Expr} {lo hi : Option Expr} {f : EV} {l h : Env → Store → R (Option Int × Store)} {p2 pos : Pos} (hK : X.K = W.K) (he : DE W X E e f) (hl : DP W X E lo l) (hu : DP W X E hi h) : DE W X E (.Subscript e (.Slice lo hi none p2) pos) (eSl m f l h) := by
  obtain ⟨t, p, q⟩ := he.ex
  obtain ⟨tl, pl, ql⟩ := hl
  obtain ⟨tu, pu, qu⟩ := hu
  refine .mk (pe_slice (sl_tupA.or (sl_str.or sl_list)) p pl pu) fun Rs F H rr sg env st Q hH hE hP => ?_
  refine q Rs F H rr sg env st _ hH hE (bindX hP fun a ea z F1 H1 r1 v1 s1 x1 h1 k1 => ?_)
  refine ql Rs F1 H1 r1 sg env a.2 _ h1 (hE.mono s1 x1) (bindX (Post.later s1 x1 (res := (l env a.2).bind _) z) fun b eb z2 F2 H2 r2 s2 x2 h2 => ?_)
  refine qu Rs F2 H2 r2 sg env b.2 _ h2 (hE.mono (s1.trans s2) (x1.trans x2)) (bindX (Post.later s2 x2 (res := (h env b.2).bind _) z2) fun c ec z3 F3 H3 r3 s3 x3 h3 => ?_)
  replace z3 := Post.later s3 x3 z3
  replace k1 := k1.mono (s2.trans s3) (x2.trans x3)
  have lists : (match lstOf c.2 a.1 with
    | some ds => newL m (cutD ds b.1 c.1) c.2
    | none => (.bad : R (D × Store))) = slG m c.2 a.1 b.1 c.1 → rSlL X.K v1 b.1 c.1 H3 Q := fun eq => by
    rw [← eq] at z3
    split at z3
    · rename_i ds e1
      obtain ⟨p, vs, rfl, h4, k4⟩ := lstOf_ok h3 k1 e1
      exact ⟨p, vs, rfl, .of h4, fun pp hp => newL_post h3 (k4.cut _ _) z3 hp⟩
    · exact z3.elim
  obtain ⟨d, st1⟩ := a
  cases k1 with
  | @tup p vs ds q1 k1 =>
    refine .inl ⟨p, vs, rfl, .of (h3.sF _ _ q1), fun hw => ?_, fun _ pp hp => ?_⟩
    · have e : cutD ds b.1 c.1 = ds := cut_whole ds _ _ (by rw [← k1.length]; exact hw)
      refine onE_here h3 (.tup q1 k1) ?_
      have z4 : onE W Rs F3 r3 Q (.tup (cutD ds b.1 c.1), c.2) := z3
      rw [e] at z4; exact z4
    · exact tup_post h3 (k1.cut _ _) z3 hp
  | str s hs hl =>
    refine .inr (.inl ⟨_, rfl, by rw [len_mk]; exact lim_line hl, ?_⟩)
    rw [cutS_mk]
    refine onE_here h3 (.str _ ?_ (Nat.le_trans (cutD_le _ _ _) hl)) z3
    rw [List.all_eq_true] at hs ⊢
    intro x hx
    exact hs x (List.mem_of_mem_drop (List.mem_of_mem_take hx))
  | non => exact .inr (.inr (lists rfl))
  | bl b => exact .inr (.inr (lists rfl))
  | int b => exact .inr (.inr (lists rfl))
  | lst q k => exact .inr (.inr (lists rfl))
  | ref q => exact .inr (.inr (lists rfl))
  | scr q => exact .inr (.inr (lists rfl))
  | exn0 => exact .inr (.inr (lists rfl))
  | exn1 q => exact .inr (.inr (lists rfl))
/-- xs[::-1] of a list -/
def eRevL (m : Bool) (f : EV) : EV := fun env st => (f env st).bind fun a => match lstOf a.2 a.1 with
  | some ds => newL m ds.reverse a.2
  | none => .bad
theorem de_revL (m : Bool) {e : Expr} {f : EV} {k : Nat} {p1 p2 p3 pos : Pos} (he : DE W X E e f) : DE W X E (.Subscript e (.Slice none none (some (.UnaryOp .USub (.Constant (.int 1) k p1) p2)) p3) pos) (eRevL m f) := by
  obtain ⟨t, p, q⟩ := he.ex
  refine .mk (pe_revL p) fun Rs F H rr sg env st Q hH hE hP => ?_
  refine q Rs F H rr sg env st _ hH hE (bindX hP fun a ea z F1 H1 r1 v1 s1 x1 h1 k1 => ?_)
  cases e : lstOf a.2 a.1 with
  | none => rw [e] at z; exact z.elim
  | some ds =>
    rw [e] at z
    obtain ⟨p, vs, rfl, h4, k4⟩ := lstOf_ok h1 k1 e
    exact ⟨p, vs, rfl, .of h4, fun pp hp => newL_post h1 k4.reverse (Post.later s1 x1 z) hp⟩

/-! ### functions -/
abbrev GA := Store → List D → R (D × Store)
def DC (W : Wd) (X : Cx) (v : Value) (g : GA) : Prop := ∃ r, CallR X v r ∧ ∀ Rs F H rr st vs ds Q E, Holds W Rs F H rr st → Reps F rr vs ds → Post W Rs F rr (g st ds) Q E → r vs H Q
def eB (g : GA) (ga : AV) : EV := fun env st => (ga env st).bind fun a => g a.2 a.1
section
variable {x : Str} {e : Expr} {es : List Expr} {p pos : Pos} {ga : AV} {g : GA} {id T : String}
theorem de_callB (hc : DC W X (.builtin id) g) (hg : Gl X x) (hm : X.mg x = none) (hv : bootBuiltins x = some (.builtin id)) (ha : DA W X E (e :: es) ga) (h : ∀ {r : List V → Hp → VK → Prop} {t : TA}, CallR X (.builtin id) r → PA X (e :: es) t → PE X (.Call (.Name x p) (e :: es) [] pos) (tCB r t)) :
    DE W X E (.Call (.Name x p) (e :: es) [] pos) (eB g ga) := by
  obtain ⟨r, hr, qr⟩ := hc
  obtain ⟨t, pa, q⟩ := ha.ex
  refine .mk (h hr pa) fun Rs F H rr sg env st Q hH hE hP => ?_
  exact q Rs F H rr sg env st _ hH hE (bindX hP fun a ea z F1 H1 r1 vs s1 x1 h1 k1 => qr Rs F1 H1 r1 a.2 vs a.1 Q E h1 k1 (Post.later s1 x1 z))
theorem de_callTy (hc : DC W X (.type T) g) (hg : Gl X x) (hm : X.mg x = none) (hv : bootBuiltins x = some (.type T)) (ha : DA W X E (e :: es) ga) (h : ∀ {r : List V → Hp → VK → Prop} {t : TA}, CallR X (.type T) r → PA X (e :: es) t → PE X (.Call (.Name x p) (e :: es) [] pos) (tCB r t)) :
    DE W X E (.Call (.Name x p) (e :: es) [] pos) (eB g ga) := by
  obtain ⟨r, hr, qr⟩ := hc
  obtain ⟨t, pa, q⟩ := ha.ex
  refine .mk (h hr pa) fun Rs F H rr sg env st Q hH hE hP => ?_
  exact q Rs F H rr sg env st _ hH hE (bindX hP fun a ea z F1 H1 r1 vs s1 x1 h1 k1 => qr Rs F1 H1 r1 a.2 vs a.1 Q E h1 k1 (Post.later s1 x1 z))
end
def lenG : GA := fun st ds => match ds with
  | [.str s] => .ok (.int s.length, st)
  | [.tup ds] => .ok (.int ds.length, st)
  | [.scr ns] => .ok (.int ns.length, st)
  | [d] => match lstOf st d with
    | some ds => .ok (.int ds.length, st)
    | none => .bad
  | _ => .bad
theorem dc_len : DC W X (.builtin "len") lenG := ⟨_, call_len, fun Rs F H rr st vs ds Q E h k hP => by
  match vs, ds, k with
  | [v], [d], .cons k .nil =>
    have lists : (match lstOf st d with
      | some ds => .ok (.int ds.length, st)
      | none => (.bad : R (D × Store))) = lenG st [d] → LenV X.K v H (match lstOf st d with | some ds => ds.length | none => 0) ∧ Q (.int (match lstOf st d with | some ds => (ds.length : Nat) | none => 0 : Nat)) H := fun eq => by
      rw [← eq] at hP
      split at hP
      · rename_i ds e1
        obtain ⟨p, vs, rfl, h1, k1⟩ := lstOf_ok h k e1
        exact ⟨.inl ⟨vs, .of h1, k1.length.symm⟩, onE_here h (.int _) hP⟩
      · exact hP.elim
    cases k with
    | str s hs hl => exact ⟨_, _, rfl, ⟨by rw [len_mk]; exact lim_line hl, (len_mk s).symm⟩, onE_here h (.int _) hP⟩
    | tup q k1 => exact ⟨_, _, rfl, .inr ⟨_, .of (h.sF _ _ q), k1.length.symm⟩, onE_here h (.int _) hP⟩
    | @scr a ns q => exact ⟨_, ns.length, rfl, .inl ⟨_, q.sq h.sF, by simp⟩, onE_here h (.int _) hP⟩
    | non => exact ⟨_, _, rfl, lists rfl⟩
    | bl b => exact ⟨_, _, rfl, lists rfl⟩
    | int b => exact ⟨_, _, rfl, lists rfl⟩
    | lst q k => exact ⟨_, _, rfl, lists rfl⟩
    | ref q => exact ⟨_, _, rfl, lists rfl⟩
    | exn0 => exact ⟨_, _, rfl, lists rfl⟩
    | exn1 q => exact ⟨_, _, rfl, lists rfl⟩
  | [], [], _ => exact hP.elim
  | _ :: _ :: _, d :: e :: _, _ => cases d <;> exact hP.elim⟩
/-- all ints -/
def intsOf : List D → Option (List Int)
  | [] => some []
  | .int i :: r => match intsOf r with
    | some l => some (i :: l)
    | none => none
  | _ => none
theorem intsOf_ok {F : Hp} {r : List Addr} : ∀ {ds : List D} {vs : List V} {ns : List Int}, Reps F r vs ds → intsOf ds = some ns → vs = ns.map V.int
  | [], _, _, .nil, e => by cases e; rfl
  | .int i :: ds, _, ns, .cons (.int _) k, e => by
    unfold intsOf at e
    cases q : intsOf ds with
    | none => rw [q] at e; cases e
    | some l =>
      rw [q] at e
      cases e
      rw [intsOf_ok k q]; rfl
  | .non :: _, _, _, _, e => by cases e
  | .bl _ :: _, _, _, _, e => by cases e
  | .str _ :: _, _, _, _, e => by cases e
  | .tup _ :: _, _, _, _, e => by cases e
  | .lst _ :: _, _, _, _, e => by cases e
  | .ref _ :: _, _, _, _, e => by cases e
  | .scr _ :: _, _, _, _, e => by cases e
  | .exn _ _ :: _, _, _, _, e => by cases e
@[simp] theorem intsOf_map (ns : List Int) : intsOf (ns.map D.int) = some ns := by
  induction ns with
  | nil => rfl
  | cons n ns ih => simp [intsOf, ih]
/-- the greatest, the least of some -/
def maxL : List Int → Int
  | [] => 0
  | [a] => a
  | a :: b :: r => max a (maxL (b :: r))
def minL : List Int → Int
  | [] => 0
  | [a] => a
  | a :: b :: r => min a (minL (b :: r))
theorem maxL_mem : ∀ {l : List Int}, l ≠ [] → maxL l ∈ l ∧ ∀ y ∈ l, y ≤ maxL l
  | [], h => absurd rfl h
  | [a], _ => by simp [maxL]
  | a :: b :: r, _ => by
    obtain ⟨h1, h2⟩ := maxL_mem (l := b :: r) (by simp)
    unfold maxL
    refine ⟨?_, fun y hy => ?_⟩
    · by_cases e : a ≤ maxL (b :: r)
      · rw [Int.max_eq_right e]; exact List.mem_cons_of_mem _ h1
      · rw [Int.max_eq_left (by omega)]; exact List.mem_cons_self
    · rcases List.mem_cons.mp hy with rfl | hy
      · omega
      · have := h2 y hy
        omega
theorem minL_mem : ∀ {l : List Int}, l ≠ [] → minL l ∈ l ∧ ∀ y ∈ l, minL l ≤ y
  | [], h => absurd rfl h
  | [a], _ => by simp [minL]
  | a :: b :: r, _ => by
    obtain ⟨h1, h2⟩ := minL_mem (l := b :: r) (by simp)
    unfold minL
    refine ⟨?_, fun y hy => ?_⟩
    · by_cases e : a ≤ minL (b :: r)
      · rw [Int.min_eq_left e]; exact List.mem_cons_self
      · rw [Int.min_eq_right (by omega)]; exact List.mem_cons_of_mem _ h1
    · rcases List.mem_cons.mp hy with rfl | hy
      · omega
      · have := h2 y hy
        omega
def maxG : GA := fun st ds => match ds with
  | [.int i, .int j] => .ok (.int (max i j), st)
  | [d] => match (lstOf st d).bind intsOf with
    | some ns => if ns ≠ [] then .ok (.int (maxL ns), st) else .bad
    | none => .bad
  | _ => .bad
def minG : GA := fun st ds => match ds with
  | [.int i, .int j] => .ok (.int (min i j), st)
  | [d] => match (lstOf st d).bind intsOf with
    | some ns => if ns ≠ [] then .ok (.int (minL ns), st) else .bad
    | none => .bad
  | _ => .bad
theorem dc_max (hc : X.calm = true) : DC W X (.builtin "max") maxG := ⟨_, (call_max2 hc).or (cr_max hc), fun Rs F H rr st vs ds Q E h k hP => by
  unfold maxG at hP
  split at hP
  · rename_i i j
    match k with
    | .cons (.int _) (.cons (.int _) .nil) =>
      refine .inl ⟨i, j, rfl, ?_⟩
      have e : (if j > i then j else i) = max i j := by split <;> omega
      rw [e]
      exact onE_here h (.int _) hP
  · rename_i d
    match k with
    | .cons k .nil =>
      cases e1 : lstOf st d with
      | none => rw [e1] at hP; exact hP.elim
      | some ds =>
        rw [e1] at hP
        simp only [Option.bind_some] at hP
        split at hP
        · rename_i ns e2
          split at hP
          · rename_i hne
            obtain ⟨p, vs, rfl, h1, k1⟩ := lstOf_ok h k e1
            have ev := intsOf_ok k1 e2
            subst ev
            refine .inr ⟨p, ns, rfl, .of h1, List.length_pos_iff.mpr hne, fun m hm hmax => ?_⟩
            obtain ⟨m1, m2⟩ := maxL_mem hne
            have : m = maxL ns := by
              have a := m2 m hm
              have b := hmax _ m1
              omega
            rw [this]
            exact onE_here h (.int _) hP
          · exact hP.elim
        · exact hP.elim
  · exact hP.elim⟩
theorem dc_min (hc : X.calm = true) : DC W X (.builtin "min") minG := ⟨_, (call_min2 hc).or (cr_min hc), fun Rs F H rr st vs ds Q E h k hP => by
  unfold minG at hP
  split at hP
  · rename_i i j
    match k with
    | .cons (.int _) (.cons (.int _) .nil) =>
      refine .inl ⟨i, j, rfl, ?_⟩
      have e : (if j < i then j else i) = min i j := by split <;> omega
      rw [e]
      exact onE_here h (.int _) hP
  · rename_i d
    match k with
    | .cons k .nil =>
      cases e1 : lstOf st d with
      | none => rw [e1] at hP; exact hP.elim
      | some ds =>
        rw [e1] at hP
        simp only [Option.bind_some] at hP
        split at hP
        · rename_i ns e2
          split at hP
          · rename_i hne
            obtain ⟨p, vs, rfl, h1, k1⟩ := lstOf_ok h k e1
            have ev := intsOf_ok k1 e2
            subst ev
            refine .inr ⟨p, ns, rfl, .of h1, List.length_pos_iff.mpr hne, fun m hm hmin => ?_⟩
            obtain ⟨m1, m2⟩ := minL_mem hne
            have : m = minL ns := by
              have a := m2 m hm
              have b := hmin _ m1
              omega
            rw [this]
            exact onE_here h (.int _) hP
          · exact hP.elim
        · exact hP.elim
  · exact hP.elim⟩
def intG : GA := fun st ds => match ds with
  | [.int i] => .ok (.int i, st)
  | [.bl b] => .ok (.int (if b then 1 else 0), st)
  | _ => .bad
theorem dc_int : DC W X (.type "int") intG := ⟨_, call_int1, fun Rs F H rr st vs ds Q E h k hP => by
  unfold intG at hP
  split at hP
  · match k with
    | .cons (.int i) .nil => exact .inl ⟨i, rfl, onE_here h (.int _) hP⟩
  · match k with
    | .cons (.bl b) .nil => exact .inr ⟨b, rfl, onE_here h (.int _) hP⟩
  · exact hP.elim⟩
/-- the digits of a number -/
def strG : GA := fun st ds => match ds with
  | [.int i] => if 0 ≤ i ∧ i < 10 ^ 18 then .ok (.str (TL.numL i.toNat), st) else .bad
  | _ => .bad
theorem numL_ascii (n : Nat) : (TL.numL n).all (fun c => decide (c < 128)) = true := by
  rw [List.all_eq_true]
  intro c hc
  have := TL.numL_digits n
  have h : ¬ (c < 48 ∨ 57 < c) := fun z => TL.numL_free (n := n) z hc
  simp only [decide_eq_true_eq]
  omega
theorem dc_str : DC W X (.type "str") strG := ⟨_, call_str_int, fun Rs F H rr st vs ds Q E h k hP => by
  unfold strG at hP
  split at hP
  · split at hP
    · rename_i i hi
      match k with
      | .cons (.int i) .nil =>
        refine ⟨i, rfl, ?_, ?_⟩
        · have : i.natAbs < 2 ^ 64 := by omega
          exact Nat.lt_trans (PySem.Flt.log2_lt_of (by decide) this) (by decide)
        · have e : TL.tl (Str.ofString (toString i)) = TL.numL i.toNat := by
            have := TL.tl_num i.toNat
            rw [Int.toNat_of_nonneg hi.1] at this
            exact this
          refine onE_here h ?_ hP
          refine rep_str e ?_ F rr
          rw [numL_ascii]
          have := TL.numL_len (n := i.toNat) (k := 18) (by decide) (by omega)
          rw [Bool.true_and, decide_eq_true_eq]; exact Nat.le_trans this (by decide)
    · exact hP.elim
  · exact hP.elim⟩
def ordG : GA := fun st ds => match ds with
  | [.str [c]] => .ok (.int c, st)
  | _ => .bad
theorem dc_ord : DC W X (.builtin "ord") ordG := ⟨_, call_ord, fun Rs F H rr st vs ds Q E h k hP => by
  unfold ordG at hP
  split at hP
  · cases k with
    | cons k k2 =>
      cases k2
      cases k
      exact ⟨_, rfl, rfl, onE_here h (.int _) hP⟩
  · exact hP.elim⟩
def listG (m : Bool) : GA := fun st ds => match ds with
  | [.tup ds] => newL m ds st
  | [.scr ns] => newL m (ns.map .int) st
  | [d] => match lstOf st d with
    | some ds => newL m ds st
    | none => .bad
  | _ => .bad
theorem dc_list (m : Bool) : DC W X (.type "list") (listG m) := ⟨_, call_list_of, fun Rs F H rr st vs ds Q E h k hP => by
  unfold listG at hP
  split at hP
  · match k with
    | .cons (.tup q k) .nil => exact ⟨_, _, rfl, .inr (.of (h.sF _ _ q)), fun l hl => newL_post h k hP hl⟩
  · rename_i ns
    match k with
    | .cons (.scr q) .nil => exact ⟨_, _, rfl, .inl (q.sq h.sF), fun l hl => newL_post h (reps_ints ns) hP hl⟩
  · rename_i d _ _
    match k with
    | .cons k .nil =>
      split at hP
      · rename_i ds e1
        obtain ⟨p, vs, rfl, h1, k1⟩ := lstOf_ok h k e1
        exact ⟨p, vs, rfl, .inl (.of h1), fun l hl => newL_post h k1 hP hl⟩
      · exact hP.elim
  · exact hP.elim⟩
def tupG : GA := fun st ds => match ds with
  | [.tup ds] => .ok (.tup ds, st)
  | [d] => match lstOf st d with
    | some ds => .ok (.tup ds, st)
    | none => .bad
  | _ => .bad
theorem dc_tup : DC W X (.type "tuple") tupG := ⟨_, call_tuple_of, fun Rs F H rr st vs ds Q E h k hP => by
  unfold tupG at hP
  split at hP
  · match k with
    | .cons (.tup q k) .nil => exact ⟨_, _, rfl, .inr ⟨.of (h.sF _ _ q), onE_here h (.tup q k) hP⟩⟩
  · rename_i d _
    match k with
    | .cons k .nil =>
      split at hP
      · rename_i ds e1
        obtain ⟨p, vs, rfl, h1, k1⟩ := lstOf_ok h k e1
        exact ⟨p, vs, rfl, .inl ⟨.of h1, fun l hl => tup_post h k1 hP hl⟩⟩
      · exact hP.elim
  · exact hP.elim⟩
/-! ### isinstance of a built-in class -/
def tyOf (st : Store) : D → Option String
  | .non => some "NoneType"
  | .bl _ => some "bool"
  | .int _ => some "int"
  | .str _ => some "str"
  | .tup _ => some "tuple"
  | .lst _ => some "list"
  | .scr _ => some "list"
  | .exn _ _ => none
  | .ref n => match st[n]? with
    | some (.lst _) => some "list"
    | some (.dK _) => some "dict"
    | some (.dT _) => some "dict"
    | _ => none
theorem tyOf_ok {Rs F H : Hp} {r : List Addr} {st : Store} {v : V} {d : D} {t : String} {K : PySem.W.Frag} (h : Holds W Rs F H r st) (k : Rep F r v d) (e : tyOf st d = some t) : TyX K H v (.type t) := by
  cases k with
  | non => cases e; exact .base .non
  | bl b => cases e; exact .base (.bl b)
  | int b => cases e; exact .base (.int b)
  | str b => cases e; exact .base (.str _)
  | tup q k => cases e; exact .base (.tup (h.sF _ _ q))
  | lst q k => cases e; exact .base (.lst (h.sF _ _ q))
  | scr q =>
    cases e
    rcases q with ⟨o, q⟩ | q
    · exact .base (.frz (h.sF _ _ q))
    · exact .base (.lst (h.sF _ _ q))
  | exn0 => cases e
  | exn1 q => cases e
  | @ref a n q =>
    unfold tyOf at e
    simp only at e
    split at e
    · rename_i e1; cases e; obtain ⟨vs, q1, _⟩ := h.ob n a _ q e1; exact .base (.lst q1)
    · rename_i e1; cases e; obtain ⟨vs, q1, _⟩ := h.ob n a _ q e1; exact .base (.dK q1)
    · rename_i e1; cases e; obtain ⟨vs, q1, _⟩ := h.ob n a _ q e1; exact .base (.dT q1)
    · cases e
/-- whether the class t is T or under it -/
def subTy (t T : String) : Bool := t == T || (t == "bool" && T == "int")
def isG1 (T : String) : GA := fun st ds => match ds with
  | [d] => match tyOf st d with
    | some t => .ok (.bl (subTy t T), st)
    | none => .bad
  | _ => .bad
def eIs (T : String) (f : EV) : EV := fun env st => (f env st).bind fun a => isG1 T a.2 [a.1]
theorem kits {T : String} (hT : T = "int" ∨ T = "bool" ∨ T = "str" ∨ T = "tuple" ∨ T = "list" ∨ T = "dict") {st : Store} {d : D} {t : String} (e : tyOf st d = some t) {K : PySem.W.Frag} : PySem.W.kitOne K (.type t) (.type T) = some (subTy t T) := by
  have ht : t = "NoneType" ∨ t = "bool" ∨ t = "int" ∨ t = "str" ∨ t = "tuple" ∨ t = "list" ∨ t = "dict" := by
    cases d with
    | ref n =>
      unfold tyOf at e
      simp only at e
      split at e <;> cases e <;> simp
    | _ => cases e <;> simp
  refine kit_ty ?_
  rcases hT with rfl | rfl | rfl | rfl | rfl | rfl <;> rcases ht with rfl | rfl | rfl | rfl | rfl | rfl | rfl <;> decide +kernel
theorem de_isinst {x y : Str} {e : Expr} {f : EV} {T : String} {p p2 pos : Pos} (hT : T = "int" ∨ T = "bool" ∨ T = "str" ∨ T = "tuple" ∨ T = "list" ∨ T = "dict") (he : DE W X E e f) (hy : PE X (.Name y p2) (tC (.ty T)))
    (h : ∀ {r : List V → Hp → VK → Prop} {t : TA}, CallR X (.builtin "isinstance") r → PA X [e, .Name y p2] t → PE X (.Call (.Name x p) [e, .Name y p2] [] pos) (tCB r t))
    (h2 : ∀ {te : TE}, PE X e te → PA X [e, .Name y p2] (tCons te (tCons (tC (.ty T)) tNil))) : DE W X E (.Call (.Name x p) [e, .Name y p2] [] pos) (eIs T f) := by
  obtain ⟨t, p, q⟩ := he.ex
  refine .mk (h call_isi (h2 p)) fun Rs F H rr sg env st Q hH hE hP => ?_
  refine q Rs F H rr sg env st _ hH hE (bindX hP fun a ea z F1 H1 r1 v1 s1 x1 h1 k1 => ?_)
  unfold isG1 at z
  simp only at z
  split at z
  · rename_i t e1
    exact ⟨v1, .ty T, .type t, .type T, _, rfl, .ty T, tyOf_ok h1 k1 e1, kits hT e1, z F1 H1 r1 _ s1 x1 h1 (.bl _)⟩
  · exact z.elim
end
end Dl
/-! ## DlMt -/
/-! Methods of built-in types. -/
namespace Dl
open PySem L2

section
variable {W : Wd} {X : Cx} {E : XK}
abbrev GM := Store → D → List D → R (D × Store)
def DM (W : Wd) (X : Cx) (id : String) (g : GM) : Prop := ∃ r, MtR X id r ∧ ∀ Rs F H rr st v d vs ds Q E, Holds W Rs F H rr st → Rep F rr v d → Reps F rr vs ds → Post W Rs F rr (g st d ds) Q E → r v vs H Q
/-- the type at which a method is looked up -/
def tyM (st : Store) : D → Option String
  | .str _ => some "str"
  | .lst _ => some "list"
  | .scr _ => some "list"
  | .ref n => match st[n]? with
    | some (.lst _) => some "list"
    | some (.dK _) => some "dict"
    | some (.dT _) => some "dict"
    | _ => none
  | _ => none
theorem tyM_ok {Rs F H : Hp} {r : List Addr} {st : Store} {v : V} {d : D} {t : String} {K : PySem.W.Frag} (h : Holds W Rs F H r st) (k : Rep F r v d) (e : tyM st d = some t) : tyV K t v H := by
  cases k with
  | str => cases e; rfl
  | lst q k => cases e; exact .inl ⟨rfl, _, .of (h.sF _ _ q)⟩
  | @scr a ns q => cases e; exact .inl ⟨rfl, _, q.sq h.sF⟩
  | @ref a n q =>
    unfold tyM at e
    simp only at e
    split at e
    · rename_i e1; cases e; obtain ⟨vs, q1, _⟩ := h.ob _ a _ q e1; exact .inl ⟨rfl, _, .of q1⟩
    · rename_i e1; cases e; obtain ⟨vs, q1, _⟩ := h.ob _ a _ q e1; exact .inr (.inr (.inl ⟨rfl, .inl ⟨_, q1⟩⟩))
    · rename_i e1; cases e; obtain ⟨vs, q1, _⟩ := h.ob _ a _ q e1; exact .inr (.inr (.inl ⟨rfl, .inr ⟨_, q1⟩⟩))
    · cases e
  | _ => cases e
def eMt (T : String) (g : GM) (fo : EV) (ga : AV) : EV := fun env st => (fo env st).bind fun o => if tyM o.2 o.1 = some T then (ga env o.2).bind fun a => g a.2 o.1 a.1 else .bad
section
variable {o e : Expr} {es : List Expr} {fo : EV} {ga : AV} {name : Str} {apos cpos : Pos} {T id : String} {g : GM}
theorem de_mt (pa : PlainAttrs T) (slot : Slot T name id) (hty : typeOf (.builtin id) = pure (.type "method_descriptor")) (hm : DM W X id g) (ho : DE W X E o fo) (ha : DA W X E (e :: es) ga)
    (h : ∀ {r : V → List V → Hp → VK → Prop} {to : TE} {t : TA}, MtR X id r → PE X o to → PA X (e :: es) t → PE X (.Call (.Attribute o name apos) (e :: es) [] cpos) (tBM X.K T r to t)) :
    DE W X E (.Call (.Attribute o name apos) (e :: es) [] cpos) (eMt T g fo ga) := by
  obtain ⟨r, hr, qr⟩ := hm
  obtain ⟨to, po, qo⟩ := ho.ex
  obtain ⟨t, pa, qa⟩ := ha.ex
  refine .mk (h hr po pa) fun Rs F H rr sg env st Q hH hE hP => ?_
  refine qo Rs F H rr sg env st _ hH hE (bindX hP fun b eb z F1 H1 r1 v1 s1 x1 h1 k1 => ?_)
  split at z
  · rename_i ht
    refine ⟨tyM_ok h1 k1 ht, ?_⟩
    refine qa Rs F1 H1 r1 sg env b.2 _ h1 (hE.mono s1 x1) (bindX (Post.later s1 x1 z) fun c ec z2 F2 H2 r2 vs s2 x2 h2 k2 => ?_)
    exact qr Rs F2 H2 r2 c.2 v1 b.1 vs c.1 Q E h2 (k1.mono s2 x2) k2 (Post.later s2 x2 z2)
  · exact z.elim
theorem de_mt0 (pa : PlainAttrs T) (slot : Slot T name id) (hty : typeOf (.builtin id) = pure (.type "method_descriptor")) (hm : DM W X id g) (ho : DE W X E o fo)
    (h : ∀ {r : V → List V → Hp → VK → Prop} {to : TE}, MtR X id r → PE X o to → PE X (.Call (.Attribute o name apos) [] [] cpos) (tBM0 X.K T r to)) :
    DE W X E (.Call (.Attribute o name apos) [] [] cpos) (eMt T g fo aNil) := by
  obtain ⟨r, hr, qr⟩ := hm
  obtain ⟨to, po, qo⟩ := ho.ex
  refine .mk (h hr po) fun Rs F H rr sg env st Q hH hE hP => ?_
  refine qo Rs F H rr sg env st _ hH hE (bindX hP fun b eb z F1 H1 r1 v1 s1 x1 h1 k1 => ?_)
  split at z
  · rename_i ht
    exact ⟨tyM_ok h1 k1 ht, qr Rs F1 H1 r1 b.2 v1 b.1 [] [] Q E h1 k1 .nil (Post.later s1 x1 z)⟩
  · exact z.elim
end
/-! ### lists -/
def appendG : GM := fun st o ds => match o, ds with
  | .ref n, [d] => match st[n]? with
    | some (.lst xs) => if xs.length < LIM then .ok (.non, st.set n (.lst (xs ++ [d]))) else .bad
    | _ => .bad
  | _, _ => .bad
theorem dm_append : DM W X "list.append" appendG := ⟨_, mt_append, fun Rs F H rr st v d vs ds Q E h ko k hP => by
  unfold appendG at hP
  split at hP
  · split at hP
    · rename_i n d xs e1
      split at hP
      · rename_i hl
        cases ko with
        | @ref a n q =>
          match k with
          | .cons k .nil =>
            obtain ⟨ws, q1, k1⟩ := h.ob _ a _ q e1
            exact ⟨a, ws, _, rfl, rfl, q1, by rw [k1.length]; exact lim_lt (Nat.le_of_lt hl), onE_here (h.write (b := .lst _) q ⟨_, upd_same, Reps.snoc k1 k⟩) .non hP⟩
      · exact hP.elim
    · exact hP.elim
  · exact hP.elim⟩
def clearG : GM := fun st o ds => match o, ds with
  | .ref n, [] => match st[n]? with
    | some (.lst xs) => .ok (.non, st.set n (.lst []))
    | _ => .bad
  | _, _ => .bad
theorem dm_clear : DM W X "list.clear" clearG := ⟨_, mt_clear, fun Rs F H rr st v d vs ds Q E h ko k hP => by
  unfold clearG at hP
  split at hP
  · split at hP
    · rename_i n xs e1
      cases ko with
      | @ref a n q =>
        match k with
        | .nil =>
          obtain ⟨ws, q1, k1⟩ := h.ob _ a _ q e1
          exact ⟨a, ws, rfl, rfl, q1, onE_here (h.write (b := .lst _) q ⟨_, upd_same, .nil⟩) .non hP⟩
    · exact hP.elim
  · exact hP.elim⟩
def extendG : GM := fun st o ds => match o, ds with
  | .ref n, [d] => match st[n]?, lstOf st d with
    | some (.lst xs), some zs => if xs.length + zs.length ≤ LIM then .ok (.non, st.set n (.lst (xs ++ zs))) else .bad
    | _, _ => .bad
  | _, _ => .bad
theorem dm_extend : DM W X "list.extend" extendG := ⟨_, mt_extend, fun Rs F H rr st v d vs ds Q E h ko k hP => by
  unfold extendG at hP
  split at hP
  · split at hP
    · rename_i n d _ _ xs zs e1 e2
      split at hP
      · rename_i hl
        cases ko with
        | @ref a n q =>
          match k with
          | .cons k .nil =>
            obtain ⟨ws, q1, k1⟩ := h.ob _ a _ q e1
            obtain ⟨b, us, rfl, q2, k2⟩ := lstOf_ok h k e2
            exact ⟨a, b, ws, us, rfl, rfl, q1, q2, by rw [k1.length, k2.length]; exact lim_line hl, onE_here (h.write (b := .lst _) q ⟨_, upd_same, Reps.append k1 k2⟩) .non hP⟩
      · exact hP.elim
    · exact hP.elim
  · exact hP.elim⟩
def popG : GM := fun st o ds => match o, ds with
  | .ref n, [] => match st[n]? with
    | some (.lst xs) => match xs[xs.length - 1]? with
      | some y => .ok (y, st.set n (.lst xs.dropLast))
      | none => .bad
    | _ => .bad
  | .ref n, [.int i] => match st[n]? with
    | some (.lst xs) => match ixN xs.length i with
      | some j => match xs[j]? with
        | some y => if -1000000 ≤ i ∧ i ≤ 1000000 then .ok (y, st.set n (.lst (xs.eraseIdx j))) else .bad
        | none => .bad
      | none => .bad
    | _ => .bad
  | _, _ => .bad
theorem Reps.dropLast {F : Hp} {r : List Addr} {vs : List V} {ds : List D} (h : Reps F r vs ds) : Reps F r vs.dropLast ds.dropLast := by
  rw [List.dropLast_eq_take, List.dropLast_eq_take, h.length]
  exact h.take _
theorem dm_pop : DM W X "list.pop" popG := ⟨_, MtR.or mt_pop mt_popAt, fun Rs F H rr st v d vs ds Q E h ko k hP => by
  unfold popG at hP
  split at hP
  · split at hP
    · rename_i n xs e1
      split at hP
      · rename_i y e2
        cases ko with
        | @ref a n q =>
          match k with
          | .nil =>
            obtain ⟨ws, q1, k1⟩ := h.ob _ a _ q e1
            obtain ⟨z, e3, k3⟩ := k1.get e2
            exact .inl ⟨a, ws, z, rfl, rfl, q1, by rw [k1.length]; exact e3, onE_here (h.write (b := .lst _) q ⟨_, upd_same, k1.dropLast⟩) k3 hP⟩
      · exact hP.elim
    · exact hP.elim
  · split at hP
    · rename_i n i xs e1
      split at hP
      · rename_i j e2
        split at hP
        · rename_i y e3
          split at hP
          · rename_i hb
            cases ko with
            | @ref a n q =>
              match k with
              | .cons (.int _) .nil =>
                obtain ⟨ws, q1, k1⟩ := h.ob _ a _ q e1
                obtain ⟨z, e4, k4⟩ := k1.get e3
                exact .inr ⟨a, ws, _, j, z, rfl, rfl, q1, by omega, by omega, by rw [k1.length]; exact (ixN_seq e2).1, e4, onE_here (h.write (b := .lst _) q ⟨_, upd_same, k1.eraseIdx _⟩) k4 hP⟩
          · exact hP.elim
        · exact hP.elim
      · exact hP.elim
    · exact hP.elim
  · exact hP.elim⟩

/-! ### texts -/
def asciiS (s : List Nat) : Bool := s.all fun c => decide (c < 128)
def strsOf : List D → Option (List (List Nat))
  | [] => some []
  | .str s :: r => match strsOf r with
    | some l => some (s :: l)
    | none => none
  | _ => none
@[simp] theorem strsOf_map (ss : List (List Nat)) : strsOf (ss.map D.str) = some ss := by
  induction ss with
  | nil => rfl
  | cons s ss ih => simp [strsOf, ih]
theorem strsOf_ok {F : Hp} {r : List Addr} : ∀ {ds : List D} {vs : List V} {ss : List (List Nat)}, Reps F r vs ds → strsOf ds = some ss → vs = (ss.map fun s => (⟨s.toArray⟩ : Str)).map V.str ∧ ∀ s ∈ ss, asciiS s = true
  | [], _, _, .nil, e => by cases e; exact ⟨rfl, fun _ h => nomatch h⟩
  | .str s :: ds, _, ns, .cons (.str _ h1 h2) k, e => by
    unfold strsOf at e
    cases q : strsOf ds with
    | none => rw [q] at e; cases e
    | some l =>
      rw [q] at e
      cases e
      obtain ⟨a, b⟩ := strsOf_ok k q
      rw [a]
      refine ⟨rfl, fun t ht => ?_⟩
      rcases List.mem_cons.mp ht with rfl | ht
      · exact h1
      · exact b t ht
  | .non :: _, _, _, _, e => by cases e
  | .bl _ :: _, _, _, _, e => by cases e
  | .int _ :: _, _, _, _, e => by cases e
  | .tup _ :: _, _, _, _, e => by cases e
  | .lst _ :: _, _, _, _, e => by cases e
  | .ref _ :: _, _, _, _, e => by cases e
  | .scr _ :: _, _, _, _, e => by cases e
  | .exn _ _ :: _, _, _, _, e => by cases e
def joinG : GM := fun st o ds => match o, ds with
  | .str s, [d] => match (lstOf st d).bind strsOf with
    | some ss => if (ss.map List.length).sum + ss.length * s.length ≤ LIM then .ok (.str (TL.joinL s ss), st) else .bad
    | none => .bad
  | _, _ => .bad
theorem joinL_len (s : List Nat) : ∀ ss : List (List Nat), (TL.joinL s ss).length ≤ (ss.map List.length).sum + ss.length * s.length
  | [] => by simp [TL.joinL]
  | [p] => by simp [TL.joinL]
  | p :: q :: r => by
    have ih := joinL_len s (q :: r)
    simp only [TL.joinL, List.length_append, List.map_cons, List.sum_cons, List.length_cons, Nat.succ_mul] at ih ⊢
    omega
theorem joinL_all {s : List Nat} (hs : asciiS s = true) : ∀ {ss : List (List Nat)}, (∀ t ∈ ss, asciiS t = true) → asciiS (TL.joinL s ss) = true
  | [], _ => rfl
  | [p], h => by simpa [TL.joinL] using h p (by simp)
  | p :: q :: r, h => by
    have ih := joinL_all hs (ss := q :: r) fun t ht => h t (by simp at ht ⊢; exact .inr ht)
    have hp := h p (by simp)
    unfold asciiS at *
    simp only [TL.joinL, List.all_append, hp, hs, ih, Bool.and_self]
theorem join_mk (s : List Nat) (ss : List (List Nat)) : Txt.join ⟨s.toArray⟩ (ss.map fun s => (⟨s.toArray⟩ : Str)) = ⟨(TL.joinL s ss).toArray⟩ := by
  apply TL.ext_tl
  rw [TL.join_eq, TL.tl_join]
  have e : ∀ t : List Nat, TL.tl ⟨t.toArray⟩ = t := fun t => TL.tl_mk t
  rw [List.map_map]
  have e2 : (TL.tl ∘ fun s => (⟨List.toArray s⟩ : Str)) = fun (t : List Nat) => t := by funext t; exact e t
  rw [e, e, e2, List.map_id']
theorem dm_join : DM W X "str.join" joinG := ⟨_, mt_join, fun Rs F H rr st v d vs ds Q E h ko k hP => by
  unfold joinG at hP
  split at hP
  · rename_i s d
    match k with
    | .cons k .nil =>
      cases e1 : lstOf st d with
      | none => rw [e1] at hP; exact hP.elim
      | some ds =>
        rw [e1] at hP
        simp only [Option.bind_some] at hP
        split at hP
        · rename_i ss e2
          split at hP
          · rename_i hl
            cases ko with
            | str s hs hsl =>
              obtain ⟨p, ws, rfl, h1, k1⟩ := lstOf_ok h k e1
              obtain ⟨ev, ha⟩ := strsOf_ok k1 e2
              refine ⟨_, p, ss.map fun s => (⟨s.toArray⟩ : Str), rfl, rfl, .inl (.of (by rw [← ev]; exact h1)), ?_, ?_⟩
              · rw [List.map_map, List.length_map, len_mk]
                have e3 : ((fun (x : Str) => x.length) ∘ fun (s : List Nat) => (⟨s.toArray⟩ : Str)) = List.length := by funext t; exact len_mk t
                rw [e3]
                exact Nat.le_trans hl (by decide)
              · rw [join_mk]
                exact onE_here h (.str _ (joinL_all hs ha) (Nat.le_trans (joinL_len s ss) hl)) hP
          · exact hP.elim
        · exact hP.elim
  · exact hP.elim⟩
/-- s cut at each S -/
def splitL (S s : List Nat) : List (List Nat) := TL.spl S 0 [] s
theorem spl_in (S : List Nat) : ∀ (s : List Nat) (k : Nat) (acc : List Nat), asciiS acc = true → asciiS s = true → ∀ t ∈ TL.spl S k acc s, asciiS t = true ∧ t.length ≤ acc.length + s.length
  | [], k, acc, ha, hs, t, ht => by
    rw [TL.spl_nil] at ht
    simp at ht
    subst ht
    exact ⟨ha, by simp⟩
  | c :: r, 0, acc, ha, hs, t, ht => by
    have hs' : c < 128 ∧ asciiS r = true := by
      unfold asciiS at hs ⊢
      rw [List.all_cons, Bool.and_eq_true] at hs
      exact ⟨of_decide_eq_true hs.1, hs.2⟩
    unfold TL.spl at ht
    split at ht
    · rcases List.mem_cons.mp ht with rfl | ht
      · exact ⟨ha, by simp⟩
      · obtain ⟨a, b⟩ := spl_in S r _ [] rfl hs'.2 t ht
        exact ⟨a, by simp at b ⊢; omega⟩
    · obtain ⟨a, b⟩ := spl_in S r 0 (acc ++ [c]) (by unfold asciiS at ha ⊢; simp [ha, hs'.1]) hs'.2 t ht
      exact ⟨a, by simp at b ⊢; omega⟩
  | c :: r, k + 1, acc, ha, hs, t, ht => by
    have hs' : asciiS r = true := by
      unfold asciiS at hs ⊢
      rw [List.all_cons, Bool.and_eq_true] at hs
      exact hs.2
    unfold TL.spl at ht
    obtain ⟨a, b⟩ := spl_in S r k acc ha hs' t ht
    exact ⟨a, by simp at b ⊢; omega⟩
theorem reps_strs {F : Hp} {r : List Addr} : ∀ {ys : List Str} {ss : List (List Nat)}, ys.map TL.tl = ss → (∀ s ∈ ss, asciiS s = true ∧ s.length ≤ LIM) → Reps F r (ys.map V.str) (ss.map D.str)
  | [], _, e, _ => by subst e; exact .nil
  | y :: ys, _, e, h => by
    subst e
    rw [List.map_cons] at h
    refine .cons ?_ (reps_strs rfl fun s hs => h s (List.mem_cons_of_mem _ hs))
    have := h (TL.tl y) List.mem_cons_self
    have e : y = ⟨(TL.tl y).toArray⟩ := (TL.mk_tl y).symm
    rw [e, TL.tl_mk]
    exact .str _ this.1 this.2
def splitG (m : Bool) : GM := fun st o ds => match o, ds with
  | .str s, [.str t] => if t ≠ [] then newL m ((splitL t s).map D.str) st else .bad
  | _, _ => .bad
theorem dm_split (m : Bool) : DM W X "str.split" (splitG m) := ⟨_, mt_split, fun Rs F H rr st v d vs ds Q E h ko k hP => by
  unfold splitG at hP
  split at hP
  · rename_i s t
    split at hP
    · rename_i hne
      cases ko with
      | str s hs hsl =>
        cases k with
        | cons k k2 =>
          cases k2
          cases k with
          | str t ht htl =>
            refine ⟨_, _, rfl, rfl, ?_, ?_, ?_⟩
            · rw [len_mk, beq_eq_false_iff_ne]
              exact fun z => hne (List.length_eq_zero_iff.mp z)
            · rw [len_mk]
              exact Nat.le_trans (Nat.add_le_add_right hsl 2) (by decide)
            · intro p hp
              have e : (Txt.split ⟨s.toArray⟩ ⟨t.toArray⟩).map TL.tl = splitL t s := TL.split_spl _ _ (by rw [TL.tl_mk]; exact hne) (TL.kind_ok (by
                rw [List.all_eq_true] at ht
                simp only [List.size_toArray, List.all_toArray', List.all_eq_true, decide_eq_true_eq]
                intro x hx
                have := of_decide_eq_true (ht x hx)
                omega))
              exact newL_post h (reps_strs e fun u hu => by
                obtain ⟨a, b⟩ := spl_in t s 0 [] rfl hs u hu
                exact ⟨a, Nat.le_trans b (by simpa using hsl)⟩) hP hp
    · exact hP.elim
  · exact hP.elim⟩
end

/-! ### what was laid on the way is forgotten -/
mutual
def D.wf (n : Nat) : D → Bool
  | .ref k => decide (k < n)
  | .tup ds => D.wfs n ds
  | .lst ds => D.wfs n ds
  | _ => true
def D.wfs (n : Nat) : List D → Bool
  | [] => true
  | d :: ds => D.wf n d && D.wfs n ds
end
def Ob.wf (n : Nat) : Ob → Bool
  | .lst ds => D.wfs n ds
  | .ins _ fs => fs.all fun p => p.2.wf n
  | .dK kvs => kvs.all fun p => p.2.wf n
  | .dT kvs => kvs.all fun p => p.2.wf n
  | .dead => true
def wfS (st : Store) : Prop := ∀ o ∈ st, o.wf st.length = true
section
variable {F F' : Hp} {r : List Addr}
mutual
theorem Rep.wf : ∀ {d : D} {v : V}, Rep F r v d → d.wf r.length = true
  | _, _, .non => rfl
  | _, _, .bl _ => rfl
  | _, _, .int _ => rfl
  | _, _, .str _ _ _ => rfl
  | _, _, .tup _ k => by unfold D.wf; exact Reps.wf k
  | _, _, .lst _ k => by unfold D.wf; exact Reps.wf k
  | _, _, .ref h => by unfold D.wf; exact decide_eq_true (List.getElem?_eq_some_iff.mp h).1
  | _, _, .scr _ => rfl
  | _, _, .exn0 _ => rfl
  | _, _, .exn1 _ => rfl
theorem Reps.wf : ∀ {ds : List D} {vs : List V}, Reps F r vs ds → D.wfs r.length ds = true
  | _, _, .nil => rfl
  | _, _, .cons h k => by unfold D.wfs; rw [Rep.wf h, Reps.wf k]; rfl
end
theorem Flds.wf {vs : List (Str × V)} {fs : List (Str × D)} (h : Flds F r vs fs) : (fs.all fun p => p.2.wf r.length) = true := by
  induction fs generalizing vs with
  | nil => rfl
  | cons p fs ih =>
    cases vs with
    | nil => exact h.elim
    | cons q vs =>
      obtain ⟨_, k, t⟩ := h
      rw [List.all_cons, k.wf, ih t]; rfl
theorem KVr.wf {A : Type} {vs : List (A × V)} {fs : List (A × D)} (h : KVr F r vs fs) : (fs.all fun p => p.2.wf r.length) = true := by
  induction fs generalizing vs with
  | nil => rfl
  | cons p fs ih =>
    cases vs with
    | nil => exact h.elim
    | cons q vs =>
      obtain ⟨_, k, t⟩ := h
      rw [List.all_cons, k.wf, ih t]; rfl
theorem Holds.wf {W : Wd} {Rs H : Hp} {st : Store} (h : Holds W Rs F H r st) : wfS st := fun o m => by
  obtain ⟨i, hi, rfl⟩ := List.mem_iff_getElem.mp m
  obtain ⟨a, e, k⟩ := h.get (n := i) (o := st[i]) (by simp [hi])
  rw [← h.len]
  cases eo : st[i] with
  | lst ds => rw [eo] at k; obtain ⟨vs, _, k⟩ := k; exact k.wf
  | ins C fs => rw [eo] at k; obtain ⟨dx, vs, _, k⟩ := k; exact k.wf
  | dK kvs => rw [eo] at k; obtain ⟨vs, _, k⟩ := k; exact k.wf
  | dT kvs => rw [eo] at k; obtain ⟨vs, _, k⟩ := k; exact k.wf
  | dead => rfl
end
/-- the new references of d told by what they hold -/
def rsv (n : Nat) (st : Store) : Nat → D → Option D
  | 0, _ => none
  | k + 1, d => match d with
    | .tup ds => match optAll (ds.map (rsv n st k)) with
      | some es => some (.tup es)
      | none => none
    | .lst ds => match optAll (ds.map (rsv n st k)) with
      | some es => some (.lst es)
      | none => none
    | .ref i => if i < n then some (.ref i) else match st[i]? with
      | some (.lst ds) => match optAll (ds.map (rsv n st k)) with
        | some es => some (.lst es)
        | none => none
      | _ => none
    | d => some d
section
variable {W : Wd} {Rs F F' H H' : Hp} {r r' : List Addr} {st st1 junk : Store} {E : XK}
/-- the frozen part with all that was laid -/
def froz (F' H' : Hp) (js : List Addr) : Hp := fun a => if a ∈ js then H' a else F' a
theorem froz_same (h : Holds W Rs F' H' r' st) {js : List Addr} (hj : ∀ a ∈ js, a ∈ r') : Same F' (froz F' H' js) := fun a o e => by
  unfold froz
  rw [if_neg fun m => by rw [(h.own a (hj a m)).1] at e; cases e]
  exact e
theorem ext_take (h : Ext r r') : r'.take r.length = r := by
  apply List.ext_getElem?
  intro i
  by_cases hi : i < r.length
  · rw [List.getElem?_take_of_lt hi]
    have := h i r[i] (by simp [hi])
    rw [this]; simp [hi]
  · rw [List.getElem?_eq_none (by simp; omega), List.getElem?_eq_none (by omega)]
theorem rep_cut {n : Nat} : ∀ {d : D} {v : V}, Rep F' r' v d → d.wf n = true → Rep F' (r'.take n) v d := by
  have : (∀ (d : D) (v : V), Rep F' r' v d → d.wf n = true → Rep F' (r'.take n) v d) := by
    intro d
    refine D.rec (motive_1 := fun d => ∀ (v : V), Rep F' r' v d → d.wf n = true → Rep F' (r'.take n) v d) (motive_2 := fun ds => ∀ (vs : List V), Reps F' r' vs ds → D.wfs n ds = true → Reps F' (r'.take n) vs ds) ?_ ?_ ?_ ?_ ?_ ?_ ?_ ?_ ?_ ?_ ?_ d
    · intro v k _; cases k; exact .non
    · intro b v k _; cases k; exact .bl b
    · intro b v k _; cases k; exact .int b
    · intro b v k _; cases k with | str _ h1 h2 => exact .str b h1 h2
    · intro ds ih v k w; cases k with | tup q k => exact .tup q (ih _ k (by unfold D.wf at w; exact w))
    · intro ds ih v k w; cases k with | lst q k => exact .lst q (ih _ k (by unfold D.wf at w; exact w))
    · intro i v k w
      cases k with
      | ref q =>
        unfold D.wf at w
        exact .ref (by rw [List.getElem?_take_of_lt (of_decide_eq_true w)]; exact q)
    · intro ns v k _; cases k with | scr q => exact .scr q
    · intro a o v k _; cases k with
      | exn0 => exact .exn0 _
      | exn1 q => exact .exn1 q
    · intro vs k _; cases k; exact .nil
    · intro d ds ih1 ih2 vs k w
      cases k with
      | cons k1 k2 =>
        unfold D.wfs at w
        rw [Bool.and_eq_true] at w
        exact .cons (ih1 _ k1 w.1) (ih2 _ k2 w.2)
  exact fun {d v} => this d v
theorem reps_cut {n : Nat} : ∀ {ds : List D} {vs : List V}, Reps F' r' vs ds → D.wfs n ds = true → Reps F' (r'.take n) vs ds
  | [], _, .nil, _ => .nil
  | d :: ds, _, .cons k1 k2, w => by
    unfold D.wfs at w
    rw [Bool.and_eq_true] at w
    exact .cons (rep_cut k1 w.1) (reps_cut k2 w.2)
theorem flds_cut {n : Nat} : ∀ {vs : List (Str × V)} {fs : List (Str × D)}, Flds F' r' vs fs → (fs.all fun p => p.2.wf n) = true → Flds F' (r'.take n) vs fs
  | [], [], _, _ => trivial
  | _ :: _, _ :: _, ⟨e, k, t⟩, w => by
    rw [List.all_cons, Bool.and_eq_true] at w
    exact ⟨e, rep_cut k w.1, flds_cut t w.2⟩
  | [], _ :: _, h, _ => h.elim
  | _ :: _, [], h, _ => h.elim
theorem kvr_cut {A : Type} {n : Nat} : ∀ {vs : List (A × V)} {fs : List (A × D)}, KVr F' r' vs fs → (fs.all fun p => p.2.wf n) = true → KVr F' (r'.take n) vs fs
  | [], [], _, _ => trivial
  | _ :: _, _ :: _, ⟨e, k, t⟩, w => by
    rw [List.all_cons, Bool.and_eq_true] at w
    exact ⟨e, rep_cut k w.1, kvr_cut t w.2⟩
  | [], _ :: _, h, _ => h.elim
  | _ :: _, [], h, _ => h.elim
/-- the store cut off at n, the rest frozen -/
theorem Holds.cut (h : Holds W Rs F' H' r' (st1 ++ junk)) (w : ∀ o ∈ st1, o.wf st1.length = true) : Holds W Rs (froz F' H' (r'.drop st1.length)) H' (r'.take st1.length) st1 := by
  have sF := froz_same h (js := r'.drop st1.length) fun a m => List.mem_of_mem_drop m
  have hl : st1.length ≤ r'.length := by rw [h.len]; simp
  refine ⟨fun a o e => ?_, h.sR, fun a e => ?_, by simp [hl], h.nd.sublist (List.take_sublist _ _), fun a m => ?_, fun i a o e1 e2 => ?_, ⟨fun t ht => ?_, fun a ps z => ?_, h.tb.nR⟩⟩
  · unfold froz at e
    split at e
    · exact e
    · exact h.sF _ _ e
  · unfold froz at e
    split at e
    · rename_i m; exact (h.own a (List.mem_of_mem_drop m)).2
    · exact h.dj a e
  · have o := h.own a (List.mem_of_mem_take m)
    refine ⟨?_, o.2⟩
    unfold froz
    rw [if_neg fun m2 => ?_]
    · exact o.1
    · have nd := h.nd
      rw [← List.take_append_drop st1.length r', List.nodup_append] at nd
      exact nd.2.2 a m a m2 rfl
  · have hi : i < st1.length := (List.getElem?_eq_some_iff.mp e2).1
    rw [List.getElem?_take_of_lt hi] at e1
    have k := h.ob i a o e1 (by rw [List.getElem?_append_left hi]; exact e2)
    have wo := w o (List.mem_of_getElem? e2)
    cases o with
    | lst ds => obtain ⟨vs, q, k⟩ := k; exact ⟨vs, q, (reps_cut k wo).mono sF (Ext.refl _)⟩
    | ins C fs => obtain ⟨dx, vs, q, k⟩ := k; exact ⟨dx, vs, q, (flds_cut k wo).mono sF (Ext.refl _)⟩
    | dK kvs => obtain ⟨vs, q, k⟩ := k; exact ⟨vs, q, (kvr_cut k wo).mono sF (Ext.refl _)⟩
    | dT kvs => obtain ⟨vs, q, k⟩ := k; exact ⟨vs, q, (kvr_cut k wo).mono sF (Ext.refl _)⟩
    | dead => exact k
  · obtain ⟨t1, t2, t3, t4⟩ := h.tb.at_ t ht
    refine ⟨t1, ?_, t3, fun m => t4 (List.mem_of_mem_take m)⟩
    unfold froz
    rw [if_neg fun m => t4 (List.mem_of_mem_drop m)]
    exact t2
  · unfold froz at z
    split at z
    · rename_i m
      obtain ⟨u, hu, k1, _⟩ := h.kindOf (List.mem_of_mem_drop m)
      rw [hu] at z
      exact k1 ps (Option.some.inj z)
    · exact h.tb.nF a ps z
theorem rsv_ok (h : Holds W Rs F' H' r' st) (n : Nat) : ∀ (k : Nat) (d : D) (v : V) (e : D), Rep F' r' v d → rsv n st k d = some e → Rep (froz F' H' (r'.drop n)) (r'.take n) v e
  | 0, _, _, _, _, e => by cases e
  | k + 1, d, v, e, kd, eq => by
    have sF := froz_same h (js := r'.drop n) fun a m => List.mem_of_mem_drop m
    have all : ∀ (ds : List D) (vs : List V) (es : List D), Reps F' r' vs ds → optAll (ds.map (rsv n st k)) = some es → Reps (froz F' H' (r'.drop n)) (r'.take n) vs es := by
      intro ds
      induction ds with
      | nil => intro vs es kk q; cases kk; cases q; exact .nil
      | cons d ds ih =>
        intro vs es kk q
        cases kk with
        | cons k1 k2 =>
          rw [List.map_cons] at q
          cases e1 : rsv n st k d with
          | none => rw [e1] at q; cases q
          | some d1 =>
            rw [e1] at q
            unfold optAll at q
            cases e2 : optAll (ds.map (rsv n st k)) with
            | none => rw [e2] at q; cases q
            | some es2 =>
              rw [e2] at q
              cases q
              exact .cons (rsv_ok h n k d _ _ k1 e1) (ih _ _ k2 e2)
    unfold rsv at eq
    cases kd with
    | tup q kk =>
      simp only at eq
      split at eq
      · rename_i es e'; cases eq; exact .tup (sF _ _ q) (all _ _ _ kk e')
      · cases eq
    | lst q kk =>
      simp only at eq
      split at eq
      · rename_i es e'; cases eq; exact .lst (sF _ _ q) (all _ _ _ kk e')
      · cases eq
    | @ref a i q =>
      simp only at eq
      split at eq
      · rename_i hi
        cases eq
        exact .ref (by rw [List.getElem?_take_of_lt hi]; exact q)
      · rename_i hi
        split at eq
        · rename_i ds e0
          split at eq
          · rename_i es e'
            cases eq
            obtain ⟨vs, q', kk⟩ := h.ob i a _ q e0
            refine .lst ?_ (all _ _ _ kk e')
            unfold froz
            have hm : a ∈ r'.drop n := by
              have : (r'.drop n)[i - n]? = some a := by
                rw [List.getElem?_drop]
                rw [show n + (i - n) = i by omega]; exact q
              exact List.mem_of_getElem? this
            rw [if_pos hm]; exact q'
          · cases eq
        · cases eq
    | non => cases eq; exact .non
    | bl b => cases eq; exact .bl b
    | int b => cases eq; exact .int b
    | str b h1 h2 => cases eq; exact .str b h1 h2
    | scr q => cases eq; exact .scr (q.mono sF)
    | exn0 => cases eq; exact .exn0 _
    | exn1 q => cases eq; exact .exn1 (sF _ _ q)
/-- res is res' but for what was laid on the way -/
def Frz (n : Nat) (res res' : R (D × Store)) : Prop := match res' with
  | .ok (d', st1) => ∃ d junk, res = .ok (d, st1 ++ junk) ∧ st1.length = n ∧ (∀ o ∈ st1, o.wf n = true) ∧ rsv n (st1 ++ junk) 50 d = some d'
  | .exc c none st1 => ∃ junk, res = .exc c none (st1 ++ junk) ∧ st1.length = n ∧ (∀ o ∈ st1, o.wf n = true)
  | .exc c (some d') st1 => ∃ d junk, res = .exc c (some d) (st1 ++ junk) ∧ st1.length = n ∧ (∀ o ∈ st1, o.wf n = true) ∧ rsv n (st1 ++ junk) 50 d = some d'
  | .bad => True
theorem Frz.post {Q : VK} {res res' : R (D × Store)} (h0 : Holds W Rs F H r st) (f : Frz st.length res res') (q : Post W Rs F r res' Q E) : Post W Rs F r res Q E := by
  have rl := h0.len
  cases res' with
  | bad => exact q.elim
  | ok a =>
    obtain ⟨d', st1⟩ := a
    obtain ⟨d, junk, rfl, hl, hw, hr⟩ := f
    intro F' H' r' v s x h k
    have e : r'.take st1.length = r := by rw [hl, ← rl]; exact ext_take x
    have h' := h.cut (st1 := st1) (junk := junk) (by rw [hl]; exact hw)
    have k' := rsv_ok h st1.length 50 d v d' k (by rw [hl]; exact hr)
    rw [e] at h' k'
    exact q _ H' r v (s.trans (froz_same h fun a m => List.mem_of_mem_drop m)) (Ext.refl _) h' k'
  | exc c p st1 =>
    cases p with
    | none =>
      obtain ⟨junk, rfl, hl, hw⟩ := f
      intro F' H' r' od s x h k
      have e : r'.take st1.length = r := by rw [hl, ← rl]; exact ext_take x
      have h' := h.cut (st1 := st1) (junk := junk) (by rw [hl]; exact hw)
      rw [e] at h'
      exact q _ H' r od (s.trans (froz_same h fun a m => List.mem_of_mem_drop m)) (Ext.refl _) h' k
    | some d' =>
      obtain ⟨d, junk, rfl, hl, hw, hr⟩ := f
      intro F' H' r' od s x h k
      have e : r'.take st1.length = r := by rw [hl, ← rl]; exact ext_take x
      have h' := h.cut (st1 := st1) (junk := junk) (by rw [hl]; exact hw)
      obtain ⟨f, a, i, h1, h2, h3, rfl⟩ := k
      cases hr
      rw [e] at h'
      exact q _ H' r od (s.trans (froz_same h fun a m => List.mem_of_mem_drop m)) (Ext.refl _) h' ⟨f, a, i, h1, h2, froz_same h (fun a m => List.mem_of_mem_drop m) _ _ h3, rfl⟩
theorem spD_frz {P : Program} {w : World} {mg : Str → Option Value} {base : Heap} {CX : CXT} {k n : Nat} {f : Addr} {fd : FuncData} {ps : List Str} {g g' : FV} (F : FnOk P w W.K mg base CX k f fd ps (spD W n g))
    (h : ∀ ds st, ds.length = n → wfS st → D.wfs st.length ds = true → Frz st.length (g ds st) (g' ds st)) : FnOk P w W.K mg base CX k f fd ps (spD W n g') :=
  spD_imp F fun Rs F H r st vs ds Q E a b c d => Frz.post a (h ds st c a.wf (by rw [← a.len]; exact b.wf)) d
end
end Dl
/-! ## DlGlue -/
/-! What the printed derivations lean on. -/
namespace Dl
open PySem L2

section
variable {P : Program} {w : World} {W : Wd} {mg : Str → Option Value} {base : Heap} {X : Cx} {E : XK}
/-- a def of the text that means g -/
structure Fn (P : Program) (w : World) (W : Wd) (mg : Str → Option Value) (base : Heap) (x : Str) (k n : Nat) (g : FV) : Prop where
  ex : ∃ f fd ps, FnOk P w W.K mg base (L2.CX P w) k f fd ps (spD W n g) ∧ mg x = some (.ref f) ∧ PySem.W.keepIn W.K (.ref f) = true ∧ Binds W.K fd ps []
/-- a method of the class c -/
structure Mt (P : Program) (w : World) (W : Wd) (mg : Str → Option Value) (base : Heap) (c : Nat) (m : Str) (k n : Nat) (g : FV) : Prop where
  ex : ∃ f fd ps, FnOk P w W.K mg base (L2.CX P w) k f fd ps (spD W n g) ∧ Meth W.K (W.cls c) m f ∧ Binds W.K fd ps []
  cl : Cls W.K (W.cls c)
/-- the class c by its __init__ -/
structure Nw (P : Program) (w : World) (W : Wd) (mg : Str → Option Value) (base : Heap) (x : Str) (c : Nat) (k n : Nat) (g : FV) : Prop where
  ex : ∃ f fd ps, FnOk P w W.K mg base (L2.CX P w) k f fd ps (spD W n g) ∧ Mk W.K (W.cls c) f ∧ mg x = some (.ref (W.cls c)) ∧ Binds W.K fd ps []
theorem Fn.as {x : Str} {k n : Nat} {g g' : FV} (h : Fn P w W mg base x k n g) (e : ∀ ds st, ds.length = n → wfS st → D.wfs st.length ds = true → Frz st.length (g ds st) (g' ds st)) : Fn P w W mg base x k n g' :=
  let ⟨f, fd, ps, F, a, b, c⟩ := h.ex; ⟨f, fd, ps, spD_frz F e, a, b, c⟩
theorem Mt.as {c : Nat} {x : Str} {k n : Nat} {g g' : FV} (h : Mt P w W mg base c x k n g) (e : ∀ ds st, ds.length = n → wfS st → D.wfs st.length ds = true → Frz st.length (g ds st) (g' ds st)) : Mt P w W mg base c x k n g' :=
  let ⟨f, fd, ps, F, a, b⟩ := h.ex; ⟨⟨f, fd, ps, spD_frz F e, a, b⟩, h.cl⟩
theorem Nw.as {c : Nat} {x : Str} {k n : Nat} {g g' : FV} (h : Nw P w W mg base x c k n g) (e : ∀ ds st, ds.length = n → wfS st → D.wfs st.length ds = true → Frz st.length (g ds st) (g' ds st)) : Nw P w W mg base x c k n g' :=
  let ⟨f, fd, ps, F, a, b, d⟩ := h.ex; ⟨f, fd, ps, spD_frz F e, a, b, d⟩
/-- the meaning said otherwise where it is said at all -/
theorem Frz.same {n : Nat} {res : R (D × Store)} : ∀ {d : D} {st : Store}, res = .ok (d, st) → st.length = n → (∀ o ∈ st, o.wf n = true) → rsv n st 50 d = some d → Frz n res (.ok (d, st)) := fun e h1 h2 h3 => ⟨_, [], by rw [List.append_nil]; exact e, h1, h2, by rw [List.append_nil]; exact h3⟩

theorem dv (i : Nat) {x : Str} {pos : Pos} (hN : X.N[i]? = some x := by rfl) (hv : Vis X.env.scope x := by first | exact Or.inl rfl | exact Or.inr (Or.inl rfl) | exact Or.inr (Or.inr rfl)) (hd : (x == ("__debug__" : Str)) = false := by decide)
    (hcd : (x == ("__classdict__" : Str)) = false := by decide) : DE W X E (.Name x pos) (eV i) := de_var hN hv hd hcd
def eNeg (f : EV) : EV := fun env st => (f env st).bind fun a => match a.1 with
  | .int i => .ok (.int (-i), a.2)
  | _ => .bad
theorem de_neg {e : Expr} {f : EV} {pos : Pos} (h : DE W X E e f) : DE W X E (.UnaryOp .USub e pos) (eNeg f) := by
  obtain ⟨t, p, q⟩ := h.ex
  refine .mk (pe_un un_neg p) fun Rs F H rr sg env st Q hH hE hP => ?_
  refine q Rs F H rr sg env st _ hH hE (bindX hP fun a ea z F1 H1 r1 v1 s1 x1 h1 k1 => ?_)
  obtain ⟨d, st1⟩ := a
  cases k1 with
  | int i => exact ⟨i, rfl, z F1 H1 r1 _ s1 x1 h1 (.int _)⟩
  | _ => exact z.elim
section
variable {k j n : Nat} {g : FV} {x : Str} {e : Expr} {es : List Expr} {p pos apos : Pos} {ga : AV}
theorem dcall (c : Fn X.prog X.w W X.mg X.base x k n g) (hr : Room j X.A) (hx : Passes (L2.CX X.prog X.w) X E) (ha : DA W X E (e :: es) ga) (hK : X.K = W.K := by rfl) (hj : k ≤ j := by decide) (hg : Gl X x := by rfl)
    (hdb : (x == ("__debug__" : Str)) = false := by decide) (he : starEach (e :: es) X.env = (false, eval e X.env) :: starEach es X.env := by rfl) (hpl : (backTo pos (starEach es X.env)).any (·.1) = false := by rfl) :
    DE W X E (.Call (.Name x p) (e :: es) [] pos) (eCall n g ga) := let ⟨f, fd, ps, F, a, b, c⟩ := c.ex; de_call hK F hr hj hg a b c hx ha hdb he hpl
theorem dcall0 (c : Fn X.prog X.w W X.mg X.base x k 0 g) (hr : Room j X.A) (hx : Passes (L2.CX X.prog X.w) X E) (hK : X.K = W.K := by rfl) (hj : k ≤ j := by decide) (hg : Gl X x := by rfl)
    (hdb : (x == ("__debug__" : Str)) = false := by decide) : DE W X E (.Call (.Name x p) [] [] pos) (eCall 0 g aNil) := let ⟨f, fd, ps, F, a, b, c⟩ := c.ex; de_call0 hK F hr hj hg a b c hx hdb
theorem dmake {c : Nat} (c' : Nw X.prog X.w W X.mg X.base x c k n g) (hr : Room (j + 1) X.A) (hx : Passes (L2.CX X.prog X.w) X E) (ha : DA W X E (e :: es) ga) (hK : X.K = W.K := by rfl) (hj : k ≤ j := by decide) (hg : Gl X x := by rfl)
    (hdb : (x == ("__debug__" : Str)) = false := by decide) (he : starEach (e :: es) X.env = (false, eval e X.env) :: starEach es X.env := by rfl) (hpl : (backTo pos (starEach es X.env)).any (·.1) = false := by rfl) :
    DE W X E (.Call (.Name x p) (e :: es) [] pos) (eMake c n g ga) := let ⟨f, fd, ps, F, a, b, c⟩ := c'.ex; de_make hK a F hr hj hg b c hx ha hdb he hpl
theorem dmeth {o : Expr} {fo : EV} {c : Nat} {m : Str} {pl : Sem Bool} (c' : Mt X.prog X.w W X.mg X.base c m k n g) (he : DE W X E o fo) (hr : Room j X.A) (hx : Passes (L2.CX X.prog X.w) X E) (ha : DA W X E (e :: es) ga) (hK : X.K = W.K := by rfl) (hj : k ≤ j := by decide)
    (hst : starEach (e :: es) X.env = (false, eval e X.env) :: starEach es X.env := by rfl) (hpl : (backTo pos (starEach es X.env)).any (·.1) = false := by rfl)
    (ht : eval (.Call (.Attribute o m apos) (e :: es) [] pos) X.env = (do
      let ov ← eval o X.env
      standAt apos.atName
      let (f, first) ← holding [ov] (getMethod ov m pl)
      callWith pos f first (backTo pos (starEach (e :: es) X.env)) (backToKw pos (keywordEach [] X.env))) := by rfl) :
    DE W X E (.Call (.Attribute o m apos) (e :: es) [] pos) (eMeth c m n g fo ga) := let ⟨f, fd, ps, F, a, b⟩ := c'.ex; de_meth (pl := pl) hK he c'.cl a F hr hj b hx ha hst hpl ht
theorem dmeth0 {o : Expr} {fo : EV} {c : Nat} {m : Str} {pl : Sem Bool} (c' : Mt X.prog X.w W X.mg X.base c m k n g) (he : DE W X E o fo) (hr : Room j X.A) (hx : Passes (L2.CX X.prog X.w) X E) (hK : X.K = W.K := by rfl) (hj : k ≤ j := by decide)
    (ht : eval (.Call (.Attribute o m apos) [] [] pos) X.env = (do
      let ov ← eval o X.env
      standAt apos.atName
      let (f, first) ← holding [ov] (getMethod ov m pl)
      callWith pos f first [] []) := by rfl) :
    DE W X E (.Call (.Attribute o m apos) [] [] pos) (eMeth c m n g fo aNil) := let ⟨f, fd, ps, F, a, b⟩ := c'.ex; de_meth0 (pl := pl) hK he c'.cl a F hr hj b hx fun {to} po => by
      refine pe_meth0 (pl := pl) (C := W.cls c) (sp := spD W n g) po (by rw [hK]; exact c'.cl) (by rw [hK]; exact a) (by rw [hK]; exact F) (hr.mono hj) (by rw [hK]; exact b) .nil hx ht
end
theorem passD {qual : Str} {N : List Str} {sc : Scope} {f : Addr} {cd : Value} {A : Around} {outer : List PySem.Env} {s : Shared} {H : Hp} {K : PySem.W.Frag} : Passes (L2.CX P w) (cxOf (L2.CX P w) P w K mg base N qual sc f cd A outer s H E) E :=
  passes_call (takes_of rfl rfl rfl rfl) fun _ _ _ _ h => h
theorem passF {qual : Str} {N : List Str} {sc : Scope} {f : Addr} {cd : Value} {A : Around} {outer : List PySem.Env} {s : Shared} {H : Hp} {K : PySem.W.Frag} : PassesOwn (model P w) (cxOf (L2.CX P w) P w K mg base N qual sc f cd A outer s H E).A (cxOf (L2.CX P w) P w K mg base N qual sc f cd A outer s H E).env (cxOf (L2.CX P w) P w K mg base N qual sc f cd A outer s H E).xe :=
  passes_of (X := cxOf (L2.CX P w) P w K mg base N qual sc f cd A outer s H E) rfl
end
end Dl
/-! ## DlSimp -/
/-! Running meanings by simp. -/
namespace Dl
open PySem L2

def SR.andThen (r : SR) (g : SV) : SR := match r with
  | .nx e s => g e s
  | .rt d s => .rt d s
  | .bk e s => .bk e s
  | .ct e s => .ct e s
  | .exc c p s => .exc c p s
  | .bad => .bad
@[simp] theorem then_nx (e : Env) (s : Store) (g : SV) : (SR.nx e s).andThen g = g e s := (rfl)
@[simp] theorem then_rt (d : D) (s : Store) (g : SV) : (SR.rt d s).andThen g = .rt d s := (rfl)
@[simp] theorem then_bk (e : Env) (s : Store) (g : SV) : (SR.bk e s).andThen g = .bk e s := (rfl)
@[simp] theorem then_ct (e : Env) (s : Store) (g : SV) : (SR.ct e s).andThen g = .ct e s := (rfl)
@[simp] theorem then_exc (c : Nat) (p : Option D) (s : Store) (g : SV) : (SR.exc c p s).andThen g = .exc c p s := (rfl)
@[simp] theorem then_bad (g : SV) : (SR.bad).andThen g = .bad := (rfl)
def R.ifS (r : R (Bool × Store)) (f g : SV) (env : Env) : SR := match r with
  | .ok a => if a.1 = true then f env a.2 else g env a.2
  | .exc c p st => .exc c p st
  | .bad => .bad
@[simp] theorem ifS_ok (a : Bool × Store) (f g : SV) (env : Env) : (R.ok a).ifS f g env = if a.1 = true then f env a.2 else g env a.2 := (rfl)
@[simp] theorem ifS_exc (c : Nat) (p : Option D) (st : Store) (f g : SV) (env : Env) : (R.exc c p st : R (Bool × Store)).ifS f g env = .exc c p st := (rfl)
@[simp] theorem ifS_bad (f g : SV) (env : Env) : (R.bad : R (Bool × Store)).ifS f g env = .bad := (rfl)

def R.forS (r : R (Wk × Store)) (g : GV) (b : SV) (env : Env) : SR := match r with
  | .ok a => forGo a.1.2 g b a.1.1 env a.2
  | .exc c p st => .exc c p st
  | .bad => .bad
@[simp] theorem forS_ok (ds : List D) (sub : List (Nat × List D)) (s : Store) (g : GV) (b : SV) (env : Env) : (R.ok ((ds, sub), s)).forS g b env = forGo sub g b ds env s := (rfl)
@[simp] theorem forS_exc (c : Nat) (p : Option D) (st : Store) (g : GV) (b : SV) (env : Env) : (R.exc c p st : R (Wk × Store)).forS g b env = .exc c p st := (rfl)
@[simp] theorem forS_bad (g : GV) (b : SV) (env : Env) : (R.bad : R (Wk × Store)).forS g b env = .bad := (rfl)
def R.lcS (r : R (Wk × Store)) (m : Bool) (t : Tg1) (tt : TV) (te : EV) (env : Env) : R (D × Store) := match r with
  | .ok a => if a.1.1.length ≤ LIM then (lcGo a.1.2 t tt te env a.1.1 [] a.2).bind fun b => newL m b.1 b.2 else .bad
  | .exc c p st => .exc c p st
  | .bad => .bad
@[simp] theorem lcS_ok (ds : List D) (sub : List (Nat × List D)) (s : Store) (m : Bool) (t : Tg1) (tt : TV) (te : EV) (env : Env) : (R.ok ((ds, sub), s)).lcS m t tt te env = if ds.length ≤ LIM then (lcGo sub t tt te env ds [] s).bind fun b => newL m b.1 b.2 else .bad := (rfl)
@[simp] theorem lcS_exc (c : Nat) (p : Option D) (st : Store) (m : Bool) (t : Tg1) (tt : TV) (te : EV) (env : Env) : (R.exc c p st : R (Wk × Store)).lcS m t tt te env = .exc c p st := (rfl)
@[simp] theorem lcS_bad (m : Bool) (t : Tg1) (tt : TV) (te : EV) (env : Env) : (R.bad : R (Wk × Store)).lcS m t tt te env = .bad := (rfl)

section
variable (env : Env) (st : Store)
@[simp] theorem r_eV (i : Nat) : eV i env st = match env[i]? with
  | some (some d) => .ok (d, st)
  | _ => .bad := (rfl)
@[simp] theorem r_eC (d : D) : eC d env st = .ok (d, st) := (rfl)
@[simp] theorem r_eOp (g : G2) (fa fb : EV) : eOp g fa fb env st = (fa env st).bind fun a => (fb env a.2).bind fun b => g b.2 a.1 b.1 := (rfl)
@[simp] theorem r_tv (f : EV) : tv f env st = (f env st).bind fun a => match a.1 with
  | .bl b => .ok (b, a.2)
  | _ => .bad := (rfl)
@[simp] theorem r_eChain (g g' : G2) (fa fb fc : EV) : eChain g g' fa fb fc env st = (fa env st).bind fun a => (fb env a.2).bind fun b => (g b.2 a.1 b.1).bind fun z => match z.1 with
  | .bl true => (fc env z.2).bind fun c => g' c.2 b.1 c.1
  | .bl false => .ok (.bl false, z.2)
  | _ => .bad := (rfl)
@[simp] theorem r_tAndD (f g : TV) : tAndD f g env st = (f env st).bind fun a => if a.1 = true then g env a.2 else .ok (false, a.2) := (rfl)
@[simp] theorem r_tOrD (f g : TV) : tOrD f g env st = (f env st).bind fun a => if a.1 = true then .ok (true, a.2) else g env a.2 := (rfl)
@[simp] theorem r_tNotD (f : TV) : tNotD f env st = (f env st).bind fun a => .ok (!a.1, a.2) := (rfl)
@[simp] theorem r_eAnd (f g : EV) : eAnd f g env st = (f env st).bind fun a => match a.1 with
  | .bl true => g env a.2
  | .bl false => .ok (.bl false, a.2)
  | _ => .bad := (rfl)
@[simp] theorem r_eOr (f g : EV) : eOr f g env st = (f env st).bind fun a => match a.1 with
  | .bl true => .ok (.bl true, a.2)
  | .bl false => g env a.2
  | _ => .bad := (rfl)
@[simp] theorem r_eNot (f : EV) : eNot f env st = (f env st).bind fun a => match a.1 with
  | .bl b => .ok (.bl (!b), a.2)
  | _ => .bad := (rfl)
@[simp] theorem r_eIf (t : TV) (f g : EV) : eIf t f g env st = (t env st).bind fun a => if a.1 = true then f env a.2 else g env a.2 := (rfl)
@[simp] theorem r_aNil : aNil env st = .ok ([], st) := (rfl)
@[simp] theorem r_aCons (f : EV) (g : AV) : aCons f g env st = (f env st).bind fun a => (g env a.2).bind fun b => .ok (a.1 :: b.1, b.2) := (rfl)
@[simp] theorem r_newF (ds : List D) : newL false ds st = .ok (.lst ds, st) := (rfl)
@[simp] theorem r_newT (ds : List D) : newL true ds st = .ok (.ref st.length, st ++ [.lst ds]) := (rfl)
@[simp] theorem r_eTup (g : AV) : eTup g env st = (g env st).bind fun a => if a.1.length ≤ LIM then .ok (.tup a.1, a.2) else .bad := (rfl)
@[simp] theorem r_eLst (m : Bool) (g : AV) : eLst m g env st = (g env st).bind fun a => if a.1.length ≤ LIM then newL m a.1 a.2 else .bad := (rfl)
@[simp] theorem r_sNext : sNext env st = .nx env st := (rfl)
@[simp] theorem r_sCons (f g : SV) : sCons f g env st = (f env st).andThen g := by unfold sCons SR.andThen; cases f env st <;> rfl
@[simp] theorem r_sPass : sPass env st = .nx env st := (rfl)
@[simp] theorem r_sBreak : sBreak env st = .bk env st := (rfl)
@[simp] theorem r_sCont : sCont env st = .ct env st := (rfl)
@[simp] theorem r_sExpr (f : EV) : sExpr f env st = sOf (f env st) fun a => .nx env a.2 := (rfl)
@[simp] theorem r_sRet (f : EV) : sRet f env st = sOf (f env st) fun a => .rt a.1 a.2 := (rfl)
@[simp] theorem r_sRetN : sRetN env st = .rt .non st := (rfl)
@[simp] theorem r_sIf (t : TV) (f g : SV) : sIf t f g env st = (t env st).ifS f g env := by unfold sIf R.ifS sOf; cases t env st <;> rfl
@[simp] theorem r_sBad : sBad env st = .bad := (rfl)
@[simp] theorem r_sAsg (f : EV) (g : GV) : sAsg f g env st = sOf (f env st) fun a => sOf (g a.1 env a.2) fun b => .nx b.1 b.2 := (rfl)
@[simp] theorem r_sPar (i j : Nat) (f : AV) : sPar i j f env st = sOf (f env st) fun a => match a.1 with
  | [d, e] => .nx ((env.set i (some d)).set j (some e)) a.2
  | _ => .bad := (rfl)
@[simp] theorem r_sPar3 (i j l : Nat) (f : AV) : sPar3 i j l f env st = sOf (f env st) fun a => match a.1 with
  | [d, e, c] => .nx (((env.set i (some d)).set j (some e)).set l (some c)) a.2
  | _ => .bad := (rfl)
@[simp] theorem r_gN (i : Nat) (d : D) : gN i d env st = .ok (env.set i (some d), st) := (rfl)
@[simp] theorem r_gsNil : gsNil [] env st = .ok (env, st) := (rfl)
@[simp] theorem r_gsCons (g : GV) (h : GVs) (d : D) (ds : List D) : gsCons g h (d :: ds) env st = (g d env st).bind fun a => h ds a.1 a.2 := (rfl)
@[simp] theorem r_gTp (n : Nat) (h : GVs) (ds : List D) : gTp n h (.tup ds) env st = if ds.length = n then h ds env st else .bad := (rfl)
@[simp] theorem r_gSb (fo fi : EV) (g : SetV) (d : D) : gSb fo fi g d env st = (fo env st).bind fun a => (fi env a.2).bind fun b => match g b.2 a.1 b.1 d with
  | some st' => .ok (env, st')
  | none => .bad := (rfl)
@[simp] theorem r_iSeq (f : EV) : iSeq f env st = (f env st).bind fun a => match itemsOf a.2 a.1 with
  | some w => .ok (w, a.2)
  | none => .bad := (rfl)
@[simp] theorem r_sFor (it : IV) (g : GV) (b : SV) : sFor it g b env st = (it env st).forS g b env := by unfold sFor R.forS sOf; cases it env st <;> rfl
@[simp] theorem r_tYesD : tYesD env st = .ok (true, st) := (rfl)
@[simp] theorem r_eLc (m : Bool) (it : IV) (vs : List Nat) (t : Tg1) (tt : TV) (te : EV) : eLc m it vs t tt te env st = (it env st).lcS m t tt te (wipeD env vs) := by unfold eLc R.lcS R.bind; cases it env st <;> rfl
@[simp] theorem r_iR1 (g : AV) : iR1 g env st = (g env st).bind fun a => match a.1 with
  | [.int n] => if -1000000 ≤ n ∧ n ≤ 1000000 then .ok ((intsD 0 n.toNat, []), a.2) else .bad
  | _ => .bad := (rfl)
@[simp] theorem r_iR2 (g : AV) : iR2 g env st = (g env st).bind fun a => match a.1 with
  | [.int i, .int n] => if (-1000000 ≤ i ∧ i ≤ 1000000) ∧ -1000000 ≤ n ∧ n ≤ 1000000 then .ok ((intsD i (n - i).toNat, []), a.2) else .bad
  | _ => .bad := (rfl)
@[simp] theorem r_iEn (g : AV) : iEn g env st = (g env st).bind fun a => match a.1 with
  | [d] => match listOf a.2 d with
    | some w => .ok ((pairUp w.1, w.2), a.2)
    | none => .bad
  | _ => .bad := (rfl)
@[simp] theorem r_iZp (g : AV) : iZp g env st = (g env st).bind fun a => match a.1 with
  | [d, e] => match listOf a.2 d, listOf a.2 e with
    | some w, some w' => .ok ((zipUp w.1 w'.1, w.2 ++ w'.2), a.2)
    | _, _ => .bad
  | _ => .bad := (rfl)
@[simp] theorem r_eCall (n : Nat) (g : FV) (ga : AV) : eCall n g ga env st = (ga env st).bind fun a => if a.1.length = n then g a.1 a.2 else .bad := (rfl)
@[simp] theorem r_eB (g : GA) (ga : AV) : eB g ga env st = (ga env st).bind fun a => g a.2 a.1 := (rfl)
@[simp] theorem r_eIs (T : String) (f : EV) : eIs T f env st = (f env st).bind fun a => isG1 T a.2 [a.1] := (rfl)
@[simp] theorem r_eMt (T : String) (g : GM) (fo : EV) (ga : AV) : eMt T g fo ga env st = (fo env st).bind fun o => if tyM o.2 o.1 = some T then (ga env o.2).bind fun a => g a.2 o.1 a.1 else .bad := (rfl)
@[simp] theorem r_eSl (m : Bool) (f : EV) (l h : Env → Store → R (Option Int × Store)) : eSl m f l h env st = (f env st).bind fun a => (l env a.2).bind fun b => (h env b.2).bind fun c => slG m c.2 a.1 b.1 c.1 := (rfl)
@[simp] theorem r_poNone : poNone env st = .ok (none, st) := (rfl)
@[simp] theorem r_poSome (f : EV) : poSome f env st = (f env st).bind fun a => match a.1 with
  | .int i => .ok (some i, a.2)
  | _ => .bad := (rfl)
@[simp] theorem r_eNeg (f : EV) : eNeg f env st = (f env st).bind fun a => match a.1 with
  | .int i => .ok (.int (-i), a.2)
  | _ => .bad := (rfl)
@[simp] theorem r_eFld (c : Nat) (f : Str) (fo : EV) : eFld c f fo env st = (fo env st).bind fun o => match o.1 with
  | .ref i => match o.2[i]? with
    | some (.ins c' fs) => if c' = c then (match fs.lookup f with
      | some d => .ok (d, o.2)
      | none => .bad) else .bad
    | _ => .bad
  | _ => .bad := (rfl)
@[simp] theorem r_isG1 (T : String) (d : D) : isG1 T st [d] = match tyOf st d with
    | some t => .ok (.bl (subTy t T), st)
    | none => .bad := (rfl)
end
theorem LIM_val : LIM = 1000000 := rfl
theorem le_LIM {n : Nat} (h : n ≤ 1000000) : n ≤ LIM := h
theorem lt_LIM {n : Nat} (h : n < 1000000) : n < LIM := h

/-! ### comprehensions and loops over known items -/
theorem lcGo_nil {sub : List (Nat × List D)} {t : Tg1} {tt : TV} {te : EV} {env : Env} {acc : List D} {st : Store} (h : still sub st = true) : lcGo sub t tt te env [] acc st = .ok (acc, st) := by
  unfold lcGo; rw [if_pos h]
theorem lcGo_cons {sub : List (Nat × List D)} {t : Tg1} {tt : TV} {te : EV} {env : Env} {d : D} {ds acc : List D} {st : Store} (h : still sub st = true) : lcGo sub t tt te env (d :: ds) acc st = match t.put d env with
    | some env1 => (noX (tt env1 st)).bind fun b => if b.1 = true then (noX (te env1 b.2)).bind fun y => lcGo sub t tt te env ds (acc ++ [y.1]) y.2 else lcGo sub t tt te env ds acc b.2
    | none => .bad := by
  rw [lcGo, if_pos h]
  all_goals rfl
theorem forGo_nil {sub : List (Nat × List D)} {g : GV} {b : SV} {env : Env} {st : Store} (h : still sub st = true) : forGo sub g b [] env st = .nx env st := by
  unfold forGo; rw [if_pos h]
theorem forGo_cons {sub : List (Nat × List D)} {g : GV} {b : SV} {d : D} {ds : List D} {env : Env} {st : Store} (h : still sub st = true) : forGo sub g b (d :: ds) env st = sOf (g d env st) fun a => (match b a.1 a.2 with
      | .nx e s => forGo sub g b ds e s
      | .ct e s => forGo sub g b ds e s
      | .bk e s => .nx e s
      | .rt d s => .rt d s
      | .exc c p s => .exc c p s
      | .bad => .bad) := by
  rw [forGo, if_pos h]
  all_goals rfl
/-- a comprehension that changes nothing -/
theorem lc_pure {sub : List (Nat × List D)} {t : Tg1} {tt : TV} {te : EV} {env : Env} {st : Store} (hs : still sub st = true) (p : D → Bool) (f : D → D) : ∀ (ds acc : List D),
    (∀ d ∈ ds, ∃ env1, t.put d env = some env1 ∧ tt env1 st = .ok (p d, st) ∧ (p d = true → te env1 st = .ok (f d, st))) → lcGo sub t tt te env ds acc st = .ok (acc ++ (ds.filter p).map f, st)
  | [], acc, _ => by rw [lcGo_nil hs]; simp
  | d :: ds, acc, h => by
    obtain ⟨env1, h1, h2, h3⟩ := h d (by simp)
    have ih := fun acc => lc_pure hs p f ds acc fun e he => h e (by simp [he])
    rw [lcGo_cons hs, h1]
    simp only [h2, noX_ok, R.bind_ok]
    cases e : p d with
    | true => simp [h3 e, ih, e]
    | false => simp [ih, e]
theorem lc_map {sub : List (Nat × List D)} {t : Tg1} {te : EV} {env : Env} {st : Store} (hs : still sub st = true) (f : D → D) (ds : List D) (h : ∀ d ∈ ds, ∃ env1, t.put d env = some env1 ∧ te env1 st = .ok (f d, st)) : lcGo sub t tYesD te env ds [] st = .ok (ds.map f, st) := by
  have := lc_pure (tt := tYesD) hs (fun _ => true) f ds [] fun d hd => let ⟨e, a, b⟩ := h d hd; ⟨e, a, rfl, fun _ => b⟩
  rw [this, List.filter_eq_self.mpr (by simp)]
  simp
/-- a loop by its invariant: what is so ahead of the i-th turn -/
theorem for_inv {sub : List (Nat × List D)} {g : GV} {b : SV} (I : Nat → Env → Store → Prop) {ds : List D} {env : Env} {st : Store} (h0 : I 0 env st) (hst : ∀ i env st, i ≤ ds.length → I i env st → still sub st = true)
    (turn : ∀ i d env st, ds[i]? = some d → I i env st → ∃ e1 s1 e2 s2, g d env st = .ok (e1, s1) ∧ (b e1 s1 = .nx e2 s2 ∨ b e1 s1 = .ct e2 s2) ∧ I (i + 1) e2 s2) : ∃ e s, forGo sub g b ds env st = .nx e s ∧ I ds.length e s := by
  have gen : ∀ (es : List D) (i : Nat) (env : Env) (st : Store), i + es.length = ds.length → ds.drop i = es → I i env st → ∃ e s, forGo sub g b es env st = .nx e s ∧ I ds.length e s := by
    intro es
    induction es with
    | nil =>
      intro i env st hl hd hI
      refine ⟨env, st, forGo_nil (hst i env st (by omega) hI), ?_⟩
      have : i = ds.length := by simpa using hl
      rw [← this]; exact hI
    | cons d es ih =>
      intro i env st hl hd hI
      have hi : ds[i]? = some d := by
        have := congrArg (fun l => l[0]?) hd
        simpa using this
      obtain ⟨e1, s1, e2, s2, a1, a2, a3⟩ := turn i d env st hi hI
      obtain ⟨e, s, r1, r2⟩ := ih (i + 1) e2 s2 (by simp at hl; omega) (by
        have : ds.drop (i + 1) = (ds.drop i).drop 1 := by rw [List.drop_drop]
        rw [this, hd]; rfl) a3
      refine ⟨e, s, ?_, r2⟩
      rw [forGo_cons (hst i env st (by simp at hl; omega) hI), a1]
      rcases a2 with a2 | a2 <;> simp [a2, r1]
  exact gen ds 0 env st (by simp) (by simp) h0
/-- a loop that looks for something, and returns or raises -/
theorem for_inv_end {sub : List (Nat × List D)} {g : GV} {b : SV} (I : Nat → Env → Store → Prop) (P : SR → Prop) {ds : List D} {env : Env} {st : Store} (h0 : I 0 env st) (hst : ∀ i env st, i ≤ ds.length → I i env st → still sub st = true)
    (turn : ∀ i d env st, ds[i]? = some d → I i env st → ∃ e1 s1, g d env st = .ok (e1, s1) ∧ ((∃ e2 s2, (b e1 s1 = .nx e2 s2 ∨ b e1 s1 = .ct e2 s2) ∧ I (i + 1) e2 s2) ∨ (∃ e2 s2, b e1 s1 = .bk e2 s2 ∧ P (.nx e2 s2)) ∨ (∃ d s2, b e1 s1 = .rt d s2 ∧ P (.rt d s2)) ∨ (∃ c p s2, b e1 s1 = .exc c p s2 ∧ P (.exc c p s2))))
    (done : ∀ e s, I ds.length e s → P (.nx e s)) : P (forGo sub g b ds env st) := by
  have gen : ∀ (es : List D) (i : Nat) (env : Env) (st : Store), i + es.length = ds.length → ds.drop i = es → I i env st → P (forGo sub g b es env st) := by
    intro es
    induction es with
    | nil =>
      intro i env st hl hd hI
      rw [forGo_nil (hst i env st (by omega) hI)]
      have : i = ds.length := by simpa using hl
      exact done env st (by rw [← this]; exact hI)
    | cons d es ih =>
      intro i env st hl hd hI
      have hi : ds[i]? = some d := by
        have := congrArg (fun l => l[0]?) hd
        simpa using this
      obtain ⟨e1, s1, a1, a2⟩ := turn i d env st hi hI
      rw [forGo_cons (hst i env st (by simp at hl; omega) hI), a1]
      rcases a2 with ⟨e2, s2, a2, a3⟩ | ⟨e2, s2, a2, a3⟩ | ⟨d', s2, a2, a3⟩ | ⟨c, p, s2, a2, a3⟩
      · have r := ih (i + 1) e2 s2 (by simp at hl; omega) (by
          have : ds.drop (i + 1) = (ds.drop i).drop 1 := by rw [List.drop_drop]
          rw [this, hd]; rfl) a3
        rcases a2 with a2 | a2 <;> simpa [a2] using r
      · simpa [a2] using a3
      · simpa [a2] using a3
      · simpa [a2] using a3
  exact gen ds 0 env st (by simp) (by simp) h0
end Dl
/-! ## DlLaw -/
/-! The head of a law, recursion. -/
namespace Dl
open PySem L2

section
variable {P : Program} {w : World} {W : Wd} {mg : Str → Option Value} {base : Heap} {X : Cx} {E : XK}
/-- the meaning that says nothing -/
def fvBad : FV := fun _ _ => .bad
theorem fn_bad {x : Str} {f : Addr} {fd : FuncData} {ps : List Str} {k n : Nat} (h1 : mg x = some (.ref f)) (h2 : PySem.W.keepIn W.K (.ref f) = true) (h3 : Binds W.K fd ps []) : Fn P w W mg base x k n fvBad :=
  ⟨f, fd, ps, ⟨fun _ _ _ _ ⟨_, _, _, _, _, _, _, _, z⟩ => z.elim, fun _ _ _ _ _ _ _ _ _ _ _ _ _ ⟨_, _, _, _, _, _, _, _, z⟩ => z.elim⟩, h1, h2, h3⟩
theorem dcallR {k n : Nat} {g : FV} {x : Str} {e : Expr} {es : List Expr} {p pos : Pos} {ga : AV} (c : Fn X.prog X.w W X.mg X.base x k n g) (hr : Room k X.A) (hx : Passes (L2.CX X.prog X.w) X E) (ha : DA W X E (e :: es) ga) (hK : X.K = W.K := by rfl) (hg : Gl X x := by rfl)
    (hdb : (x == ("__debug__" : Str)) = false := by decide) (he : starEach (e :: es) X.env = (false, eval e X.env) :: starEach es X.env := by rfl) (hpl : (backTo pos (starEach es X.env)).any (·.1) = false := by rfl) :
    DE W X E (.Call (.Name x p) (e :: es) [] pos) (eCall n g ga) := let ⟨f, fd, ps, F, a, b, c⟩ := c.ex; de_call hK F hr (Nat.le_refl _) hg a b c hx ha hdb he hpl
end
theorem fnE {P : Program} {w : World} {W : Wd} {mg : Str → Option Value} {base : Heap} {x qual : Str} {s : Stmt} {f : Addr} {fd : FuncData} {N ps : List Str} {k n q : Nat} {b : SV} (F : Fun W.K x qual s f fd) (S : FnScope N ps (defScope s)) (hn : ps.length = n) (hq : N.length = q)
    (hbody : ∀ (cdv : Value) (A : Around) (outer : List PySem.Env) (sh : Shared) (H : Hp) (E : XK), Room k (A.deeper (PyProof.Rows.envOfC qual (defScope s) sh.heap.objs.size f cdv)) →
      DB W (cxOf (L2.CX P w) P w W.K mg base N qual (defScope s) f cdv A outer sh H E) E (defBody s) b) : FnOk P w W.K mg base (L2.CX P w) (k + 1) f fd ps (spD W n (funD q b)) := by
  subst hq
  exact fnD F S hn hbody
/-- the law's promise: from a script that the caller holds -/
def spLaw (n : Nat) : Sp := fun vs H Q _ => ∃ (a : Addr) (o : Obj) (ns : List Int), vs = [.ref a] ∧ H a = some (.frz o (.lst (ns.map V.int))) ∧ ns.length ≤ n ∧ ∀ H', Q (.bl true) H'
theorem isTbl_some {o : Option HO} (h : isTbl o = true) : ∃ ps, o = some (.tbl ps) := by
  unfold isTbl at h
  split at h
  · exact ⟨_, rfl⟩
  · cases h
def noTbl (H : Hp) : Hp := fun a => if isTbl (H a) = true then none else H a
theorem noTbl_same (H : Hp) : Same (noTbl H) H := fun a o e => by
  unfold noTbl at e
  split at e
  · cases e
  · exact e
theorem noTbl_ne (H : Hp) (a : Addr) (ps : Array Value) : noTbl H a ≠ some (.tbl ps) := fun e => by
  unfold noTbl at e
  split at e
  · cases e
  · rename_i n
    exact n (by rw [e]; rfl)
theorem noTbl_at {H : Hp} {a : Addr} {o : HO} (e : H a = some o) (n : ∀ ps, o ≠ .tbl ps) : noTbl H a = some o := by
  unfold noTbl
  rw [if_neg fun z => ?_]
  · exact e
  · obtain ⟨ps, q⟩ := isTbl_some z
    rw [e] at q
    exact n ps (Option.some.inj q)
/-- the law's promise, from a script that the caller holds, and empty tables at T -/
def spLawT (T : List Addr) (n : Nat) : Sp := fun vs H Q _ => ∃ (a : Addr) (ns : List Int), vs = [.ref a] ∧ ScrAt H a ns ∧ (∀ P ∈ T, H P = some (.tbl #[])) ∧ ns.length ≤ n ∧ ∀ H', Q (.bl true) H'
theorem law_ofT {P : Program} {w : World} {W : Wd} {mg : Str → Option Value} {base : Heap} {k n : Nat} {g : FV} {f : Addr} {fd : FuncData} {ps : List Str} {T : List Addr} (F : FnOk P w W.K mg base (L2.CX P w) k f fd ps (spD W 1 g))
    (h : ∀ ns : List Int, ns.length ≤ n → ∃ st, g [.scr ns] [] = .ok (.bl true, st)) (hT : ∀ p ∈ W.tabs, p.1 ∈ T) : FnOk P w W.K mg base (L2.CX P w) k f fd ps (spLawT T n) := by
  refine F.imp fun vs H Q E ⟨a, ns, e, hH, hP, hl, hQ⟩ => ?_
  subst e
  have hN : ScrAt (noTbl H) a ns := by
    rcases hH with ⟨o, hH⟩ | hH
    · exact .inl ⟨o, noTbl_at hH fun _ z => by cases z⟩
    · exact .inr (noTbl_at hH fun _ z => by cases z)
  obtain ⟨st, hst⟩ := h ns hl
  refine ⟨fun _ => none, noTbl H, [], [], [.scr ns], ⟨noTbl_same H, fun _ _ z => (by cases z), fun _ _ => rfl, rfl, List.nodup_nil, fun _ m => (by cases m), fun i a o e1 _ => (by simp at e1), ⟨fun t ht => ⟨.nil (hP _ (hT t ht)), ?_, rfl, (by simp)⟩, noTbl_ne H, fun _ _ z => (by cases z)⟩⟩, .cons (.scr hN) .nil, rfl, ?_⟩
  · unfold noTbl
    rw [if_pos (by rw [hP _ (hT t ht)]; rfl)]
  · rw [hst]
    intro F' H' r' v s x h1 k
    cases k
    exact hQ _
theorem law_of {P : Program} {w : World} {W : Wd} {mg : Str → Option Value} {base : Heap} {k n : Nat} {g : FV} {f : Addr} {fd : FuncData} {ps : List Str} (F : FnOk P w W.K mg base (L2.CX P w) k f fd ps (spD W 1 g))
    (h : ∀ ns : List Int, ns.length ≤ n → ∃ st, g [.scr ns] [] = .ok (.bl true, st)) (hT : W.tabs = []) : FnOk P w W.K mg base (L2.CX P w) k f fd ps (spLaw n) :=
  (law_ofT (T := []) F h (by rw [hT]; intro p hp; cases hp)).imp fun vs H Q E ⟨a, o, ns, e, hH, hl, hQ⟩ => ⟨a, ns, e, .inl ⟨o, hH⟩, fun _ h => (by cases h), hl, hQ⟩
/-- no object of the written part is a list -/
def noList (K : PySem.W.Frag) : Prop := ∀ a o, K.lookup a = some o → o.cls ≠ .type "list"
theorem mem_of_look {A B : Type} [BEq A] [LawfulBEq A] {a : A} {b : B} : ∀ {l : List (A × B)}, l.lookup a = some b → (a, b) ∈ l
  | [], e => by simp at e
  | (x, y) :: l, e => by
    rw [List.lookup_cons] at e
    cases h : a == x with
    | true => rw [h] at e; cases e; rw [eq_of_beq h]; exact List.mem_cons_self
    | false => rw [h] at e; exact List.mem_cons_of_mem _ (mem_of_look e)
def noListB (K : PySem.W.Frag) : Bool := K.all fun p => match p.2.cls with
  | .type s => !(s == "list")
  | _ => true
theorem noList_of {K : PySem.W.Frag} (h : noListB K = true) : noList K := fun a o e z => by
  have m : (a, o) ∈ K := by
    exact mem_of_look e
  have q := List.all_eq_true.mp h _ m
  simp only at q
  rw [z] at q
  revert q
  decide +kernel
theorem law_walk {l : PySem.W.OpenLaw} {n k : Nat} {q : Program} {loose : List Str} {XP : (Str → Option Value) → Heap → Prop} {YP : World → Heap → Prop} {d : DefRec} {K : Params → PySem.W.Frag} {x : Str} (hn : l.most = some n) (hn2 : n ≤ sizeLine) (hdf : d.params.defaults = []) (hr : Room k callerA)
    (hL : ∀ w : World, noList (K w.params))
    (hY : ∀ (w : World) (h : Heap), YP w h → (K w.params).In h)
    (F : ∀ (w : World) (mg : Str → Option Value) (fa : Addr) (h : Heap), (K w.params).In h → h.Ns mainGlobals mg → mg d.name = some (.ref fa) →
      ∃ fd : FuncData, (∀ (s : Shared) (u : Value), BindsTo s fd ⟨[u], []⟩ [(x, u)]) ∧ ∀ base : Heap, (K w.params).In base → base.Ns mainGlobals mg → FnOk l.prog w (K w.params) mg base (L2.CX l.prog w) k fa fd [x] (spLaw n)) :
    PySem.W.WalkO q loose XP YP l.row.toRowW d [] (fun f vs => PySem.call f vs) :=
  L2.walk_of (n := n) (k := k) (x := x) (CX := fun w => L2.CX l.prog w) (sp := fun _ => spLaw n) hn hn2 hdf hr hY F (fun w H a ns hl hO hS => by
    rcases hS with hS | ⟨o, its, m, h1, h2, _⟩
    · rcases hS with hS | ⟨o, hS⟩
      · rcases hO a with z | ⟨o, xs, z⟩
        · rw [hS] at z; cases z
        · rw [hS] at z; cases z
      · exact ⟨a, o, ns, rfl, hS, hl, fun _ => rfl⟩
    · exact absurd h2 (hL w a o h1)) fun _ _ _ _ _ ⟨_, _, _, _, _, _, _, _, _, _, _, _, z⟩ => z
end Dl
/-! ## B0 -/
/-! Plain data, equality, loops. -/
namespace Dl
open PySem L2

mutual
def D.toQ : D → PyData
  | .non => .none
  | .bl b => .bool b
  | .int i => .int i
  | .str s => .str ⟨s.toArray⟩
  | .tup ds => .tuple (D.toQs ds)
  | .lst ds => .list (D.toQs ds)
  | .ref _ => .none
  | .scr _ => .none
  | .exn _ _ => .none
def D.toQs : List D → List PyData
  | [] => []
  | d :: ds => D.toQ d :: D.toQs ds
end
mutual
/-- no reference, no truth value -/
def D.pl : D → Bool
  | .bl _ => false
  | .tup ds => D.pls ds
  | .lst ds => D.pls ds
  | .ref _ => false
  | .scr _ => false
  | .exn _ _ => false
  | _ => true
def D.pls : List D → Bool
  | [] => true
  | d :: ds => D.pl d && D.pls ds
end
mutual
def D.dp : D → Nat
  | .tup ds => D.dps ds + 1
  | .lst ds => D.dps ds + 1
  | _ => 1
def D.dps : List D → Nat
  | [] => 0
  | d :: ds => max (D.dp d) (D.dps ds)
end
theorem pls_iff : ∀ {ds : List D}, D.pls ds = true ↔ ∀ d ∈ ds, D.pl d = true
  | [] => by simp [D.pls]
  | d :: ds => by simp [D.pls, pls_iff (ds := ds)]
theorem dps_le {n : Nat} : ∀ {ds : List D}, D.dps ds ≤ n ↔ ∀ d ∈ ds, D.dp d ≤ n
  | [] => by simp [D.dps]
  | d :: ds => by simp [D.dps, Nat.max_le, dps_le (ds := ds)]
mutual
theorem toP_pl {st : Store} : ∀ (n : Nat) (d : D), D.pl d = true → D.dp d ≤ n → toP st n d = some (D.toQ d)
  | 0, d, _, h => by cases d <;> simp [D.dp] at h
  | n + 1, .non, _, _ => rfl
  | n + 1, .bl _, h, _ => by simp [D.pl] at h
  | n + 1, .int _, _, _ => rfl
  | n + 1, .str _, _, _ => rfl
  | n + 1, .tup ds, h, k => by
    rw [D.pl] at h
    rw [D.dp] at k
    rw [toP]
    simp only [toPs_pl n ds h (by omega), D.toQ]
  | n + 1, .lst ds, h, k => by
    rw [D.pl] at h
    rw [D.dp] at k
    rw [toP]
    simp only [toPs_pl n ds h (by omega), D.toQ]
  | n + 1, .ref _, h, _ => by simp [D.pl] at h
  | n + 1, .scr _, h, _ => by simp [D.pl] at h
  | n + 1, .exn _ _, h, _ => by simp [D.pl] at h
theorem toPs_pl {st : Store} : ∀ (n : Nat) (ds : List D), D.pls ds = true → D.dps ds ≤ n → optAll (ds.map (toP st n)) = some (D.toQs ds)
  | n, [], _, _ => by simp [optAll, D.toQs]
  | n, d :: ds, h, k => by
    simp only [D.pls, Bool.and_eq_true] at h
    simp only [D.dps, Nat.max_le] at k
    rw [List.map_cons, toP_pl n d h.1 k.1, optAll, toPs_pl n ds h.2 k.2]
    simp only [D.toQs]
end
mutual
theorem eqv_pl : ∀ (d e : D), D.pl d = true → D.pl e = true → PyData.eqv d.toQ e.toQ = D.beq d e
  | .non, e, _, h => by cases e <;> simp_all [D.toQ, PyData.eqv, D.beq, D.pl]
  | .bl _, e, h, _ => by simp [D.pl] at h
  | .int _, e, _, h => by cases e <;> simp_all [D.toQ, PyData.eqv, D.beq, D.pl]
  | .str s, e, _, h => by
    cases e with
    | str t => simp only [D.toQ, PyData.eqv, D.beq, str_beq]
    | _ => simp_all [D.toQ, PyData.eqv, D.beq, D.pl]
  | .tup ds, e, h1, h => by
    cases e with
    | tup es =>
      simp only [D.pl] at h1 h
      simp only [D.toQ, PyData.eqv, D.beq]
      exact eqvs_pl ds es h1 h
    | _ => simp_all [D.toQ, PyData.eqv, D.beq, D.pl]
  | .lst ds, e, h1, h => by
    cases e with
    | lst es =>
      simp only [D.pl] at h1 h
      simp only [D.toQ, PyData.eqv, D.beq]
      exact eqvs_pl ds es h1 h
    | _ => simp_all [D.toQ, PyData.eqv, D.beq, D.pl]
  | .ref _, e, h, _ => by simp [D.pl] at h
  | .scr _, e, h, _ => by simp [D.pl] at h
  | .exn _ _, e, h, _ => by simp [D.pl] at h
theorem eqvs_pl : ∀ (ds es : List D), D.pls ds = true → D.pls es = true → PyData.eqvAll (D.toQs ds) (D.toQs es) = D.beqs ds es
  | [], [], _, _ => by simp only [D.toQs, PyData.eqvAll, D.beqs]
  | [], e :: es, _, _ => by simp only [D.toQs, PyData.eqvAll, D.beqs]
  | d :: ds, [], _, _ => by simp only [D.toQs, PyData.eqvAll, D.beqs]
  | d :: ds, e :: es, h1, h2 => by
    simp only [D.pls, Bool.and_eq_true] at h1 h2
    simp only [D.toQs, PyData.eqvAll, D.beqs]
    rw [eqv_pl d e h1.1 h2.1, eqvs_pl ds es h1.2 h2.2]
end
instance : DecidableEq D := fun d e => if h : D.beq d e = true then isTrue (D.eq_of_beq d e h) else isFalse fun z => h (z ▸ D.beq_refl d)
theorem beq_dec (d e : D) : D.beq d e = decide (d = e) := by
  by_cases h : d = e
  · subst h; simp [D.beq_refl]
  · simp only [h, decide_false]
    cases q : D.beq d e with
    | true => exact absurd (D.eq_of_beq d e q) h
    | false => rfl
/-- equality of plain data -/
theorem eqG_pl {neg : Bool} {st : Store} {d e : D} (h1 : D.pl d = true) (h2 : D.pl e = true) (k1 : D.dp d ≤ 40) (k2 : D.dp e ≤ 40) : eqG neg st d e = .ok (.bl (if neg = true then !decide (d = e) else decide (d = e)), st) := by
  unfold eqG
  rw [toP_pl 40 d h1 k1, toP_pl 40 e h2 k2]
  simp only [eqv_pl d e h1 h2, beq_dec]
theorem toP_ref {n k : Nat} {st : Store} {ds : List D} (h : st[k]? = some (.lst ds)) : toP st (n + 1) (.ref k) = toP st (n + 1) (.lst ds) := by
  rw [toP, toP]
  simp only [h]
theorem eqG_refL {neg : Bool} {st : Store} {k : Nat} {ds : List D} {e : D} (h : st[k]? = some (.lst ds)) : eqG neg st (.ref k) e = eqG neg st (.lst ds) e := by
  unfold eqG; rw [toP_ref (n := 39) h]
theorem eqG_refR {neg : Bool} {st : Store} {k : Nat} {ds : List D} {e : D} (h : st[k]? = some (.lst ds)) : eqG neg st e (.ref k) = eqG neg st e (.lst ds) := by
  unfold eqG; rw [toP_ref (n := 39) h]
@[simp] theorem eqG_int {neg : Bool} {st : Store} (i j : Int) : eqG neg st (.int i) (.int j) = .ok (.bl (if neg = true then !decide (i = j) else decide (i = j)), st) := by
  rw [eqG_pl rfl rfl (by simp [D.dp]) (by simp [D.dp])]
  simp
@[simp] theorem eqG_str {neg : Bool} {st : Store} (i j : List Nat) : eqG neg st (.str i) (.str j) = .ok (.bl (if neg = true then !decide (i = j) else decide (i = j)), st) := by
  rw [eqG_pl rfl rfl (by simp [D.dp]) (by simp [D.dp])]
  simp
@[simp] theorem eqG_bl {neg : Bool} {st : Store} (i j : Bool) : eqG neg st (.bl i) (.bl j) = .ok (.bl (if neg = true then !(i == j) else (i == j)), st) := by
  unfold eqG
  simp [toP, PyData.eqv]
@[simp] theorem pl_int (i : Int) : D.pl (.int i) = true := rfl
@[simp] theorem pl_str (s : List Nat) : D.pl (.str s) = true := rfl
@[simp] theorem pl_non : D.pl .non = true := rfl
@[simp] theorem pl_tup (ds : List D) : D.pl (.tup ds) = D.pls ds := by rw [D.pl]
@[simp] theorem pl_lst (ds : List D) : D.pl (.lst ds) = D.pls ds := by rw [D.pl]
@[simp] theorem pls_nil : D.pls [] = true := rfl
@[simp] theorem pls_cons (d : D) (ds : List D) : D.pls (d :: ds) = (D.pl d && D.pls ds) := by rw [D.pls]
@[simp] theorem dp_int (i : Int) : D.dp (.int i) = 1 := rfl
@[simp] theorem dp_str (s : List Nat) : D.dp (.str s) = 1 := rfl
@[simp] theorem dp_non : D.dp .non = 1 := rfl
@[simp] theorem dp_tup (ds : List D) : D.dp (.tup ds) = D.dps ds + 1 := by rw [D.dp]
@[simp] theorem dp_lst (ds : List D) : D.dp (.lst ds) = D.dps ds + 1 := by rw [D.dp]
@[simp] theorem dps_nil : D.dps [] = 0 := rfl
@[simp] theorem dps_cons (d : D) (ds : List D) : D.dps (d :: ds) = max (D.dp d) (D.dps ds) := by rw [D.dps]
@[simp] theorem pls_strs (ss : List (List Nat)) : D.pls (ss.map D.str) = true := pls_iff.mpr fun d h => by
  obtain ⟨s, _, rfl⟩ := List.mem_map.mp h; rfl
@[simp] theorem pls_ints (ss : List Int) : D.pls (ss.map D.int) = true := pls_iff.mpr fun d h => by
  obtain ⟨s, _, rfl⟩ := List.mem_map.mp h; rfl
theorem dps_strs (ss : List (List Nat)) : D.dps (ss.map D.str) ≤ 1 := dps_le.mpr fun d h => by
  obtain ⟨s, _, rfl⟩ := List.mem_map.mp h; exact Nat.le_refl _
theorem dps_ints (ss : List Int) : D.dps (ss.map D.int) ≤ 1 := dps_le.mpr fun d h => by
  obtain ⟨s, _, rfl⟩ := List.mem_map.mp h; exact Nat.le_refl _

@[simp] theorem lim_0 : (0 ≤ LIM) = True := eq_true (le_LIM (by decide))
@[simp] theorem lim_1 : (1 ≤ LIM) = True := eq_true (le_LIM (by decide))
@[simp] theorem lim_2 : (2 ≤ LIM) = True := eq_true (le_LIM (by decide))
@[simp] theorem lim_3 : (3 ≤ LIM) = True := eq_true (le_LIM (by decide))
@[simp] theorem lim_4 : (4 ≤ LIM) = True := eq_true (le_LIM (by decide))
@[simp] theorem lim_5 : (5 ≤ LIM) = True := eq_true (le_LIM (by decide))
@[simp] theorem lim_6 : (6 ≤ LIM) = True := eq_true (le_LIM (by decide))
@[simp] theorem lim_7 : (7 ≤ LIM) = True := eq_true (le_LIM (by decide))
@[simp] theorem lim_8 : (8 ≤ LIM) = True := eq_true (le_LIM (by decide))
@[simp] theorem lim_9 : (9 ≤ LIM) = True := eq_true (le_LIM (by decide))
@[simp] theorem lim_10 : (10 ≤ LIM) = True := eq_true (le_LIM (by decide))
@[simp] theorem lim_11 : (11 ≤ LIM) = True := eq_true (le_LIM (by decide))
@[simp] theorem lim_12 : (12 ≤ LIM) = True := eq_true (le_LIM (by decide))
@[simp] theorem lim_13 : (13 ≤ LIM) = True := eq_true (le_LIM (by decide))
@[simp] theorem lim_14 : (14 ≤ LIM) = True := eq_true (le_LIM (by decide))
@[simp] theorem lim_15 : (15 ≤ LIM) = True := eq_true (le_LIM (by decide))
@[simp] theorem wipe_nil (env : Env) : wipeD env [] = env := rfl
@[simp] theorem wipe_cons (env : Env) (v : Nat) (vs : List Nat) : wipeD env (v :: vs) = (wipeD env vs).set v none := rfl
@[simp] theorem intsD_len (lo : Int) (n : Nat) : (intsD lo n).length = n := by simp [intsD]
/-! ### running: only the first part of a sequence is looked into -/
@[simp ↓] theorem bind_m {A B : Type} (r : R A) (f : A → R B) : r.bind f = match r with
  | .ok a => f a
  | .exc c p st => .exc c p st
  | .bad => .bad := (rfl)
@[simp ↓] theorem sOf_m {A : Type} (r : R A) (f : A → SR) : sOf r f = match r with
  | .ok a => f a
  | .exc c p st => .exc c p st
  | .bad => .bad := (rfl)
/-- a turn's end that goes on -/
def SR.turn (r : SR) (J : Env → Store → Prop) : Prop := match r with
  | .nx e s => J e s
  | .ct e s => J e s
  | _ => False
@[simp] theorem turn_nx (e : Env) (s : Store) (J : Env → Store → Prop) : (SR.nx e s).turn J = J e s := rfl
@[simp] theorem turn_ct (e : Env) (s : Store) (J : Env → Store → Prop) : (SR.ct e s).turn J = J e s := rfl
theorem turn_ex {r : SR} {J : Env → Store → Prop} (h : r.turn J) : ∃ e s, (r = .nx e s ∨ r = .ct e s) ∧ J e s := by
  cases r with
  | nx e s => exact ⟨e, s, .inl rfl, h⟩
  | ct e s => exact ⟨e, s, .inr rfl, h⟩
  | _ => exact h.elim
theorem for_at {sub : List (Nat × List D)} {g : GV} {b : SV} {ds : List D} {env : Env} {st : Store} {r : SR} (hf : forGo sub g b ds env st = r) (I : Nat → Env → Store → Prop) (h0 : I 0 env st)
    (hst : ∀ i env st, i ≤ ds.length → I i env st → still sub st = true)
    (turn : ∀ i d env st, ds[i]? = some d → I i env st → (sOf (g d env st) fun a => b a.1 a.2).turn (I (i + 1))) : ∃ e s, r = .nx e s ∧ I ds.length e s := by
  subst hf
  refine for_inv I h0 hst fun i d env st hd hI => ?_
  have t := turn i d env st hd hI
  cases q : g d env st with
  | ok a =>
    obtain ⟨e1, s1⟩ := a
    rw [q] at t
    obtain ⟨e2, s2, t1, t2⟩ := turn_ex t
    exact ⟨e1, s1, e2, s2, rfl, t1, t2⟩
  | exc c p s => rw [q] at t; exact t.elim
  | bad => rw [q] at t; exact t.elim
/-- a turn's end: on, or out -/
def SR.turnE (r : SR) (J : Env → Store → Prop) (P : SR → Prop) : Prop := match r with
  | .nx e s => J e s
  | .ct e s => J e s
  | .bk e s => P (.nx e s)
  | .rt d s => P (.rt d s)
  | .exc c p s => P (.exc c p s)
  | .bad => False
@[simp] theorem turnE_nx (e : Env) (s : Store) (J : Env → Store → Prop) (P : SR → Prop) : (SR.nx e s).turnE J P = J e s := rfl
@[simp] theorem turnE_ct (e : Env) (s : Store) (J : Env → Store → Prop) (P : SR → Prop) : (SR.ct e s).turnE J P = J e s := rfl
@[simp] theorem turnE_bk (e : Env) (s : Store) (J : Env → Store → Prop) (P : SR → Prop) : (SR.bk e s).turnE J P = P (.nx e s) := rfl
@[simp] theorem turnE_rt (d : D) (s : Store) (J : Env → Store → Prop) (P : SR → Prop) : (SR.rt d s).turnE J P = P (.rt d s) := rfl
@[simp] theorem turnE_exc (c : Nat) (p : Option D) (s : Store) (J : Env → Store → Prop) (P : SR → Prop) : (SR.exc c p s).turnE J P = P (.exc c p s) := rfl
theorem for_atE {sub : List (Nat × List D)} {g : GV} {b : SV} {ds : List D} {env : Env} {st : Store} {r : SR} (hf : forGo sub g b ds env st = r) (I : Nat → Env → Store → Prop) (P : SR → Prop) (h0 : I 0 env st)
    (hst : ∀ i env st, i ≤ ds.length → I i env st → still sub st = true)
    (turn : ∀ i d env st, ds[i]? = some d → I i env st → ∃ e1 s1, g d env st = .ok (e1, s1) ∧ (b e1 s1).turnE (I (i + 1)) P)
    (done : ∀ e s, I ds.length e s → P (.nx e s)) : P r := by
  subst hf
  refine for_inv_end I P h0 hst (fun i d env st hd hI => ?_) done
  obtain ⟨e1, s1, q, t⟩ := turn i d env st hd hI
  refine ⟨e1, s1, q, ?_⟩
  cases w : b e1 s1 with
  | nx e s => rw [w] at t; exact .inl ⟨e, s, .inl rfl, t⟩
  | ct e s => rw [w] at t; exact .inl ⟨e, s, .inr rfl, t⟩
  | bk e s => rw [w] at t; exact .inr (.inl ⟨e, s, rfl, t⟩)
  | rt d s => rw [w] at t; exact .inr (.inr (.inl ⟨d, s, rfl, t⟩))
  | exc c p s => rw [w] at t; exact .inr (.inr (.inr ⟨c, p, s, rfl, t⟩))
  | bad => rw [w] at t; exact t.elim
/-- the value of an expression, with what is so behind it -/
def R.to {A : Type} (r : R (A × Store)) (J : A → Store → Prop) : Prop := match r with
  | .ok a => J a.1 a.2
  | _ => False
@[simp] theorem to_ok {A : Type} (a : A × Store) (J : A → Store → Prop) : (R.ok a).to J = J a.1 a.2 := rfl
theorem lc_at {sub : List (Nat × List D)} {t : Tg1} {tt : TV} {te : EV} {env : Env} {ds : List D} {st : Store} {r : R (List D × Store)} (hf : lcGo sub t tt te env ds [] st = r) (I : Nat → List D → Store → Prop) (h0 : I 0 [] st)
    (hst : ∀ i acc st, i ≤ ds.length → I i acc st → still sub st = true)
    (turn : ∀ i d acc st, ds[i]? = some d → I i acc st → ∃ env1, t.put d env = some env1 ∧ (tt env1 st).to fun b st1 => if b = true then (te env1 st1).to fun y st2 => I (i + 1) (acc ++ [y]) st2 else I (i + 1) acc st1) :
    ∃ acc s, r = .ok (acc, s) ∧ I ds.length acc s := by
  subst hf
  have gen : ∀ (es : List D) (i : Nat) (acc : List D) (st : Store), i + es.length = ds.length → ds.drop i = es → I i acc st → ∃ acc' s, lcGo sub t tt te env es acc st = .ok (acc', s) ∧ I ds.length acc' s := by
    intro es
    induction es with
    | nil =>
      intro i acc st hl hd hI
      have : i = ds.length := by simpa using hl
      exact ⟨acc, st, lcGo_nil (hst i acc st (by omega) hI), this ▸ hI⟩
    | cons d es ih =>
      intro i acc st hl hd hI
      have hi : ds[i]? = some d := by
        have := congrArg (fun l => l[0]?) hd
        simpa using this
      have hd' : ds.drop (i + 1) = es := by
        have : ds.drop (i + 1) = (ds.drop i).drop 1 := by rw [List.drop_drop]
        rw [this, hd]; rfl
      have hl' : i + 1 + es.length = ds.length := by simp at hl; omega
      obtain ⟨env1, p1, p2⟩ := turn i d acc st hi hI
      rw [lcGo_cons (hst i acc st (by simp at hl; omega) hI), p1]
      show ∃ acc' s, ((noX (tt env1 st)).bind fun b => if b.1 = true then (noX (te env1 b.2)).bind fun y => lcGo sub t tt te env es (acc ++ [y.1]) y.2 else lcGo sub t tt te env es acc b.2) = .ok (acc', s) ∧ I ds.length acc' s
      cases q : tt env1 st with
      | ok b =>
        obtain ⟨b, st1⟩ := b
        rw [q] at p2
        simp only [to_ok] at p2
        simp only [noX_ok, R.bind_ok]
        cases b with
        | true =>
          simp only [if_true] at p2 ⊢
          cases q2 : te env1 st1 with
          | ok y =>
            rw [q2] at p2
            simp only [noX_ok, R.bind_ok]
            exact ih _ _ _ hl' hd' p2
          | exc c p s => rw [q2] at p2; exact p2.elim
          | bad => rw [q2] at p2; exact p2.elim
        | false => exact ih _ _ _ hl' hd' p2
      | exc c p s => rw [q] at p2; exact p2.elim
      | bad => rw [q] at p2; exact p2.elim
  exact gen ds 0 [] st (by simp) (by simp) h0
end Dl
/-! ## D1 -/
/-! The meanings of some defs (printed by pick.py). -/
namespace Dl
open PySem L2
/-- is_sign: 1 slots, 1 parameters -/
def d_is_sign : SV := sRet (eAnd (eChain leG leG (eC (.str [32])) (eV 0) (eC (.str [126]))) (eOp (eqG true) (eB ordG (aCons (eV 0) (aNil))) (eC (.int 37))))
/-- is_cell: 2 slots, 1 parameters -/
def d_is_cell (m_is_sign : FV) : SV := sCons (sIf (tOrD (tNotD (tv (eIs "str" (eV 0)))) (tv (eOp gtG (eB lenG (aCons (eV 0) (aNil))) (eC (.int 10))))) (sRet (eC (.bl false))) (sNext)) (sRet (eOp (eqG false) (eLc false (iSeq (eV 0)) [1] (.one 1) (tNotD (tv (eCall 1 m_is_sign (aCons (eV 1) (aNil))))) (eV 1)) (eLst false (aNil))))
/-- is_row: 2 slots, 1 parameters -/
def d_is_row (m_is_cell : FV) : SV := sCons (sIf (tOrD (tNotD (tv (eIs "tuple" (eV 0)))) (tNotD (tv (eChain leG leG (eC (.int 1)) (eB lenG (aCons (eV 0) (aNil))) (eC (.int 6)))))) (sRet (eC (.bl false))) (sNext)) (sRet (eOp (eqG false) (eLc false (iSeq (eV 0)) [1] (.one 1) (tNotD (tv (eCall 1 m_is_cell (aCons (eV 1) (aNil))))) (eV 1)) (eLst false (aNil))))
/-- need_page: 3 slots, 1 parameters -/
def d_need_page (m_is_row : FV) : SV := sCons (sIf (tOrD (tNotD (tv (eIs "list" (eV 0)))) (tv (eOp (eqG false) (eV 0) (eLst false (aNil))))) (sBad) (sNext)) (sFor (iEn (aCons (eV 0) (aNil))) (gTp 2 (gsCons (gN 1) (gsCons (gN 2) (gsNil)))) (sIf (tOrD (tv (eOp geG (eV 1) (eC (.int 30)))) (tNotD (tv (eCall 1 m_is_row (aCons (eV 2) (aNil)))))) (sBad) (sNext)))
/-- written: 2 slots, 1 parameters -/
def d_written (m_need_page : FV) : SV := sCons (sExpr (eCall 1 m_need_page (aCons (eV 0) (aNil)))) (sRet (eMt "str" (joinG) (eC (.str [10])) (aCons (eLc false (iSeq (eV 0)) [1] (.one 1) (tYesD) (eMt "str" (joinG) (eC (.str [9])) (aCons (eB (listG false) (aCons (eV 1) (aNil))) (aNil)))) (aNil))))
/-- read: 5 slots, 1 parameters -/
def d_read (m_is_row : FV) : SV := sCons (sAsg (eLst true (aNil)) (gN 1)) (sCons (sFor (iEn (aCons (eMt "str" (splitG false) (eV 0) (aCons (eC (.str [10])) (aNil))) (aNil))) (gTp 2 (gsCons (gN 2) (gsCons (gN 3) (gsNil)))) (sCons (sAsg (eB tupG (aCons (eMt "str" (splitG false) (eV 3) (aCons (eC (.str [9])) (aNil))) (aNil))) (gN 4)) (sCons (sIf (tOrD (tv (eOp geG (eV 2) (eC (.int 30)))) (tNotD (tv (eCall 1 m_is_row (aCons (eV 4) (aNil)))))) (sBad) (sNext)) (sExpr (eMt "list" (appendG) (eV 1) (aCons (eV 4) (aNil))))))) (sRet (eV 1)))
/-- law_begun: 3 slots, 1 parameters -/
def d_law_begun : SV := sCons (sAsg (eC (.int 0)) (gN 1)) (sCons (sFor (iSeq (eV 0)) (gN 2) (sAsg (eOp modG (eOp (addG true) (eOp (addG true) (eOp (mulG true) (eV 1) (eC (.int 48271))) (eOp (mulG true) (eV 2) (eC (.int 69621)))) (eC (.int 11))) (eC (.int 2147483647))) (gN 1))) (sRet (eLst true (aCons (eB (listG true) (aCons (eV 0) (aNil))) (aCons (eOp (mulG true) (eV 1) (eB intG (aCons (eOp gtG (eB lenG (aCons (eV 0) (aNil))) (eC (.int 2))) (aNil)))) (aNil))))))
/-- law_take: 3 slots, 2 parameters -/
def d_law_take : SV := sCons (sIf (tv (eOp (eqG false) (eOp ixG (eV 0) (eC (.int 0))) (eLst false (aNil)))) (sCons (sAsg (eOp modG (eOp (mulG false) (eOp ixG (eV 0) (eC (.int 1))) (eC (.int 48271))) (eC (.int 2147483647))) (gSb (eV 0) (eC (.int 1)) setLG)) (sRet (eOp modG (eOp divG (eOp ixG (eV 0) (eC (.int 1))) (eC (.int 7))) (eV 1)))) (sNext)) (sCons (sAsg (eOp ixG (eOp ixG (eV 0) (eC (.int 0))) (eC (.int 0))) (gN 2)) (sCons (sAsg (eOp divG (eV 2) (eV 1)) (gSb (eOp ixG (eV 0) (eC (.int 0))) (eC (.int 0)) setLG)) (sCons (sIf (tOrD (tv (eOp (eqG false) (eOp ixG (eOp ixG (eV 0) (eC (.int 0))) (eC (.int 0))) (eC (.int 0)))) (tv (eOp (eqG false) (eOp ixG (eOp ixG (eV 0) (eC (.int 0))) (eC (.int 0))) (eNeg (eC (.int 1)))))) (sExpr (eMt "list" (popG) (eOp ixG (eV 0) (eC (.int 0))) (aCons (eC (.int 0)) (aNil)))) (sNext)) (sRet (eOp modG (eV 2) (eV 1))))))
/-- law_alike: 3 slots, 2 parameters -/
def d_law_alike (rec_ : FV) : SV := sCons (sIf (tv (eOp (isG false) (eV 1) (eC .non))) (sRet (eOp (isG false) (eV 0) (eC .non))) (sNext)) (sCons (sIf (tv (eIs "bool" (eV 1))) (sRet (eAnd (eIs "bool" (eV 0)) (eOp (eqG false) (eV 0) (eV 1)))) (sNext)) (sCons (sIf (tv (eIs "int" (eV 1))) (sRet (eAnd (eIs "int" (eV 0)) (eAnd (eNot (eIs "bool" (eV 0))) (eOp (eqG false) (eV 0) (eV 1))))) (sNext)) (sCons (sIf (tv (eIs "str" (eV 1))) (sRet (eAnd (eIs "str" (eV 0)) (eOp (eqG false) (eV 0) (eV 1)))) (sNext)) (sCons (sIf (tOrD (tv (eOp (eqG true) (eIs "tuple" (eV 1)) (eIs "tuple" (eV 0)))) (tv (eOp (eqG true) (eIs "list" (eV 1)) (eIs "list" (eV 0))))) (sRet (eC (.bl false))) (sNext)) (sCons (sIf (tv (eOp (eqG true) (eB lenG (aCons (eV 0) (aNil))) (eB lenG (aCons (eV 1) (aNil))))) (sRet (eC (.bl false))) (sNext)) (sCons (sFor (iR1 (aCons (eB lenG (aCons (eV 1) (aNil))) (aNil))) (gN 2) (sIf (tNotD (tv (eCall 2 rec_ (aCons (eOp ixG (eV 0) (eV 2)) (aCons (eOp ixG (eV 1) (eV 2)) (aNil)))))) (sRet (eC (.bl false))) (sNext))) (sRet (eC (.bl true)))))))))
/-- law_sign: 2 slots, 1 parameters -/
def d_law_sign (m_law_take : FV) : SV := sCons (sAsg (eC (.str [32, 33, 34, 35, 36, 38, 39, 40, 41, 42, 43, 44, 45, 46, 47, 48, 49, 50, 51, 52, 53, 54, 55, 56, 57, 58, 59, 60, 61, 62, 63, 64, 65, 66, 67, 68, 69, 70, 71, 72, 73, 74, 75, 76, 77, 78, 79, 80, 81, 82, 83, 84, 85, 86, 87, 88, 89, 90, 91, 92, 93, 94, 95, 96, 97, 98, 99, 100, 101, 102, 103, 104, 105, 106, 107, 108, 109, 110, 111, 112, 113, 114, 115, 116, 117, 118, 119, 120, 121, 122, 123, 124, 125, 126])) (gN 1)) (sRet (eOp ixG (eV 1) (eCall 2 m_law_take (aCons (eV 0) (aCons (eC (.int 94)) (aNil))))))
/-- law_cell: 6 slots, 2 parameters -/
def d_law_cell (m_law_take : FV) (m_law_sign : FV) : SV := sCons (sAsg (eCall 2 m_law_take (aCons (eV 0) (aCons (eC (.int 9)) (aNil)))) (gN 2)) (sCons (sIf (tv (eOp (eqG false) (eV 2) (eC (.int 0)))) (sRet (eC (.str []))) (sNext)) (sCons (sIf (tOrD (tv (eOp (eqG false) (eV 2) (eC (.int 1)))) (tAndD (tv (eOp (eqG false) (eV 1) (eC (.int 0)))) (tv (eOp ltG (eV 2) (eC (.int 7)))))) (sRet (eOp (addG false) (eOp ixG (eLst false (aCons (eC (.str [])) (aCons (eC (.str [45])) (aNil)))) (eOp divG (eCall 2 m_law_take (aCons (eV 0) (aCons (eC (.int 3)) (aNil)))) (eC (.int 2)))) (eB strG (aCons (eCall 2 m_law_take (aCons (eV 0) (aCons (eOp ixG (eLst false (aCons (eC (.int 10)) (aCons (eC (.int 1000)) (aCons (eOp powG (eC (.int 10)) (eC (.int 9))) (aNil))))) (eCall 2 m_law_take (aCons (eV 0) (aCons (eC (.int 3)) (aNil))))) (aNil)))) (aNil))))) (sNext)) (sCons (sIf (tv (eOp (eqG false) (eV 2) (eC (.int 2)))) (sCons (sAsg (eLst false (aCons (eC (.str [45])) (aCons (eC (.str [45, 45, 49])) (aCons (eC (.str [49, 45])) (aCons (eC (.str [48, 120])) (aCons (eC (.str [32, 49])) (aCons (eC (.str [49, 32])) (aCons (eC (.str [45, 48])) (aCons (eC (.str [48, 48, 55])) (aCons (eC (.str [32])) (aCons (eC (.str [32, 32, 32])) (aCons (eC (.str [49, 50, 51, 52, 53, 54, 55, 120])) (aCons (eC (.str [49, 50, 51, 52, 53, 54, 55, 56, 45])) (aCons (eC (.str [45, 48, 48, 48, 48, 48, 48, 48, 32, 49])) (aNil))))))))))))))) (gN 3)) (sRet (eOp ixG (eV 3) (eCall 2 m_law_take (aCons (eV 0) (aCons (eC (.int 13)) (aNil))))))) (sNext)) (sCons (sAsg (eOp (addG false) (eC (.int 1)) (eCall 2 m_law_take (aCons (eV 0) (aCons (eOp ixG (eLst false (aCons (eC (.int 3)) (aCons (eC (.int 10)) (aNil)))) (eCall 2 m_law_take (aCons (eV 0) (aCons (eC (.int 2)) (aNil))))) (aNil))))) (gN 4)) (sCons (sIf (tv (eOp ltG (eV 2) (eC (.int 6)))) (sRet (eMt "str" (joinG) (eC (.str [])) (aCons (eLc false (iR1 (aCons (eV 4) (aNil))) [5] (.one 5) (tYesD) (eOp ixG (eC (.str [97, 98, 99, 100, 101, 102, 103, 104, 105, 106])) (eCall 2 m_law_take (aCons (eV 0) (aCons (eC (.int 10)) (aNil)))))) (aNil)))) (sNext)) (sRet (eMt "str" (joinG) (eC (.str [])) (aCons (eLc false (iR1 (aCons (eV 4) (aNil))) [5] (.one 5) (tYesD) (eCall 1 m_law_sign (aCons (eV 0) (aNil)))) (aNil)))))))))
/-- law_row: 4 slots, 3 parameters -/
def d_law_row (m_law_cell : FV) : SV := sRet (eB tupG (aCons (eLc false (iR1 (aCons (eV 2) (aNil))) [3] (.one 3) (tYesD) (eCall 2 m_law_cell (aCons (eV 0) (aCons (eOp ixG (eV 1) (eV 3)) (aNil))))) (aNil)))
/-- law_page: 8 slots, 2 parameters -/
def d_law_page (m_law_take : FV) (m_law_row : FV) : SV := sCons (sAsg (eLc false (iR1 (aCons (eC (.int 6)) (aNil))) [7] (.one 7) (tYesD) (eCall 2 m_law_take (aCons (eV 0) (aCons (eC (.int 2)) (aNil))))) (gN 2)) (sCons (sPar 3 4 (aCons (eOp (addG false) (eC (.int 1)) (eCall 2 m_law_take (aCons (eV 0) (aCons (eC (.int 6)) (aNil))))) (aCons (eLst true (aNil)) (aNil)))) (sCons (sFor (iR1 (aCons (eOp (addG false) (eC (.int 1)) (eCall 2 m_law_take (aCons (eV 0) (aCons (eV 1) (aNil))))) (aNil))) (gN 5) (sCons (sAsg (eCall 2 m_law_take (aCons (eV 0) (aCons (eC (.int 8)) (aNil)))) (gN 6)) (sCons (sAsg (eOp ixG (eLst false (aCons (eOp (addG false) (eC (.int 1)) (eCall 2 m_law_take (aCons (eV 0) (aCons (eC (.int 6)) (aNil))))) (aCons (eB maxG (aCons (eC (.int 1)) (aCons (eOp subG (eV 3) (eC (.int 1))) (aNil)))) (aCons (eB minG (aCons (eC (.int 6)) (aCons (eOp (addG false) (eV 3) (eC (.int 1))) (aNil)))) (aCons (eV 3) (aNil)))))) (eB minG (aCons (eV 6) (aCons (eC (.int 3)) (aNil))))) (gN 3)) (sCons (sExpr (eMt "list" (appendG) (eV 4) (aCons (eCall 3 m_law_row (aCons (eV 0) (aCons (eV 2) (aCons (eV 3) (aNil))))) (aNil)))) (sIf (tv (eOp (eqG false) (eV 6) (eC (.int 7)))) (sCons (sAsg (eOp ixG (eV 4) (eCall 2 m_law_take (aCons (eV 0) (aCons (eB lenG (aCons (eV 4) (aNil))) (aNil))))) (gSb (eV 4) (eNeg (eC (.int 1))) setLG)) (sAsg (eB lenG (aCons (eOp ixG (eV 4) (eNeg (eC (.int 1)))) (aNil))) (gN 3))) (sNext)))))) (sRet (eV 4))))
/-- law_style: 2 slots, 1 parameters -/
def d_law_style (m_law_take : FV) : SV := sCons (sAsg (eOp ixG (eLst false (aCons (eCall 2 m_law_take (aCons (eV 0) (aCons (eC (.int 5)) (aNil)))) (aCons (eC (.int 1)) (aCons (eC (.int 2)) (aNil))))) (eCall 2 m_law_take (aCons (eV 0) (aCons (eC (.int 3)) (aNil))))) (gN 1)) (sRet (eTup (aCons (eV 1) (aCons (eOp ixG (eLst false (aCons (eC (.int 0)) (aCons (eCall 2 m_law_take (aCons (eV 0) (aCons (eC (.int 13)) (aNil)))) (aCons (eCall 2 m_law_take (aCons (eV 0) (aCons (eC (.int 13)) (aNil)))) (aNil))))) (eCall 2 m_law_take (aCons (eV 0) (aCons (eC (.int 3)) (aNil))))) (aNil)))))
/-- law_k25: 10 slots, 1 parameters -/
def d_law_k25 (m_law_begun : FV) (m_law_page : FV) (m_law_take : FV) (m_law_alike : FV) (m_written : FV) (m_read : FV) : SV := sCons (sAsg (eCall 1 m_law_begun (aCons (eV 0) (aNil))) (gN 1)) (sCons (sFor (iR1 (aCons (eC (.int 4)) (aNil))) (gN 2) (sCons (sAsg (eCall 2 m_law_page (aCons (eV 1) (aCons (eOp ixG (eLst false (aCons (eC (.int 4)) (aCons (eC (.int 12)) (aCons (eC (.int 30)) (aNil))))) (eCall 2 m_law_take (aCons (eV 1) (aCons (eC (.int 3)) (aNil))))) (aNil)))) (gN 3)) (sCons (sAsg (eC (.str [])) (gN 4)) (sCons (sFor (iR1 (aCons (eB lenG (aCons (eV 3) (aNil))) (aNil))) (gN 5) (sCons (sAsg (eOp (addG false) (eOp (addG false) (eV 4) (eOp (mulG false) (eC (.str [10])) (eB intG (aCons (eOp gtG (eV 5) (eC (.int 0))) (aNil))))) (eOp ixG (eOp ixG (eV 3) (eV 5)) (eC (.int 0)))) (gN 4)) (sFor (iSeq (eSl false (eOp ixG (eV 3) (eV 5)) (poSome (eC (.int 1))) (poNone))) (gN 6) (sAsg (eOp (addG false) (eOp (addG false) (eV 4) (eC (.str [9]))) (eV 6)) (gN 4))))) (sCons (sAsg (eB (listG false) (aCons (eV 3) (aNil))) (gN 7)) (sCons (sIf (tOrD (tNotD (tv (eCall 2 m_law_alike (aCons (eCall 1 m_written (aCons (eV 7) (aNil))) (aCons (eV 4) (aNil)))))) (tv (eOp (eqG true) (eV 7) (eV 3)))) (sRet (eC (.bl false))) (sNext)) (sCons (sFor (iR1 (aCons (eC (.int 2)) (aNil))) (gN 8) (sCons (sAsg (eCall 1 m_read (aCons (eV 4) (aNil))) (gN 9)) (sCons (sIf (tNotD (tv (eCall 2 m_law_alike (aCons (eV 9) (aCons (eV 3) (aNil)))))) (sRet (eC (.bl false))) (sNext)) (sExpr (eMt "list" (appendG) (eV 9) (aCons (eTup (aNil)) (aNil))))))) (sIf (tv (eOp (eqG true) (eCall 1 m_written (aCons (eCall 1 m_read (aCons (eV 4) (aNil))) (aNil))) (eV 4))) (sRet (eC (.bl false))) (sNext))))))))) (sRet (eAnd (eOp (eqG false) (eCall 1 m_read (aCons (eC (.str [])) (aNil))) (eLst false (aCons (eTup (aCons (eC (.str [])) (aNil))) (aNil)))) (eOp (eqG false) (eCall 1 m_written (aCons (eLst false (aCons (eTup (aCons (eC (.str [])) (aCons (eC (.str [])) (aNil)))) (aNil))) (aNil))) (eC (.str [9]))))))
end Dl
/-! ## B1 -/
/-! Pages: signs, cells, rows. -/
namespace Dl
open PySem L2

def okSign (c : Nat) : Bool := decide (32 ≤ c) && decide (c ≤ 126) && decide (c ≠ 37)
def okCell (s : List Nat) : Bool := decide (s.length ≤ 10) && s.all okSign
def okRow (r : List (List Nat)) : Bool := decide (1 ≤ r.length) && decide (r.length ≤ 6) && r.all okCell
abbrev Row := List (List Nat)
abbrev Page := List Row
def okPage (p : Page) : Bool := decide (1 ≤ p.length) && decide (p.length ≤ 30) && p.all okRow
def encR (r : Row) : D := .tup (r.map .str)
def encP (p : Page) : List D := p.map encR
@[simp] theorem encP_len (p : Page) : (encP p).length = p.length := by simp [encP]
@[simp] theorem pl_encR (r : Row) : D.pl (encR r) = true := by simp [encR]
@[simp] theorem pls_encP (p : Page) : D.pls (encP p) = true := pls_iff.mpr fun d h => by
  obtain ⟨s, _, rfl⟩ := List.mem_map.mp h; exact pl_encR s
theorem dp_encR (r : Row) : D.dp (encR r) ≤ 2 := by
  have := dps_strs r
  simp only [encR, dp_tup]; omega
theorem dps_encP (p : Page) : D.dps (encP p) ≤ 2 := dps_le.mpr fun d h => by
  obtain ⟨s, _, rfl⟩ := List.mem_map.mp h; exact dp_encR s
theorem str_inj : Function.Injective D.str := fun a b h => by cases h; rfl
theorem strs_inj {a b : List (List Nat)} (h : a.map D.str = b.map D.str) : a = b := (List.map_inj_right fun x y e => str_inj e).mp h
theorem encR_inj {a b : Row} (h : encR a = encR b) : a = b := strs_inj (by simpa [encR] using h)
theorem encP_inj {a b : Page} (h : encP a = encP b) : a = b := (List.map_inj_right fun x y e => encR_inj e).mp h
theorem ltc (a b : Nat) : ([a] < [b]) ↔ a < b := by
  rw [List.cons_lt_cons_iff]
  simp
def m_is_sign : FV := funD 1 d_is_sign
theorem is_sign_str (c : Nat) (st : Store) : m_is_sign [.str [c]] st = .ok (.bl (okSign c), st) := by
  unfold m_is_sign funD d_is_sign
  simp [leG, ordG, ltc]
  by_cases h1 : 32 ≤ c
  · by_cases h2 : c ≤ 126
    · simp [okSign, h1, h2, Nat.not_lt.mpr h1, Nat.not_lt.mpr h2]
      omega
    · simp [okSign, h1, h2, Nat.not_lt.mpr h1, Nat.lt_of_not_le h2]
  · simp [okSign, h1, Nat.lt_of_not_le h1]
theorem still_list {st : Store} {d : D} {w : Wk} (h : listOf st d = some w) : still w.2 st = true := by
  unfold listOf at h
  split at h
  · cases h; rfl
  · split at h
    · cases h; exact still_one ‹_›
    · cases h
  · cases h
theorem items_list {st : Store} {d : D} {w : Wk} (h : listOf st d = some w) : itemsOf st d = some w := by
  unfold listOf at h
  split at h
  · exact h
  · exact h
  · cases h
theorem lst_list {st : Store} {d : D} {w : Wk} (h : listOf st d = some w) : lstOf st d = some w.1 := by
  unfold listOf at h
  split at h
  · cases h; rfl
  · split at h
    · cases h
      rename_i e
      simp [lstOf, e]
    · cases h
  · cases h
theorem ty_list {st : Store} {d : D} {w : Wk} (h : listOf st d = some w) : tyOf st d = some "list" := by
  unfold listOf at h
  split at h
  · rfl
  · split at h
    · cases h
      rename_i e
      simp [tyOf, e]
    · cases h
  · cases h
theorem len_list {st : Store} {d : D} {w : Wk} (h : listOf st d = some w) : lenG st [d] = .ok (.int w.1.length, st) := by
  have e := lst_list h
  unfold listOf at h
  split at h
  · simp [lenG, e]
  · simp [lenG, e]
  · cases h
theorem eq_list {neg : Bool} {st : Store} {d e : D} {w : Wk} (h : listOf st d = some w) : eqG neg st d e = eqG neg st (.lst w.1) e := by
  unfold listOf at h
  split at h
  · cases h; rfl
  · split at h
    · cases h; exact eqG_refL ‹_›
    · cases h
  · cases h
/-- a comprehension that keeps what p likes -/
theorem lc_keep {sub : List (Nat × List D)} {j : Nat} {tt : TV} {env : Env} {st : Store} (hs : still sub st = true) (p : D → Bool) (ds : List D)
    (h : ∀ d ∈ ds, tt (env.set j (some d)) st = .ok (p d, st)) (hj : j < env.length) : lcGo sub (.one j) tt (eV j) env ds [] st = .ok (ds.filter p, st) := by
  have := lc_pure (t := .one j) (te := eV j) (env := env) (tt := tt) hs p (fun d => d) ds [] fun d hd => ⟨_, rfl, h d hd, fun _ => by simp [hj]⟩
  simpa using this
theorem eq_nilD {st : Store} {ds : List D} (h : D.pls ds = true) (k : D.dps ds ≤ 39) : eqG false st (.lst ds) (.lst []) = .ok (.bl (decide (ds = [])), st) := by
  rw [eqG_pl (by simpa using h) rfl (by simp; omega) (by simp)]
  simp
def m_is_cell : FV := funD 2 (d_is_cell m_is_sign)
theorem is_cell_str (s : List Nat) (st : Store) : m_is_cell [.str s] st = .ok (.bl (okCell s), st) := by
  unfold m_is_cell funD d_is_cell
  simp [tyOf, subTy, gtG, lenG, itemsOf]
  by_cases h : s.length ≤ 10
  · have h' : ¬ ((10 : Int) < s.length) := by omega
    simp only [h', if_false]
    have hl : s.length ≤ LIM := le_LIM (by omega)
    simp [hl, itemsOf]
    rw [lc_keep rfl (fun d => match d with | .str [c] => !okSign c | _ => true) _ (fun d hd => ?_) (by simp [wipeD])]
    · have e : (s.map fun c => D.str [c]).filter (fun d => match d with | .str [c] => !okSign c | _ => true) = ((s.filter fun c => !okSign c).map fun c => [c]).map D.str := by
        rw [List.filter_map, List.map_map]; rfl
      simp only [R.bind_ok, e]
      rw [eq_nilD (pls_strs _) (Nat.le_trans (dps_strs _) (by decide))]
      simp only [R.bind_ok, sOf_ok, List.map_eq_nil_iff]
      congr 3
      rw [okCell, decide_eq_true h, Bool.true_and, Bool.eq_iff_iff]
      simp [List.filter_eq_nil_iff]
    · obtain ⟨c, _, rfl⟩ := List.mem_map.mp hd
      simp [wipeD, is_sign_str]
  · have h' : (10 : Int) < s.length := by omega
    simp [h', h, okCell]
def m_is_row : FV := funD 2 (d_is_row m_is_cell)
theorem is_row_tup (r : Row) (st : Store) : m_is_row [encR r] st = .ok (.bl (okRow r), st) := by
  unfold m_is_row funD d_is_row encR
  simp [tyOf, subTy, leG, lenG, itemsOf]
  by_cases h : 1 ≤ r.length
  · have h1 : (1 : Int) ≤ r.length := by omega
    by_cases h2 : r.length ≤ 6
    · have h3 : (r.length : Int) ≤ 6 := by omega
      have hl : r.length ≤ LIM := le_LIM (by omega)
      simp [h1, h3, hl, itemsOf]
      rw [lc_keep rfl (fun d => match d with | .str c => !okCell c | _ => true) _ (fun d hd => ?_) (by simp [wipeD])]
      · have e : (r.map D.str).filter (fun d => match d with | .str c => !okCell c | _ => true) = (r.filter fun c => !okCell c).map D.str := by
          rw [List.filter_map]; rfl
        simp only [R.bind_ok, e]
        rw [eq_nilD (pls_strs _) (Nat.le_trans (dps_strs _) (by decide))]
        simp only [R.bind_ok, sOf_ok, List.map_eq_nil_iff]
        congr 3
        rw [okRow, decide_eq_true h, decide_eq_true h2, Bool.true_and, Bool.true_and, Bool.eq_iff_iff]
        simp [List.filter_eq_nil_iff]
      · obtain ⟨c, _, rfl⟩ := List.mem_map.mp hd
        simp [wipeD, is_cell_str]
    · have h3 : ¬ (r.length : Int) ≤ 6 := by omega
      simp [h1, h3, h2, okRow]
  · have h1 : ¬ (1 : Int) ≤ r.length := by omega
    simp [h1, h, okRow]
def m_need_page : FV := funD 3 (d_need_page m_is_row)
theorem need_page_ok {p : Page} {d : D} {w : List (Nat × List D)} {st : Store} (h : listOf st d = some (encP p, w)) (hp : okPage p = true) : m_need_page [d] st = .ok (.non, st) := by
  unfold m_need_page funD d_need_page
  simp only [okPage, Bool.and_eq_true, decide_eq_true_eq, List.all_eq_true] at hp
  obtain ⟨⟨h1, h2⟩, h3⟩ := hp
  have ne : encP p ≠ [] := fun z => by rw [← encP_len, z] at h1; simp at h1
  simp [ty_list h, subTy, eq_list h, eq_nilD (pls_encP p) (Nat.le_trans (dps_encP p) (by decide)), ne, h]
  generalize hf : forGo _ _ _ _ _ _ = r
  obtain ⟨e, s, rfl, rfl, e2⟩ := for_at hf (fun i env st' => st' = st ∧ ∃ a b, env = [some d, a, b]) ⟨rfl, _, _, rfl⟩ (fun i env st' _ hI => by rw [hI.1]; exact still_list h) (fun i x env st' hi hI => by
      obtain ⟨rfl, a, b, rfl⟩ := hI
      obtain ⟨y, hy, rfl⟩ := pairUp_at hi
      unfold encP at hy
      rw [List.getElem?_map] at hy
      cases q : p[i]? with
      | none => rw [q] at hy; cases hy
      | some r =>
        rw [q] at hy
        cases hy
        have hr := h3 r (List.mem_of_getElem? q)
        have hi := (List.getElem?_eq_some_iff.mp q).1
        have hi2 : ¬ (30 : Int) ≤ i := by omega
        simp [geG, hi2, is_row_tup, hr])
  rfl
end Dl
/-! ## B2 -/
/-! The script's box: what is taken from it. -/
namespace Dl
open PySem L2

/-- the box stands first in the store -/
structure Box where
  ns : List Int
  s : Int
def Bx (b : Box) (rest : Store) : Store := .lst (b.ns.map .int) :: .lst [.ref 0, .int b.s] :: rest
@[simp] theorem Bx_len (b : Box) (rest : Store) : (Bx b rest).length = rest.length + 2 := rfl
@[simp] theorem Bx_app (b : Box) (rest more : Store) : Bx b rest ++ more = Bx b (rest ++ more) := rfl
@[simp high] theorem Bx_get (b : Box) (rest : Store) (k : Nat) : (Bx b rest)[k + 2]? = rest[k]? := by simp [Bx]
@[simp] theorem Bx_set (b : Box) (rest : Store) (k : Nat) (o : Ob) : (Bx b rest).set (k + 2) o = Bx b (rest.set k o) := by simp [Bx]
/-- what is taken, and the box behind -/
def tk (b : Box) (n : Int) : Int × Box := match b.ns with
  | [] => (b.s * 48271 % 2147483647 / 7 % n, ⟨[], b.s * 48271 % 2147483647⟩)
  | x :: ns => (x % n, if x / n = 0 ∨ x / n = -1 then ⟨ns, b.s⟩ else ⟨x / n :: ns, b.s⟩)
theorem tk_lo (b : Box) {n : Int} (h : 0 < n) : 0 ≤ (tk b n).1 := by
  obtain ⟨ns, s⟩ := b
  cases ns <;> exact Int.emod_nonneg _ (by omega)
theorem tk_hi (b : Box) {n : Int} (h : 0 < n) : (tk b n).1 < n := by
  obtain ⟨ns, s⟩ := b
  cases ns <;> exact Int.emod_lt_of_pos _ h
@[simp] theorem atI_0 {A : Type} (a : A) (l : List A) : atI (a :: l) 0 = some a := by
  have : (0 : Int) < ↑(l.length + 1) := by omega
  simp [atI, ixN, this]
@[simp] theorem atI_1 {A : Type} (a b : A) (l : List A) : atI (a :: b :: l) 1 = some b := by
  have : (1 : Int) < (l.length : Int) + 1 + 1 := by omega
  simp [atI, ixN, this]
theorem atI_nat {A : Type} (l : List A) (i : Nat) : atI l (i : Int) = l[i]? := by
  by_cases h : i < l.length
  · have : (i : Int) < l.length := by omega
    simp [atI, ixN, h]
  · have : ¬ (i : Int) < l.length := by omega
    simp [atI, ixN, h]
theorem atI_int {A : Type} (l : List A) (i : Int) (h0 : 0 ≤ i) : atI l i = l[i.toNat]? := by
  have := atI_nat l i.toNat
  rwa [Int.toNat_of_nonneg h0] at this
theorem atI_last {A : Type} (l : List A) (a : A) : atI (l ++ [a]) (-1) = some a := by
  have h : -(((l ++ [a]).length : Nat) : Int) ≤ -1 := by simp; omega
  have h1 : ¬ (0 : Int) ≤ -1 := by decide
  simp only [atI, ixN, if_neg h1, if_pos h]
  have : (-1 + (((l ++ [a]).length : Nat) : Int)).toNat = l.length := by simp; omega
  rw [Option.bind_some, this]
  simp
theorem eq_intsR {st : Store} {k : Nat} {ns : List Int} (h : st[k]? = some (.lst (ns.map .int))) : eqG false st (.ref k) (.lst []) = .ok (.bl (decide (ns = [])), st) := by
  rw [eqG_refL h, eq_nilD (pls_ints _) (Nat.le_trans (dps_ints _) (by decide))]
  simp
def m_law_begun : FV := funD 3 d_law_begun
def m_law_take : FV := funD 3 d_law_take
theorem begun_ok (ns : List Int) : ∃ b, m_law_begun [.scr ns] [] = .ok (.ref 1, Bx b []) := by
  unfold m_law_begun funD d_law_begun
  simp [itemsOf]
  generalize hf : forGo _ _ _ _ _ _ = r
  obtain ⟨e, s, rfl, rfl, i, v, rfl⟩ := for_at hf (fun i env st' => st' = [] ∧ ∃ i v, env = [some (.scr ns), some (.int i), v]) ⟨rfl, 0, none, rfl⟩ (fun i env st' _ hI => rfl) (fun i x env st' hi hI => by
    obtain ⟨rfl, a, b, rfl⟩ := hI
    rw [List.getElem?_map] at hi
    cases q : ns[i]? with
    | none => rw [q] at hi; cases hi
    | some r =>
      rw [q] at hi
      cases hi
      simp [mulG, addG, modG])
  have h3 : ∀ b : Bool, -18446744073709551616 < (if b = true then (1 : Int) else 0) ∧ (if b = true then (1 : Int) else 0) < 18446744073709551616 := fun b => by cases b <;> decide
  simp [listG, lenG, gtG, intG, mulG, newL]
  by_cases hb : (2 : Int) < ns.length
  · exact ⟨⟨ns, _⟩, by simp [hb, Bx]; rfl⟩
  · exact ⟨⟨ns, _⟩, by simp [hb, Bx]; rfl⟩
theorem take_eq (b : Box) (rest : Store) (n : Int) (h : 0 < n) (hn : n < 18446744073709551616) : m_law_take [.ref 1, .int n] (Bx b rest) = .ok (.int (tk b n).1, Bx (tk b n).2 rest) := by
  unfold m_law_take funD d_law_take
  obtain ⟨ns, s⟩ := b
  cases ns with
  | nil =>
    have e := eq_intsR (st := Bx ⟨[], s⟩ rest) (k := 0) (ns := []) rfl
    simp only [Bx, List.map_nil] at e
    simp [Bx, ixG, lstOf, e, mulG, modG, divG, setLG, ixN, h, tk]
  | cons x ns =>
    have e := eq_intsR (st := Bx ⟨x :: ns, s⟩ rest) (k := 0) (ns := x :: ns) rfl
    simp only [Bx, List.map_cons] at e
    have hl : (0 : Int) < (ns.length : Int) + 1 := by omega
    by_cases h1 : x / n = 0
    · simp [Bx, ixG, lstOf, e, mulG, modG, divG, setLG, ixN, h, hl, hn, h1, tyM, popG, tk]
    · by_cases h2 : x / n = -1
      · simp [Bx, ixG, lstOf, e, mulG, modG, divG, setLG, ixN, h, hl, hn, h2, tyM, popG, tk]
      · simp [Bx, ixG, lstOf, e, mulG, modG, divG, setLG, ixN, h, hl, hn, h1, h2, tk]
theorem take_ok (b : Box) (rest : Store) (n : Int) (h : 0 < n) (hn : n < 2 ^ 64) : ∃ i b', (0 ≤ i ∧ i < n) ∧ m_law_take [.ref 1, .int n] (Bx b rest) = .ok (.int i, Bx b' rest) :=
  ⟨_, _, ⟨tk_lo b h, tk_hi b h⟩, take_eq b rest n h hn⟩
/-! ### alike -/
def l_law_alike : Nat → FV
  | 0 => fvBad
  | n + 1 => funD 3 (d_law_alike (l_law_alike n))
def m_law_alike : FV := l_law_alike 8
theorem alike_str (n : Nat) (s t : List Nat) (st : Store) : l_law_alike (n + 1) [.str s, .str t] st = .ok (.bl (decide (s = t)), st) := by
  rw [l_law_alike]
  unfold funD d_law_alike
  simp [isG, tyOf, subTy]
theorem alike_int (n : Nat) (s t : Int) (st : Store) : l_law_alike (n + 1) [.int s, .int t] st = .ok (.bl (decide (s = t)), st) := by
  rw [l_law_alike]
  unfold funD d_law_alike
  simp [isG, tyOf, subTy]
/-! ### signs, cells -/
theorem atI_mem {A : Type} {l : List A} {i : Int} (h0 : 0 ≤ i) (h1 : i < l.length) : ∃ x, atI l i = some x ∧ x ∈ l := by
  rw [atI_int l i h0]
  have : i.toNat < l.length := by omega
  exact ⟨l[i.toNat], by simp [this], by simp⟩
def m_law_sign : FV := funD 2 (d_law_sign m_law_take)
def everySign : List Nat := [32, 33, 34, 35, 36, 38, 39, 40, 41, 42, 43, 44, 45, 46, 47, 48, 49, 50, 51, 52, 53, 54, 55, 56, 57, 58, 59, 60, 61, 62, 63, 64, 65, 66, 67, 68, 69, 70, 71, 72, 73, 74, 75, 76, 77, 78, 79, 80, 81, 82, 83, 84, 85, 86, 87, 88, 89, 90, 91, 92, 93, 94, 95, 96, 97, 98, 99, 100, 101, 102, 103, 104, 105, 106, 107, 108, 109, 110, 111, 112, 113, 114, 115, 116, 117, 118, 119, 120, 121, 122, 123, 124, 125, 126]
theorem sign_ok (b : Box) (rest : Store) : ∃ c b', okSign c = true ∧ m_law_sign [.ref 1] (Bx b rest) = .ok (.str [c], Bx b' rest) := by
  obtain ⟨c, e, m⟩ := atI_mem (l := everySign) (tk_lo b (n := 94) (by decide)) (tk_hi b (n := 94) (by decide))
  refine ⟨c, (tk b 94).2, ?_, ?_⟩
  · have : ∀ c ∈ everySign, okSign c = true := by decide
    exact this c m
  · unfold m_law_sign funD d_law_sign
    unfold everySign at e
    simp [take_eq, ixG, e]
theorem joinL_ones (cs : List Nat) : TL.joinL [] (cs.map fun c => [c]) = cs := by
  induction cs with
  | nil => rfl
  | cons c cs ih =>
    cases cs with
    | nil => rfl
    | cons d cs =>
      simp only [List.map_cons] at ih ⊢
      rw [TL.joinL, ih]; rfl
theorem join_ones (cs : List Nat) (st : Store) (h : cs.length ≤ LIM) : joinG st (.str []) [.lst ((cs.map fun c => [c]).map D.str)] = .ok (.str cs, st) := by
  unfold joinG
  simp only [lstOf, Option.bind_some, strsOf_map]
  have e : ((cs.map fun c => [c]).map List.length).sum = cs.length := by
    induction cs with
    | nil => rfl
    | cons c cs ih => simp_all; omega
  rw [e, joinL_ones]
  simp [h]
theorem join_ones' (cs : List Nat) (st : Store) (h : cs.length ≤ LIM) : joinG st (.str []) [.lst (cs.map (D.str ∘ fun c => [c]))] = .ok (.str cs, st) := by
  rw [← List.map_map]; exact join_ones cs st h
def m_law_cell : FV := funD 6 (d_law_cell m_law_take m_law_sign)
theorem okCell_num {k : Int} (h0 : 0 ≤ k) (h : k < 10 ^ 9) : okCell (TL.numL k.toNat) = true ∧ okCell (45 :: TL.numL k.toNat) = true := by
  have hl : (TL.numL k.toNat).length ≤ 9 := TL.numL_len (by decide) (by omega)
  have ha : ∀ c ∈ TL.numL k.toNat, okSign c = true := fun c hc => by
    have := TL.numL_digits _ c hc
    simp [okSign]
    omega
  have hb : okSign 45 = true := by decide
  refine ⟨?_, ?_⟩
  · simp only [okCell, Bool.and_eq_true, decide_eq_true_eq, List.all_eq_true]
    exact ⟨by omega, ha⟩
  · simp only [okCell, Bool.and_eq_true, decide_eq_true_eq, List.all_eq_true, List.length_cons, List.mem_cons]
    refine ⟨by omega, fun c hc => ?_⟩
    rcases hc with rfl | hc
    · exact hb
    · exact ha c hc
theorem cell_ok (b : Box) (rest : Store) (sort : Int) : ∃ s b', okCell s = true ∧ m_law_cell [.ref 1, .int sort] (Bx b rest) = .ok (.str s, Bx b' rest) := by
  unfold m_law_cell funD d_law_cell
  simp [take_eq]
  have h0 := tk_lo b (n := 9) (by decide)
  have h9 := tk_hi b (n := 9) (by decide)
  generalize tk b 9 = p at h0 h9 ⊢
  obtain ⟨way, b⟩ := p
  simp only at h0 h9 ⊢
  by_cases h : way = 0
  · exact ⟨[], by decide, b, by simp [h]⟩
  simp [h]
  have len2 : (([D.str [], D.str [45]] : List D).length : Int) = 2 := rfl
  have t3 := tk_lo b (n := 3) (by decide)
  have t3' := tk_hi b (n := 3) (by decide)
  obtain ⟨x, ex, mx⟩ := atI_mem (l := [D.str [], D.str [45]]) (i := (tk b 3).1 / 2) (by omega) (by rw [len2]; omega)
  obtain ⟨y, ey, my⟩ := atI_mem (l := [D.int 10, D.int 1000, D.int 1000000000]) (i := (tk (tk b 3).2 3).1) (tk_lo _ (by decide)) (tk_hi _ (by decide))
  have hy : ∃ n : Int, y = .int n ∧ 0 < n ∧ n ≤ 1000000000 := by
    simp at my
    rcases my with rfl | rfl | rfl <;> exact ⟨_, rfl, by decide, by decide⟩
  obtain ⟨n, rfl, n0, n9⟩ := hy
  have n64 : n < 18446744073709551616 := by omega
  have k0 := tk_lo (tk (tk b 3).2 3).2 n0
  have k1 := tk_hi (tk (tk b 3).2 3).2 n0
  by_cases hc : way = 1 ∨ sort = 0 ∧ way < 7
  · have q := okCell_num k0 (by omega)
    have ql : (TL.numL (tk (tk (tk b 3).2 3).2 n).1.toNat).length + 1 ≤ LIM := le_LIM (by have := q.2; simp [okCell] at this; omega)
    have ql' : (TL.numL (tk (tk (tk b 3).2 3).2 n).1.toNat).length ≤ LIM := Nat.le_trans (Nat.le_succ _) ql
    have e18 : (tk (tk (tk b 3).2 3).2 n).1 < 1000000000000000000 := by omega
    simp at mx
    rcases hc with hc | ⟨hc, hc'⟩ <;> rcases mx with rfl | rfl <;> simp [*, Nat.add_comm 1, ltG, ixG, lstOf, divG, powG, strG, addG, take_eq]
    all_goals first | exact ⟨_, q.1, _, rfl, rfl⟩ | exact ⟨_, q.2, _, rfl, rfl⟩ | exact ⟨_, q.1, rfl, _, rfl⟩ | exact ⟨_, q.2, rfl, _, rfl⟩
  · have c1 : ¬ way = 1 := fun z => hc (.inl z)
    have step : ∀ st : Store, (if way = 1 then R.ok (true, st) else if sort = 0 then R.ok (decide (way < 7), st) else R.ok (false, st)) = R.ok (false, st) := fun st => by
      by_cases hs : sort = 0
      · have : ¬ way < 7 := fun z => hc (.inr ⟨hs, z⟩)
        simp [c1, hs, this]
      · simp [c1, hs]
    simp [ltG, step]
    by_cases h2 : way = 2
    · obtain ⟨z, ez, mz⟩ := atI_mem (l := [D.str [45], D.str [45, 45, 49], D.str [49, 45], D.str [48, 120], D.str [32, 49], D.str [49, 32], D.str [45, 48], D.str [48, 48, 55], D.str [32], D.str [32, 32, 32], D.str [49, 50, 51, 52, 53, 54, 55, 120], D.str [49, 50, 51, 52, 53, 54, 55, 56, 45], D.str [45, 48, 48, 48, 48, 48, 48, 48, 32, 49]]) (i := (tk b 13).1) (tk_lo _ (by decide)) (tk_hi _ (by decide))
      have hz : ∃ s, z = .str s ∧ okCell s = true := by
        simp at mz
        rcases mz with rfl | rfl | rfl | rfl | rfl | rfl | rfl | rfl | rfl | rfl | rfl | rfl | rfl <;> exact ⟨_, rfl, by decide⟩
      obtain ⟨s, rfl, hs⟩ := hz
      simp [h2, take_eq, ixG, lstOf, ez]
      exact ⟨s, hs, rfl, _, rfl⟩
    · obtain ⟨y, ey, my⟩ := atI_mem (l := [D.int 3, D.int 10]) (i := (tk b 2).1) (tk_lo _ (by decide)) (tk_hi _ (by decide))
      have hy : ∃ n : Int, y = .int n ∧ 0 < n ∧ n ≤ 10 := by
        simp at my
        rcases my with rfl | rfl <;> exact ⟨_, rfl, by decide, by decide⟩
      obtain ⟨n, rfl, n0, n9⟩ := hy
      have n64 : n < 18446744073709551616 := by omega
      have k0 := tk_lo (tk b 2).2 n0
      have k1 := tk_hi (tk b 2).2 n0
      simp [h2, take_eq, ixG, lstOf, addG, ey, n0, n64]
      generalize tk (tk b 2).2 n = p at k0 k1 ⊢
      obtain ⟨m, b⟩ := p
      simp only at k0 k1 ⊢
      have m1 : -1000000 ≤ 1 + m ∧ 1 + m ≤ 1000000 := by omega
      have m2 : (1 + m).toNat ≤ LIM := le_LIM (by omega)
      by_cases h6 : way < 6
      · simp [ltG, h6, m1, m2]
        generalize hf : lcGo _ _ _ _ _ _ _ _ = r
        obtain ⟨acc, s, rfl, cs, b', hc1, hc2, rfl, hc3⟩ := lc_at hf (fun i acc st' => ∃ cs b', cs.length = i ∧ (∀ c ∈ cs, okSign c = true) ∧ acc = (cs.map fun c => [c]).map D.str ∧ st' = Bx b' rest) ⟨[], b, rfl, by simp, rfl, rfl⟩ (fun _ _ _ _ _ => rfl) (fun i x acc st' hi ⟨cs, b', e1, e2, e3, e4⟩ => by
          subst e3 e4
          obtain ⟨c, ec, mc⟩ := atI_mem (l := [97, 98, 99, 100, 101, 102, 103, 104, 105, 106]) (i := (tk b' 10).1) (tk_lo _ (by decide)) (tk_hi _ (by decide))
          have hc : okSign c = true := by
            have : ∀ c ∈ ([97, 98, 99, 100, 101, 102, 103, 104, 105, 106] : List Nat), okSign c = true := by decide
            exact this c mc
          refine ⟨_, rfl, ?_⟩
          simp [take_eq, ixG, ec]
          exact ⟨cs ++ [c], by simp [e1], fun x hx => by simp at hx; rcases hx with hx | rfl <;> first | exact e2 _ hx | exact hc, by simp, _, rfl⟩)
        have hcl : cs.length ≤ 10 := by simp at hc1; omega
        have hk : okCell cs = true := by
          simp only [okCell, Bool.and_eq_true, decide_eq_true_eq, List.all_eq_true]
          exact ⟨hcl, hc2⟩
        subst hc3
        simp [tyM, join_ones' cs _ (le_LIM (by omega))]
        exact ⟨cs, hk, rfl, _, rfl⟩
      · simp [ltG, h6, m1, m2]
        generalize hf : lcGo _ _ _ _ _ _ _ _ = r
        obtain ⟨acc, s, rfl, cs, b', hc1, hc2, rfl, hc3⟩ := lc_at hf (fun i acc st' => ∃ cs b', cs.length = i ∧ (∀ c ∈ cs, okSign c = true) ∧ acc = (cs.map fun c => [c]).map D.str ∧ st' = Bx b' rest) ⟨[], b, rfl, by simp, rfl, rfl⟩ (fun _ _ _ _ _ => rfl) (fun i x acc st' hi ⟨cs, b', e1, e2, e3, e4⟩ => by
          subst e3 e4
          obtain ⟨c, b2, hc, ec⟩ := sign_ok b' rest
          refine ⟨_, rfl, ?_⟩
          simp [ec]
          exact ⟨cs ++ [c], by simp [e1], fun x hx => by simp at hx; rcases hx with hx | rfl <;> first | exact e2 _ hx | exact hc, by simp, _, rfl⟩)
        have hcl : cs.length ≤ 10 := by simp at hc1; omega
        have hk : okCell cs = true := by
          simp only [okCell, Bool.and_eq_true, decide_eq_true_eq, List.all_eq_true]
          exact ⟨hcl, hc2⟩
        subst hc3
        simp [tyM, join_ones' cs _ (le_LIM (by omega))]
        exact ⟨cs, hk, rfl, _, rfl⟩
end Dl
/-! ## B3 -/
/-! Rows, pages from the box. -/
namespace Dl
open PySem L2
theorem ints_get {n : Nat} {i : Nat} {x : D} (h : (intsD 0 n)[i]? = some x) : i < n ∧ x = .int i := by
  have hi := (List.getElem?_eq_some_iff.mp h).1
  rw [intsD_len] at hi
  rw [ints_at 0 n i hi] at h
  cases h
  exact ⟨hi, by simp⟩
theorem ixN_last (n : Nat) : ixN (n + 1) (-1) = some n := by
  have h1 : ¬ (0 : Int) ≤ -1 := by decide
  have h2 : -(((n + 1 : Nat)) : Int) ≤ -1 := by omega
  rw [ixN, if_neg h1, if_pos h2]
  congr 1
  omega
theorem mem_encP {p : Page} {y : D} (h : y ∈ encP p) : ∃ r, r ∈ p ∧ y = encR r := by
  obtain ⟨r, hr, rfl⟩ := List.mem_map.mp h; exact ⟨r, hr, rfl⟩
def m_law_row : FV := funD 4 (d_law_row m_law_cell)
theorem row_ok (b : Box) (rest : Store) (sorts : List Int) (n : Int) (h1 : 1 ≤ n) (h6 : n ≤ 6) (hs : sorts.length = 6) : ∃ r b', okRow r = true ∧ m_law_row [.ref 1, .lst (sorts.map .int), .int n] (Bx b rest) = .ok (encR r, Bx b' rest) := by
  unfold m_law_row funD d_law_row
  have m1 : -1000000 ≤ n ∧ n ≤ 1000000 := by omega
  have m2 : n.toNat ≤ LIM := le_LIM (by omega)
  simp [m1, m2]
  generalize hf : lcGo _ _ _ _ _ _ _ _ = r
  obtain ⟨acc, s, rfl, cs, b', hc1, hc2, rfl, hc3⟩ := lc_at hf (fun i acc st' => ∃ cs b', cs.length = i ∧ (∀ c ∈ cs, okCell c = true) ∧ acc = cs.map D.str ∧ st' = Bx b' rest) ⟨[], b, rfl, by simp, rfl, rfl⟩ (fun _ _ _ _ _ => rfl) (fun i x acc st' hi ⟨cs, b', e1, e2, e3, e4⟩ => by
    subst e3 e4
    obtain ⟨hi, rfl⟩ := ints_get hi
    have his : i < sorts.length := by omega
    obtain ⟨c, b2, hc, ec⟩ := cell_ok b' rest sorts[i]
    have ei : atI (sorts.map D.int) (i : Int) = some (.int sorts[i]) := by rw [atI_nat]; simp [his]
    refine ⟨_, rfl, ?_⟩
    simp [ixG, lstOf, ei, ec]
    exact ⟨cs ++ [c], by simp [e1], fun x hx => by simp at hx; rcases hx with hx | rfl <;> first | exact e2 _ hx | exact hc, by simp, _, rfl⟩)
  subst hc3
  rw [intsD_len] at hc1
  simp [tupG, lstOf]
  refine ⟨cs, ?_, rfl, _, rfl⟩
  simp only [okRow, Bool.and_eq_true, decide_eq_true_eq, List.all_eq_true]
  exact ⟨⟨by omega, by omega⟩, hc2⟩
def m_law_page : FV := funD 8 (d_law_page m_law_take m_law_row)
theorem page_ok (b : Box) (rest : Store) (n : Int) (h1 : 1 ≤ n) (h6 : n ≤ 30) : ∃ p b', okPage p = true ∧ (p.length : Int) ≤ n ∧ m_law_page [.ref 1, .int n] (Bx b rest) = .ok (.ref (rest.length + 2), Bx b' (rest ++ [.lst (encP p)])) := by
  unfold m_law_page funD d_law_page
  have m1 : -1000000 ≤ n ∧ n ≤ 1000000 := by omega
  have m2 : n.toNat ≤ LIM := le_LIM (by omega)
  simp [show (6 : Int).toNat = 6 from rfl]
  generalize hf : lcGo _ _ _ _ _ _ _ _ = r
  obtain ⟨acc, s, rfl, cs, b', hc1, rfl, hc3⟩ := lc_at hf (fun i acc st' => ∃ cs b', cs.length = i ∧ acc = cs.map D.int ∧ st' = Bx b' rest) ⟨[], b, rfl, rfl, rfl⟩ (fun _ _ _ _ _ => rfl) (fun i x acc st' hi ⟨cs, b', e1, e3, e4⟩ => by
    subst e3 e4
    refine ⟨_, rfl, ?_⟩
    simp [take_eq]
    exact ⟨cs ++ [_], by simp [e1], by simp; rfl, _, rfl⟩)
  subst hc3
  rw [intsD_len] at hc1
  simp [take_eq, addG]
  have k0 := tk_lo b' (n := 6) (by decide)
  have k1 := tk_hi b' (n := 6) (by decide)
  generalize tk b' 6 = q at k0 k1 ⊢
  obtain ⟨m, b⟩ := q
  simp only at k0 k1 ⊢
  have n0 : 0 < n := by omega
  have n64 : n < 18446744073709551616 := by omega
  have z0 := tk_lo b n0
  have z1 := tk_hi b n0
  simp [n0, n64, take_eq, addG]
  generalize tk b n = q at z0 z1 ⊢
  obtain ⟨t, b⟩ := q
  simp only at z0 z1 ⊢
  have m1 : -1000000 ≤ 1 + t ∧ 1 + t ≤ 1000000 := by omega
  simp [m1]
  generalize hf : forGo _ _ _ _ _ _ = r
  obtain ⟨e, st, rfl, p, b', many, a5, a6, a7, e1, e2, rfl, e4, he⟩ := for_at hf (fun i env st' => ∃ p b' many a5 a6 a7, p.length = i ∧ (∀ r ∈ p, okRow r = true) ∧ st' = Bx b' (rest ++ [.lst (encP p)]) ∧ (1 ≤ many ∧ many ≤ 6) ∧ env = [some (.ref 1), some (.int n), some (.lst (cs.map D.int)), some (.int many), some (.ref (rest.length + 2)), a5, a6, a7])
    ⟨[], b, _, _, _, _, rfl, by simp, rfl, by omega, rfl⟩ (fun _ _ _ _ _ => rfl) (fun i x env st' hi ⟨p, b, many, a5, a6, a7, e1, e2, e3, e4, e5⟩ => by
      subst e3 e5
      obtain ⟨hi, rfl⟩ := ints_get hi
      have w0 := tk_lo b (n := 8) (by decide)
      have w1 := tk_hi b (n := 8) (by decide)
      have v0 := tk_lo (tk b 8).2 (n := 6) (by decide)
      have v1 := tk_hi (tk b 8).2 (n := 6) (by decide)
      obtain ⟨y, ey, my⟩ := atI_mem (l := [D.int (1 + (tk (tk b 8).2 6).1), D.int (max 1 (many - 1)), D.int (min 6 (many + 1)), D.int many]) (i := min (tk b 8).1 3) (by omega) (by
        show min (tk b 8).1 3 < 4
        omega)
      have hy : ∃ n : Int, y = .int n ∧ 1 ≤ n ∧ n ≤ 6 := by
        simp at my
        rcases my with rfl | rfl | rfl | rfl <;> exact ⟨_, rfl, by omega, by omega⟩
      obtain ⟨k, rfl, k1, k2⟩ := hy
      obtain ⟨r, b2, hr, er⟩ := row_ok (tk (tk b 8).2 6).2 (rest ++ [.lst (encP p)]) cs k k1 k2 hc1
      have pl : p.length < LIM := lt_LIM (by omega)
      simp [take_eq, addG, subG, maxG, minG, ixG, lstOf, ey, er, tyM, appendG, pl]
      by_cases h7 : (tk b 8).1 = 7
      · have c0 : (0 : Int) < p.length + 1 := by omega
        have c1 : (p.length : Int) + 1 < 18446744073709551616 := by omega
        have u0 := tk_lo b2 c0
        have u1 := tk_hi b2 c0
        obtain ⟨y, ey2, my2⟩ := atI_mem (l := encP p ++ [encR r]) (i := (tk b2 ((p.length : Int) + 1)).1) u0 (by simp; omega)
        have hy : ∃ r2, okRow r2 = true ∧ y = encR r2 := by
          rcases List.mem_append.mp my2 with h | h
          · obtain ⟨r2, m, rfl⟩ := mem_encP h; exact ⟨r2, e2 _ m, rfl⟩
          · simp at h; exact ⟨r, hr, h⟩
        obtain ⟨r2, hr2, rfl⟩ := hy
        have er2 : lenG (Bx (tk b2 ((p.length : Int) + 1)).2 (rest ++ [.lst (encP p ++ [encR r2])])) [encR r2] = .ok (.int r2.length, Bx (tk b2 ((p.length : Int) + 1)).2 (rest ++ [.lst (encP p ++ [encR r2])])) := by simp [lenG, encR]
        have es : (encP p ++ [encR r]).set p.length (encR r2) = encP p ++ [encR r2] := by
          rw [← encP_len p, List.set_append_right _ _ (Nat.le_refl _)]; simp
        have el : lenG (Bx b2 (rest ++ [.lst (encP p ++ [encR r])])) [.ref (rest.length + 2)] = .ok (.int ((p.length : Int) + 1), Bx b2 (rest ++ [.lst (encP p ++ [encR r])])) := by simp [lenG, lstOf]
        simp [h7, el, ixG, lstOf, take_eq, c0, c1, ey2, setLG, ixN_last, es, atI_last, er2]
        simp only [okRow, Bool.and_eq_true, decide_eq_true_eq] at hr2
        refine ⟨p ++ [r2], by simp [e1], fun x hx => ?_, ⟨_, by simp [encP]; rfl⟩, by omega, by omega⟩
        simp at hx
        rcases hx with hx | rfl
        · exact e2 _ hx
        · simp only [okRow, Bool.and_eq_true, decide_eq_true_eq]; exact hr2
      · simp [h7]
        refine ⟨p ++ [r], by simp [e1], fun x hx => ?_, ⟨_, by simp [encP]; rfl⟩, k1, k2⟩
        simp at hx
        rcases hx with hx | rfl
        · exact e2 _ hx
        · exact hr)
  subst he
  rw [intsD_len] at e1
  simp
  refine ⟨p, ?_, by omega, _, rfl⟩
  simp only [okPage, Bool.and_eq_true, decide_eq_true_eq, List.all_eq_true]
  exact ⟨⟨by omega, by omega⟩, e2⟩
end Dl
/-! ## B4 -/
/-! Pages as texts. -/
namespace Dl
open PySem L2
def txtR (r : Row) : List Nat := TL.joinL [9] r
def txtP (p : Page) : List Nat := TL.joinL [10] (p.map txtR)
theorem sum_le {k : Nat} : ∀ {ss : List (List Nat)}, (∀ s ∈ ss, s.length ≤ k) → (ss.map List.length).sum ≤ ss.length * k
  | [], _ => by simp
  | s :: ss, h => by
    have h1 := h s (by simp)
    have h2 := sum_le (ss := ss) fun t ht => h t (by simp [ht])
    simp [Nat.add_mul]; omega
theorem okRow_parts {r : Row} (h : okRow r = true) : 1 ≤ r.length ∧ r.length ≤ 6 ∧ ∀ c ∈ r, okCell c = true := by
  simp only [okRow, Bool.and_eq_true, decide_eq_true_eq, List.all_eq_true] at h
  exact ⟨h.1.1, h.1.2, h.2⟩
theorem okPage_parts {p : Page} (h : okPage p = true) : 1 ≤ p.length ∧ p.length ≤ 30 ∧ ∀ r ∈ p, okRow r = true := by
  simp only [okPage, Bool.and_eq_true, decide_eq_true_eq, List.all_eq_true] at h
  exact ⟨h.1.1, h.1.2, h.2⟩
theorem okCell_parts {c : List Nat} (h : okCell c = true) : c.length ≤ 10 ∧ ∀ x ∈ c, 32 ≤ x ∧ x ≤ 126 ∧ x ≠ 37 := by
  simp only [okCell, Bool.and_eq_true, decide_eq_true_eq, List.all_eq_true] at h
  refine ⟨h.1, fun x hx => ?_⟩
  have := h.2 x hx
  simp only [okSign, Bool.and_eq_true, decide_eq_true_eq] at this
  omega
theorem row_join (r : Row) (h : okRow r = true) : (r.map List.length).sum + r.length * ([9] : List Nat).length ≤ 66 := by
  obtain ⟨h1, h2, h3⟩ := okRow_parts h
  have := sum_le (k := 10) fun c hc => (okCell_parts (h3 c hc)).1
  simp; omega
theorem txtR_len (r : Row) (h : okRow r = true) : (txtR r).length ≤ 66 := Nat.le_trans (joinL_len _ _) (row_join r h)
theorem page_join (p : Page) (h : okPage p = true) : ((p.map txtR).map List.length).sum + (p.map txtR).length * ([10] : List Nat).length ≤ 2010 := by
  obtain ⟨h1, h2, h3⟩ := okPage_parts h
  have := sum_le (k := 66) (ss := p.map txtR) fun c hc => by
    obtain ⟨r, hr, rfl⟩ := List.mem_map.mp hc
    exact txtR_len r (h3 r hr)
  simp at this ⊢; omega
theorem txtP_len (p : Page) (h : okPage p = true) : (txtP p).length ≤ 2010 := Nat.le_trans (joinL_len _ _) (page_join p h)
theorem joinL_mem {S : List Nat} {x : Nat} : ∀ {ss : List (List Nat)}, x ∈ TL.joinL S ss → x ∈ S ∨ ∃ s ∈ ss, x ∈ s
  | [], h => by simp [TL.joinL] at h
  | [p], h => .inr ⟨p, by simp, by simpa [TL.joinL] using h⟩
  | p :: q :: r, h => by
    rw [TL.joinL] at h
    rcases List.mem_append.mp h with h | h
    · exact .inr ⟨p, by simp, h⟩
    · rcases List.mem_append.mp h with h | h
      · exact .inl h
      · rcases joinL_mem h with h | ⟨s, h1, h2⟩
        · exact .inl h
        · exact .inr ⟨s, by simp at h1 ⊢; exact .inr h1, h2⟩
theorem split_row (r : Row) (h : okRow r = true) : splitL [9] (txtR r) = r := by
  obtain ⟨h1, h2, h3⟩ := okRow_parts h
  refine TL.spl_join (fun z => by rw [z] at h1; simp at h1) fun c hc hx => ?_
  have := (okCell_parts (h3 c hc)).2 _ hx
  omega
theorem split_page (p : Page) (h : okPage p = true) : splitL [10] (txtP p) = p.map txtR := by
  obtain ⟨h1, h2, h3⟩ := okPage_parts h
  refine TL.spl_join (fun z => by
    have := congrArg List.length z
    simp at this
    rw [this] at h1; simp at h1) fun c hc hx => ?_
  obtain ⟨r, hr, rfl⟩ := List.mem_map.mp hc
  rcases joinL_mem hx with hx | ⟨s, h1, h2⟩
  · simp at hx
  · have := (okCell_parts ((okRow_parts (h3 r hr)).2.2 s h1)).2 _ h2
    omega
theorem joinL_snoc (S : List Nat) (q : List Nat) : ∀ {ps : List (List Nat)}, ps ≠ [] → TL.joinL S (ps ++ [q]) = TL.joinL S ps ++ (S ++ q)
  | [], h => absurd rfl h
  | [p], _ => by simp [TL.joinL]
  | p :: p2 :: ps, _ => by
    have := joinL_snoc S q (ps := p2 :: ps) (by simp)
    simp only [List.cons_append] at this ⊢
    rw [TL.joinL, this, TL.joinL]
    simp
def m_written : FV := funD 2 (d_written m_need_page)
theorem take_snoc {A : Type} {l : List A} {i : Nat} {a : A} (h : l[i]? = some a) : l.take (i + 1) = l.take i ++ [a] := by
  rw [List.take_add_one, h]; rfl
theorem written_ok {p : Page} {d : D} {w : List (Nat × List D)} {st : Store} (h : listOf st d = some (encP p, w)) (hp : okPage p = true) : m_written [d] st = .ok (.str (txtP p), st) := by
  unfold m_written funD d_written
  obtain ⟨h1, h2, h3⟩ := okPage_parts hp
  have hl : p.length ≤ LIM := le_LIM (by omega)
  simp [need_page_ok h hp, items_list h, hl]
  generalize hf : lcGo _ _ _ _ _ _ _ _ = r
  obtain ⟨acc, s, rfl, rfl, rfl⟩ := lc_at hf (fun i acc st' => st' = st ∧ acc = ((p.take i).map txtR).map D.str) ⟨rfl, by simp⟩ (fun i acc st' _ hI => by rw [hI.1]; exact still_list h) (fun i x acc st' hi ⟨e1, e2⟩ => by
    subst e1 e2
    unfold encP at hi
    rw [List.getElem?_map] at hi
    cases q : p[i]? with
    | none => rw [q] at hi; cases hi
    | some r =>
      rw [q] at hi
      cases hi
      have hr := h3 r (List.mem_of_getElem? q)
      have hj : (r.map List.length).sum + r.length ≤ LIM := le_LIM (by have := row_join r hr; simp at this; omega)
      refine ⟨_, rfl, ?_⟩
      simp [tyM, encR, listG, joinG, lstOf, hj, take_snoc q, txtR])
  have hj : ((p.map txtR).map List.length).sum + (p.map txtR).length ≤ LIM := le_LIM (by have := page_join p hp; simp at this ⊢; omega)
  have e : (encP p).length = p.length := encP_len p
  simp only [e, List.take_length]
  have e2 : strsOf (List.map D.str (List.map txtR p)) = some (p.map txtR) := strsOf_map _
  simp only [R.bind_ok, r_newF, bind_m, sOf_m, tyM, joinG, lstOf, Option.bind_some, e2, if_true, txtP, hj]
  simp only [List.map_map, List.length_map] at hj
  simp [hj]
def m_read : FV := funD 5 (d_read m_is_row)
theorem read_ok {p : Page} (st : Store) (hp : okPage p = true) : m_read [.str (txtP p)] st = .ok (.ref st.length, st ++ [.lst (encP p)]) := by
  unfold m_read funD d_read
  obtain ⟨h1, h2, h3⟩ := okPage_parts hp
  simp [tyM, splitG, split_page p hp, listOf]
  generalize hf : forGo _ _ _ _ _ _ = r
  obtain ⟨e, s, rfl, e1, a, b, c, e2⟩ := for_at hf (fun i env st' => st' = st ++ [.lst (encP (p.take i))] ∧ ∃ a b c, env = [some (.str (txtP p)), some (.ref st.length), a, b, c]) ⟨by simp [encP], _, _, _, rfl⟩ (fun _ _ _ _ _ => rfl) (fun i x env st' hi ⟨e1, a, b, c, e2⟩ => by
    subst e1 e2
    obtain ⟨y, hy, rfl⟩ := pairUp_at hi
    rw [List.getElem?_map] at hy
    cases q : p[i]? with
    | none => rw [q] at hy; cases hy
    | some r =>
      rw [q] at hy
      cases hy
      have hr := h3 r (List.mem_of_getElem? q)
      have hi := (List.getElem?_eq_some_iff.mp q).1
      have hi2 : ¬ (30 : Int) ≤ i := by omega
      have ir := is_row_tup r (st ++ [.lst (encP (p.take i))])
      rw [hr] at ir
      unfold encR at ir
      have hl : min i p.length < LIM := lt_LIM (by omega)
      simp [tyM, splitG, split_row r hr, tupG, lstOf, geG, hi2, ir, appendG, hl, take_snoc q]
      simp [encP, encR])
  subst e1 e2
  simp [pairUp_len]
/-! ### alike -/
theorem ix_list {st : Store} {d : D} {w : Wk} (h : listOf st d = some w) (i : Int) : ixG st d (.int i) = R.of ((atI w.1 i).map fun x => (x, st)) := by
  have e := lst_list h
  unfold listOf at h
  split at h
  · simp [ixG, e]
  · simp [ixG, e]
  · cases h
theorem is_list {st : Store} {d : D} {w : Wk} (h : listOf st d = some w) : isG false st d .non = .ok (.bl false, st) := by
  unfold listOf at h
  split at h
  · rfl
  · rfl
  · cases h
theorem alike_list {n : Nat} {f g : D} {ds : List D} {w w' : List (Nat × List D)} {st : Store} (hf : listOf st f = some (ds, w)) (hg : listOf st g = some (ds, w')) (hl : ds.length ≤ 1000000) (h : ∀ d ∈ ds, l_law_alike n [d, d] st = .ok (.bl true, st)) :
    l_law_alike (n + 1) [f, g] st = .ok (.bl true, st) := by
  rw [l_law_alike]
  unfold funD d_law_alike
  have m1 : -1000000 ≤ (ds.length : Int) ∧ (ds.length : Int) ≤ 1000000 := by omega
  simp [is_list hg, ty_list hg, ty_list hf, subTy, len_list hf, len_list hg, m1]
  generalize q : forGo _ _ _ _ _ _ = r
  obtain ⟨e, s, rfl, rfl, a, rfl⟩ := for_at q (fun i env st' => st' = st ∧ ∃ a, env = [some f, some g, a]) ⟨rfl, _, rfl⟩ (fun _ _ _ _ _ => rfl) (fun i x env st' hi ⟨e1, a, e2⟩ => by
    subst e1 e2
    obtain ⟨hi, rfl⟩ := ints_get hi
    have z := h ds[i] (by simp)
    have ei : atI ds (i : Int) = some ds[i] := by rw [atI_nat]; simp [hi]
    simp [ix_list hf, ix_list hg, ei, z])
  simp
theorem alike_tup {n : Nat} {ds : List D} {st : Store} (hl : ds.length ≤ 1000000) (h : ∀ d ∈ ds, l_law_alike n [d, d] st = .ok (.bl true, st)) :
    l_law_alike (n + 1) [.tup ds, .tup ds] st = .ok (.bl true, st) := by
  rw [l_law_alike]
  unfold funD d_law_alike
  have m1 : -1000000 ≤ (ds.length : Int) ∧ (ds.length : Int) ≤ 1000000 := by omega
  simp [isG, tyOf, subTy, lenG, m1]
  generalize q : forGo _ _ _ _ _ _ = r
  obtain ⟨e, s, rfl, rfl, a, rfl⟩ := for_at q (fun i env st' => st' = st ∧ ∃ a, env = [some (.tup ds), some (.tup ds), a]) ⟨rfl, _, rfl⟩ (fun _ _ _ _ _ => rfl) (fun i x env st' hi ⟨e1, a, e2⟩ => by
    subst e1 e2
    obtain ⟨hi, rfl⟩ := ints_get hi
    have z := h ds[i] (by simp)
    have ei : atI ds (i : Int) = some ds[i] := by rw [atI_nat]; simp [hi]
    simp [ixG, ei, z])
  simp
theorem alike_row {n : Nat} (r : Row) (st : Store) (h : okRow r = true) : l_law_alike (n + 2) [encR r, encR r] st = .ok (.bl true, st) := by
  refine alike_tup (by have := (okRow_parts h).2.1; simp; omega) fun d hd => ?_
  obtain ⟨c, _, rfl⟩ := List.mem_map.mp hd
  simp [alike_str]
theorem alike_page {n : Nat} {p : Page} {f g : D} {w w' : List (Nat × List D)} {st : Store} (hf : listOf st f = some (encP p, w)) (hg : listOf st g = some (encP p, w')) (h : okPage p = true) : l_law_alike (n + 3) [f, g] st = .ok (.bl true, st) := by
  obtain ⟨h1, h2, h3⟩ := okPage_parts h
  refine alike_list hf hg (by simp; omega) fun d hd => ?_
  obtain ⟨r, hr, rfl⟩ := mem_encP hd
  exact alike_row r st (h3 r hr)
end Dl
/-! ## DlExc -/
/-! raise; try with one except. -/
namespace Dl
open PySem L2
/-- a class of the program under ValueError, without own __init__ -/
structure OwnEx (K : PySem.W.Frag) (mg : Str → Option Value) (x : Str) (C : Addr) : Prop where
  ex : PySem.W.excIn K C [.type "ValueError", .type "Exception", .type "BaseException", .type "object"] "ValueError.__new__" = true
  g : mg x = some (.ref C)
  k : PySem.W.keepIn K (.ref C) = true
  sb : PySem.W.subIn K (.ref C) (.type "BaseException") = some true
  ty : PySem.W.typeIn K (.ref C) = some (.type "type")
section
variable {W : Wd} {X : Cx} {E : XK}
def sRaise (c : Nat) : SV := fun _ st => .exc c none st
@[simp] theorem r_sRaise (c : Nat) (env : Env) (st : Store) : sRaise c env st = .exc c none st := (rfl)
theorem ds_raise {x m : Str} {c j : Nat} {p p2 pos pos2 : Pos} (hK : X.K = W.K) (hc : X.calm = true) (tk : Takes X fun cls d _ H => E cls d H) (o : OwnEx W.K X.mg x (W.cls c)) (hg : Gl X x) (hdb : (x == ("__debug__" : Str)) = false := by decide) :
    DS W X E (.Raise (some (.Call (.Name x p) [.Constant (.str m) j p2] [] pos)) none pos2) (sRaise c) := by
  refine .mk (ps_raise hc tk (pmk_own PySem.F.excBase_ValueError (by rw [hK]; exact o.ex) o.g (by rw [hK]; exact o.k) (raises_own (by rw [hK]; exact o.sb) (by rw [hK]; exact o.ty)) hg hdb)) fun Rs F H rr sg env st D hH hE hP => ?_
  exact hP F H rr none (Same.refl _) (Ext.refl _) hH rfl
/-- try: b / except ..: hb; what is raised is of the classes cs; n slots -/
def sTry (cs : List Nat) (n : Nat) (b hb : SV) : SV := fun env st => match b env st with
  | .exc c p st' => if c ∈ cs then hb (List.replicate n none) st' else .bad
  | .nx e s => .nx e s
  | .rt d s => .rt d s
  | .bk e s => .bk e s
  | .ct e s => .ct e s
  | .bad => .bad
@[simp] theorem r_sTry (cs : List Nat) (n : Nat) (b hb : SV) (env : Env) (st : Store) : sTry cs n b hb env st = match b env st with
  | .exc c p st' => if c ∈ cs then hb (List.replicate n none) st' else .bad
  | .nx e s => .nx e s
  | .rt d s => .rt d s
  | .bk e s => .bk e s
  | .ct e s => .ct e s
  | .bad => .bad := (rfl)
theorem takesN : Takes X (fun _ _ _ _ => False) := fun _ _ x => by
  obtain ⟨_, _, _, _, _, _, _, _, _, _, _, _, _, _, _, _, z⟩ := x
  exact z.elim
theorem ds_try {x : Str} {CG : Addr} {body suite : List Stmt} {b₀ : Stmt} {np pos pos' : Pos} {cs : List Nat} {n : Nat} {b hb : SV} (hK : X.K = W.K) (hs : X.stack = X.env :: X.outer) (hf : X.env.frame = some X.env.locals) (hn : X.N.length = n)
    (hc : Names X x (.ref CG)) (hcs : ∀ c ∈ cs, PySem.W.exmOne W.K (.ref (W.cls c)) (.ref CG) = some true)
    (hbd : ∀ (E1 : XK) (pn : List (Addr × Obj)) (xe : Value → Shared → Prop), Passes (L2.CX X.prog X.w) (X.tr pn xe) E1 → PassesOwn (model X.prog X.w) X.A X.env xe → DB W (X.tr pn xe) E1 body b)
    (hsu : ∀ (a : Addr) (oe : Obj) (pn : List (Addr × Obj)), DB W (X.suite a ((a, oe) :: pn)) E (b₀ :: suite) hb) :
    DS W X E (.Try body [.ExceptHandler (some (.Name x np)) none (b₀ :: suite) pos'] [] [] pos) (sTry cs n b hb) := by
  refine .mk (ps_try_only (tb := fun Wx D σ H => ∃ E1 : XK, (∀ cls d σ' H', σ'.length = n → E1 cls d H' → Wx cls d σ' H') ∧ tDB W E1 b D σ H) (ts := fun _ _ _ => tDB W E hb) hs hf hc takesN (fun Wx pn xe tk po => ?_) (fun a oe cls d pn _ _ => hsu a oe pn)) fun Rs F H rr sg env st D hH hE hP => ?_
  · refine ⟨fun pins s σ H D I h => ?_⟩
    obtain ⟨E1, hW, hD⟩ := h
    have hx : Passes (L2.CX X.prog X.w) (X.tr pn xe) E1 := fun pins σ H s e s' I c => tk e s' (XE.of_call I (fun cls d H' h => hW cls d σ H' (I.len.trans hn) h) c)
    exact (hbd E1 pn xe hx po).run pins s σ H D I hD
  · refine ⟨fun cls d H' => ∃ c ∈ cs, cls = .ref (W.cls c) ∧ ∃ Rs F r st', Holds W Rs F H' r st' ∧ PostS W Rs F r (hb (List.replicate n none) st') D E, fun cls d σ' H' hl he => ?_, ?_⟩
    · obtain ⟨c, hcc, rfl, Rs, F, r, st', h1, h2⟩ := he
      refine ⟨true, by rw [hK]; exact hcs c hcc, fun _ a _ => ⟨Rs, F, r, List.replicate n none, st', h1, ⟨by rw [List.length_replicate]; exact hl, fun i d e => ?_⟩, h2⟩, fun z => by cases z⟩
      rw [List.getElem?_replicate] at e
      split at e <;> cases e
    · refine ⟨Rs, F, rr, env, st, hH, hE, ?_⟩
      unfold sTry at hP
      cases eb : b env st with
      | exc c p st' =>
        rw [eb] at hP
        simp only at hP
        by_cases z : c ∈ cs
        · rw [if_pos z] at hP
          exact fun F' H' r' od s' x' h' _ => ⟨c, z, rfl, Rs, F', r', st', h', PostS.later s' x' hP⟩
        · rw [if_neg z] at hP
          exact hP.elim
      | nx e s => rw [eb] at hP; exact hP
      | rt d s => rw [eb] at hP; exact hP
      | bk e s => rw [eb] at hP; exact hP
      | ct e s => rw [eb] at hP; exact hP
      | bad => rw [eb] at hP; exact hP
end
section
variable {P : Program} {w : World} {mg : Str → Option Value} {base : Heap} {E : XK}
theorem takesD {qual : Str} {N : List Str} {sc : Scope} {f : Addr} {cd : Value} {A : Around} {outer : List PySem.Env} {s : Shared} {H : Hp} {K : PySem.W.Frag} : Takes (cxOf (L2.CX P w) P w K mg base N qual sc f cd A outer s H E) (fun cls d _ H => E cls d H) :=
  takes_of rfl rfl rfl rfl
end
end Dl
/-! ## DlRange -/
/-! list(range(n)). -/
namespace Dl
open PySem L2
section
variable {W : Wd} {X : Cx} {E : XK}
def eLR (m : Bool) (f : EV) : EV := fun env st => (f env st).bind fun a => match a.1 with
  | .int n => if 0 ≤ n ∧ n ≤ 1000000 then newL m (intsD 0 n.toNat) a.2 else .bad
  | _ => .bad
@[simp] theorem r_eLR (m : Bool) (f : EV) (env : Env) (st : Store) : eLR m f env st = (f env st).bind fun a => match a.1 with
  | .int n => if 0 ≤ n ∧ n ≤ 1000000 then newL m (intsD 0 n.toNat) a.2 else .bad
  | _ => .bad := (rfl)
theorem reps_rg {F : Hp} {r : List Addr} (n : Int) : Reps F r (rgV 0 n) (intsD 0 n.toNat) := by
  unfold rgV intsD
  rw [Int.sub_zero]
  generalize List.range n.toNat = l
  induction l with
  | nil => exact .nil
  | cons i l ih => exact .cons (.int _) ih
theorem de_listRange (m : Bool) {e : Expr} {f : EV} {p p2 pos pos2 : Pos} (hc : X.calm = true) (hgl : Gl X "list") (hml : X.mg "list" = none) (hgr : Gl X "range") (hmr : X.mg "range" = none) (he : DE W X E e f)
    (na : starEach [e] X.env = (false, eval e X.env) :: starEach [] X.env := by rfl) (na2 : starEach [.Call (.Name "range" p2) [e] [] pos2] X.env = (false, eval (.Call (.Name "range" p2) [e] [] pos2) X.env) :: starEach [] X.env := by rfl) :
    DE W X E (.Call (.Name "list" p) [.Call (.Name "range" p2) [e] [] pos2] [] pos) (eLR m f) := by
  obtain ⟨t, pe, q⟩ := he.ex
  refine .mk (pe_listRg hc hgl hml (prg_1 hgr hmr pe na) na2) fun Rs F H rr sg env st Q hH hE hP => ?_
  refine q Rs F H rr sg env st _ hH hE (bindX hP fun a ea z F1 H1 r1 v1 s1 x1 h1 k1 => ?_)
  obtain ⟨d, st1⟩ := a
  cases k1 with
  | int n =>
    simp only at z
    split at z
    · rename_i hn
      refine ⟨n, rfl, RgOk.of_le (Int.le_refl 0) (by omega) (by omega) hn.1, fun q hq => ?_⟩
      exact newL_post h1 (reps_rg n) (Post.later s1 x1 z) hq
    · exact z.elim
  | _ => exact z.elim
end
end Dl
/-! ## DlLam -/
/-! Lambdas handed to a def: what stands in the heap; a call. -/
namespace Dl
open PySem PySem.Spec PyProof.Rows L2
/-- a lambda's text -/
structure LamD where
  q : Str
  params : Arguments
  body : PySem.Expr
  scope : Scope
/-- whatever it is: the object alone is known -/
def anyO : HO := .ext fun _ => True
theorem anyO_ok {P : Program} {w : World} {H : Hp} {h : Heap} {a : Addr} {o : Obj} (e : h.get? a = some o) : L2.ObjOk P w H h a (.frz o anyO) := ⟨e, trivial, ⟨o, e⟩, fun _ _ _ _ => trivial⟩
/-- the cells that a lambda keeps, by name; what they hold -/
structure CellsAt (H : Hp) (N : List Str) (cl : List (Str × Addr)) (us : List Value) : Prop where
  at_ : ∀ (i : Nat) (y : Str), N[i]? = some y → ∃ c u o, cl.lookup y = some c ∧ us[i]? = some u ∧ H c = some (.frz o anyO) ∧ o.data = .cell (some u)
  all : ∀ y c, cl.lookup y = some c → y ∈ N
  mem : ∀ y c, (y, c) ∈ cl → cl.lookup y = some c
  inj : ∀ y z c, cl.lookup y = some c → cl.lookup z = some c → y = z
  len : us.length = N.length
/-- the heap without these -/
def hideC (cs : List Addr) (H : Hp) : Hp := fun a => if a ∈ cs then none else H a
theorem hideC_in {cs : List Addr} {H : Hp} {a : Addr} (h : a ∈ cs) : hideC cs H a = none := if_pos h
theorem hideC_out {cs : List Addr} {H : Hp} {a : Addr} (h : a ∉ cs) : hideC cs H a = H a := if_neg h
/-- the heap with what H says of these -/
def showC (cs : List Addr) (H H' : Hp) : Hp := fun a => if a ∈ cs then H a else H' a
theorem showC_in {cs : List Addr} {H H' : Hp} {a : Addr} (h : a ∈ cs) : showC cs H H' a = H a := if_pos h
theorem showC_out {cs : List Addr} {H H' : Hp} {a : Addr} (h : a ∉ cs) : showC cs H H' a = H' a := if_neg h
/-- these are known objects -/
def Known (cs : List Addr) (H : Hp) : Prop := ∀ a ∈ cs, ∃ o, H a = some (.frz o anyO)
section
variable {P : Program} {w : World} {H H' : Hp} {h h' : Heap} {cs fs : List Addr}
theorem hok_hide (k : Known cs H) (ok : HOk P w H h) : HOk P w (hideC cs H) h := fun a o e => by
  have ha : a ∉ cs := fun m => by rw [hideC_in m] at e; cases e
  rw [hideC_out ha] at e
  have no : ∀ {b : Addr} {u : HO}, H b = some u → (∀ ob, u ≠ .frz ob anyO) → hideC cs H b = some u := fun {b u} q n => by
    rw [hideC_out fun m => ?_]
    · exact q
    · obtain ⟨ob, z⟩ := k b m
      rw [q] at z
      exact n ob (Option.some.inj z)
  exact (ok a o e).stay (fun b u _ q => q) (fun b q => no q fun ob z => by cases z) fun b xs q => no q fun ob z => by cases z
theorem hok_show (k : Known cs H) (hh : ∀ a ∈ cs, ∀ o, H a = some (.frz o anyO) → h'.get? a = some o) (hn : ∀ a ∈ cs, H' a = none) (ok : HOk P w H' h') : HOk P w (showC cs H H') h' := fun a o e => by
  by_cases ha : a ∈ cs
  · rw [showC_in ha] at e
    obtain ⟨ob, z⟩ := k a ha
    rw [e] at z
    cases z
    exact anyO_ok (hh a ha ob e)
  · rw [showC_out ha] at e
    have no : ∀ {b : Addr} {u : HO}, H' b = some u → showC cs H H' b = some u := fun {b u} q => by
      rw [showC_out fun m => ?_]
      · exact q
      · rw [hn b m] at q; cases q
    exact (ok a o e).stay (fun b u _ q => q) (fun b q => no q) fun b xs q => no q
theorem un_show (k : Known cs H) (ok : HOk P w H h) (hf : ∀ a ∈ cs, a ∉ fs) (un : Un fs [] (hideC cs H) H' h h') : Un fs [] H (showC cs H H') h h' := by
  have out : ∀ {b : Addr}, H b = none → b ∉ cs := fun {b} n m => by
    obtain ⟨ob, z⟩ := k b m
    rw [n] at z; cases z
  have notk : ∀ {b : Addr} {u : HO}, H b = some u → (∀ ob, u ≠ .frz ob anyO) → b ∉ cs := fun {b u} q n m => by
    obtain ⟨ob, z⟩ := k b m
    rw [q] at z
    exact n ob (Option.some.inj z)
  refine ⟨fun b o e n hb hx => un.keep b o e (by rw [hideC_out (out n)]; exact n) hb hx, fun b o e n hb hx => un.slot b o e (by rw [hideC_out (out n)]; exact n) hb hx,
    fun b o e n hx => by rw [showC_out (out n)]; exact un.free b o e (by rw [hideC_out (out n)]; exact n) hx, un.there, fun b xs e => ?_, fun b o u e => ?_, fun b ps e => ?_⟩
  · have hb := notk e fun ob z => by cases z
    rw [showC_out hb]; exact un.tups b xs (by rw [hideC_out hb]; exact e)
  · by_cases hb : b ∈ cs
    · rw [showC_in hb]; exact e
    · rw [showC_out hb]; exact un.frzs b o u (by rw [hideC_out hb]; exact e)
  · have hb := notk e fun ob z => by cases z
    rw [showC_out hb]; exact un.tbls b ps (by rw [hideC_out hb]; exact e)
theorem kept_show (k : Known cs H) (ok : HOk P w H h) (hf : ∀ a ∈ cs, a ∉ fs) (un : Un fs [] (hideC cs H) H' h h') : (∀ a ∈ cs, ∀ o, H a = some (.frz o anyO) → h'.get? a = some o) ∧ ∀ a ∈ cs, H' a = none := by
  refine ⟨fun a m o e => ?_, fun a m => ?_⟩
  · exact un.keep a o (ok a _ e).1 (hideC_in m) (hf a m) (by simp)
  · obtain ⟨o, e⟩ := k a m
    exact un.free a o (ok a _ e).1 (hideC_in m) (by simp)
end
/-- the lambda's names: captured ones alone, and globals -/
structure LamStat (N : List Str) (sc : Scope) : Prop where
  kind : sc.kind = .function
  co : sc.isCoroutine = false
  gen : sc.isGenerator = false
  own : ∀ y ∈ sc.names, y.2 ≠ .cell ∧ (y.2 = .local → y.1 ∉ N)
  free : ∀ y, sc.names.lookup y = some .free → y ∈ N
  nd : N.Nodup
abbrev lamE (ld : LamD) (cl : List (Str × Addr)) (L f c' : Addr) : PySem.Env := PySem.W.envX ld.q ld.scope L f (.ref c') cl
/-- the lambda's context, entered at s from X's frames -/
def LX (P : Program) (w : World) (K : PySem.W.Frag) (mg : Str → Option Value) (base : Heap) (A : Around) (stack : List PySem.Env) (N : List Str) (ld : LamD) (cl : List (Str × Addr)) (f c' : Addr) (s : Shared) (H : Hp) (E : XK) : Cx where
  prog := P
  w := w
  K := K
  mg := mg
  base := base
  A := A.deeper (lamE ld cl s.heap.objs.size f c')
  N := N
  s_0 := s
  H_0 := H
  env := lamE ld cl s.heap.objs.size f c'
  outer := stack
  stack := lamE ld cl s.heap.objs.size f c' :: stack
  ex := []
  fn := fun _ => false
  calm := true
  pn := []
  xe := fun e s' => wpAny (model P w) (A.deeper (lamE ld cl s.heap.objs.size f c')) (leaving (lamE ld cl s.heap.objs.size f c') e) (fun _ s'' => L2.CX P w stack H s E e s'') (fun e' s'' => L2.CX P w stack H s E e' s'') s'
section
variable {P : Program} {w : World} {K : PySem.W.Frag} {mg : Str → Option Value} {base : Heap} {A : Around} {stack : List PySem.Env} {N : List Str} {ld : LamD} {cl : List (Str × Addr)} {f c' : Addr} {s : Shared} {H : Hp} {E : XK}
theorem lam_inv {h₁ : Heap} {tk : Nat} {us : List Value} {vs : List V} (e0 : Env0 P w K mg base A stack s H) (hd : A.handled = none) (C : CellsAt H N cl us) (L : LamStat N ld.scope) (rv : Vals vs us)
    {m : Str → Option Value} (hns : h₁.Ns s.heap.objs.size m) (kp : ∀ b o, s.heap.get? b = some o → h₁.get? b = some o) :
    Inv (LX P w K mg base A stack N ld cl f c' s (hideC (cl.map (·.2)) H) E) [] (vs.map some) (hideC (cl.map (·.2)) H) { s with heap := h₁, toks := tk } := by
  have kn : Known (cl.map (·.2)) H := fun a m => by
    obtain ⟨⟨y, c⟩, hy, rfl⟩ := List.mem_map.mp m
    have hl := C.mem y c hy
    obtain ⟨i, hi⟩ := List.getElem?_of_mem (C.all y c hl)
    obtain ⟨c2, u, o, h1, h2, h3, h4⟩ := C.at_ i y hi
    rw [hl] at h1
    cases h1
    exact ⟨o, h3⟩
  have cellH : ∀ y c, cl.lookup y = some c → ∃ u, h₁.IsCell c (some u) := fun y c hl => by
    obtain ⟨i, hi⟩ := List.getElem?_of_mem (C.all y c hl)
    obtain ⟨c2, u, o, h1, h2, h3, h4⟩ := C.at_ i y hi
    rw [hl] at h1
    cases h1
    exact ⟨u, o, kp _ _ (e0.hok c _ h3).1, h4⟩
  have look : ∀ {y c}, cl.lookup y = some c → c ∈ cl.map (·.2) := fun {y c} hl => List.mem_map.mpr ⟨(y, c), PySem.mem_of_lookup hl, rfl⟩
  have noA : ∀ b : Addr, b ∉ ([] : List Addr) := fun b z => by cases z
  have none_of : ∀ {b}, H b = none → hideC (cl.map (·.2)) H b = none := fun {b} n => by
    unfold hideC
    split
    · rfl
    · exact n
  refine ⟨⟨e0.mod, L.kind, rfl, rfl, Nat.le_refl _, C.inj, fun y hy => ?_, fun y c z _ => ?_, fun _ => hd, Around.frames_deeper e0.frames, .inr ⟨rfl, rfl⟩, fun b z => absurd z (noA b), fun b o e => ⟨(e0.bs b o e).1, none_of (e0.bs b o e).2⟩, e0.bsz, fun b _ _ => noA b,
      fun b z => absurd z (noA b), e0.funs, fun b hb => none_of (e0.frf b hb)⟩, rfl, e0.bare, Un.kept kp, ⟨_, hns, fun i y v e1 e2 e3 => ?_⟩, fun y c e => ?_, none_of (e0.hok.fresh (Nat.le_refl _)), fun y c e => hideC_in (look e), fun p hp => ?_, (hok_hide kn e0.hok).kept kp, ?_⟩
  · have hy : ld.scope.names.lookup y = some .cell ∨ ld.scope.names.lookup y = some .free := hy
    rcases hy with hy | hy
    · exact absurd rfl (L.own _ (PySem.mem_of_lookup hy)).1
    · obtain ⟨i, hi⟩ := List.getElem?_of_mem (L.free y hy)
      obtain ⟨c2, u, o, h1, _⟩ := C.at_ i y hi
      exact ⟨c2, h1⟩
  · have z : false = true := z
    cases z
  · have e1 : N[i]? = some y := e1
    have e3 : Vis ld.scope y := e3
    obtain ⟨c, u, o, h1, h2, h3, h4⟩ := C.at_ i y e1
    rw [List.getElem?_map] at e2
    obtain ⟨v', hv, q⟩ := Option.map_eq_some_iff.mp e2
    cases q
    obtain ⟨u', hu, r⟩ := rv.get hv
    rw [h2] at hu
    cases hu
    refine ⟨u, r, .inr ⟨?_, c, h1, o, kp _ _ (e0.hok c _ h3).1, h4⟩⟩
    rcases e3 with k | k | k
    · exact absurd (List.mem_of_getElem? e1) ((L.own _ (PySem.mem_of_lookup k)).2 rfl)
    · exact .inl k
    · exact .inr k
  · obtain ⟨u, hu⟩ := cellH y c e
    exact ⟨_, hu⟩
  · have hp : p ∈ ([] : List (Addr × Obj)) ++ [] := hp
    cases hp
  · show (vs.map some).length = N.length
    rw [List.length_map, rv.length, C.len]
end
theorem known_of {H : Hp} {N : List Str} {cl : List (Str × Addr)} {us : List Value} (C : CellsAt H N cl us) : Known (cl.map (·.2)) H := fun a m => by
  obtain ⟨⟨y, c⟩, hy, rfl⟩ := List.mem_map.mp m
  have hl := C.mem y c hy
  obtain ⟨i, hi⟩ := List.getElem?_of_mem (C.all y c hl)
  obtain ⟨c2, u, o, h1, h2, h3, h4⟩ := C.at_ i y hi
  rw [hl] at h1
  cases h1
  exact ⟨o, h3⟩
section
variable {P : Program} {w : World} {H : Hp} {s s' : Shared} {cs : List Addr} {stack : List PySem.Env}
theorem ce_show {Q : VK} {u : Value} (k : Known cs H) (ok : HOk P w H s.heap) (hf : ∀ a ∈ cs, a ∉ frs stack) (h : CE stack P w (hideC cs H) s (fun v H' => (∀ a ∈ cs, H' a = none) → Q v (showC cs H H')) u s') : CE stack P w H s Q u s' := by
  obtain ⟨v, H', e1, e2, un, hok, r, q⟩ := h
  obtain ⟨k1, k2⟩ := kept_show k ok hf un
  exact ⟨v, _, e1, e2, un_show k ok hf un, hok_show k k1 k2 hok, r, q k2⟩
theorem cx_show {E : XK} {u : Value} (k : Known cs H) (ok : HOk P w H s.heap) (hf : ∀ a ∈ cs, a ∉ frs stack) (h : L2.CX P w stack (hideC cs H) s (fun c d H' => (∀ a ∈ cs, H' a = none) → E c d (showC cs H H')) u s') : L2.CX P w stack H s E u s' := by
  obtain ⟨a, B, H', cls, d, eu, fl, hok, ub, na, os, bare, q⟩ := h
  have out : ∀ {b : Addr}, H b = none → b ∉ cs := fun {b} n m => by
    obtain ⟨ob, z⟩ := k b m
    rw [n] at z; cases z
  have notk : ∀ {b : Addr} {u : HO}, H b = some u → (∀ ob, u ≠ .frz ob anyO) → b ∉ cs := fun {b u} q n m => by
    obtain ⟨ob, z⟩ := k b m
    rw [q] at z
    exact n ob (Option.some.inj z)
  have kB : ∀ b ∈ cs, ∀ o, H b = some (.frz o anyO) → B.get? b = some o := fun b m o e => ub.keep b o (ok b _ e).1 (hideC_in m) (hf b m)
  have nB : ∀ b ∈ cs, H' b = none := fun b m => by
    obtain ⟨o, e⟩ := k b m
    exact ub.free b o (ok b _ e).1 (hideC_in m)
  have nacs : a ∉ cs := fun m => by
    obtain ⟨o, e⟩ := k a m
    have e1 := kB a m o e
    rw [fl.2.1] at e1
    cases e1
  refine ⟨a, B, showC cs H H', cls, d, eu, fl, hok_show k kB nB hok, ⟨fun b o e n hb => ub.keep b o e (by rw [hideC_out (out n)]; exact n) hb, ub.slot, fun b o e n => by rw [showC_out (out n)]; exact ub.free b o e (by rw [hideC_out (out n)]; exact n), ub.there, fun b xs e => ?_, fun b o xs e => ?_, fun b ps e => ?_⟩,
    by rw [showC_out nacs]; exact na, os, bare, q nB⟩
  · have hb := notk e fun ob z => by cases z
    rw [showC_out hb]; exact ub.tups b xs (by rw [hideC_out hb]; exact e)
  · by_cases hb : b ∈ cs
    · rw [showC_in hb]; exact e
    · rw [showC_out hb]; exact ub.frzs b o xs (by rw [hideC_out hb]; exact e)
  · have hb := notk e fun ob z => by cases z
    rw [showC_out hb]; exact ub.tbls b ps (by rw [hideC_out hb]; exact e)
end
/-- the body's meaning, wherever it runs -/
def BodyOk (P : Program) (w : World) (W : Wd) (mg : Str → Option Value) (base : Heap) (k : Nat) (ld : LamD) (N : List Str) (fb : EV) : Prop :=
  ∀ (A : Around) (stack : List PySem.Env) (s : Shared) (H : Hp) (E : XK) (f c' : Addr) (cl : List (Str × Addr)), Room k (A.deeper (lamE ld cl s.heap.objs.size f c')) → DE W (LX P w W.K mg base A stack N ld cl f c' s H E) E ld.body fb
/-- the default's tuple -/
def DvH (H : Hp) (dV : Value) (dv : List Value) : Prop := (dV = .none ∧ dv = []) ∨ dv ≠ [] ∧ ∃ T, dV = .ref T ∧ H T = some (.frz (PySem.W.kdv_tup dv) anyO)
theorem DvH.same {H H' : Hp} (s : Same H H') {dV : Value} {dv : List Value} : DvH H dV dv → DvH H' dV dv
  | .inl h => .inl h
  | .inr ⟨n, T, e, h⟩ => .inr ⟨n, T, e, s _ _ h⟩
/-- the lambda's function object, at f -/
def FnStd (H : Hp) (ld : LamD) (cl : List (Str × Addr)) (c' f : Addr) : Prop := ∃ (pm ctv doc dV : Value) (dv : List Value), dv.length = ld.params.defaults.length ∧ DvH H dV dv ∧
  H f = some (.frz (PySem.W.kdv_obj "<lambda>" ld.q ld.params (.expr ld.body) ld.scope cl dV doc pm c' ctv) anyO)
theorem FnStd.same {H H' : Hp} (s : Same H H') {ld : LamD} {cl : List (Str × Addr)} {c' f : Addr} : FnStd H ld cl c' f → FnStd H' ld cl c' f
  | ⟨pm, ctv, doc, dV, dv, h1, h2, h3⟩ => ⟨pm, ctv, doc, dV, dv, h1, h2.same s, s _ _ h3⟩
/-- no parameter need be given: all have a default -/
def Free0 (ld : LamD) : Prop := ∃ xs : List Str, (∀ y ∈ xs, ld.scope.names.lookup y = some .local) ∧ ∀ (s : Shared) (cl : List (Str × Addr)) (doc pm cv ctv dV : Value) (dv : List Value), dv.length = ld.params.defaults.length →
  ((dV = .none ∧ dv = []) ∨ dv ≠ [] ∧ ∃ T, dV = .ref T ∧ s.heap.get? T = some (PySem.W.kdv_tup dv)) → BindsTo s (PySem.W.kdv_fn "<lambda>" ld.q ld.params (.expr ld.body) ld.scope cl dV doc pm cv ctv) ⟨[], []⟩ (xs.zip dv)
theorem free0_no {q : Str} {params : Arguments} {bd : PySem.Expr} {scope : Scope} (h0 : params.defaults = []) (h : ∀ (cl : List (Str × Addr)) (doc pm cv ctv : Value), bindArgs (PySem.W.kdv_fn "<lambda>" q params (.expr bd) scope cl .none doc pm cv ctv) ⟨[], []⟩ = pure []) : Free0 ⟨q, params, bd, scope⟩ := by
  refine ⟨[], fun y hy => (by cases hy), fun s cl doc pm cv ctv dV dv hl hd => ?_⟩
  have e : dv = [] := List.length_eq_zero_iff.mp (hl.trans (by show params.defaults.length = 0; rw [h0]; rfl))
  subst e
  rcases hd with ⟨rfl, _⟩ | ⟨n, _⟩
  · exact .of_eq (h cl doc pm cv ctv)
  · exact absurd rfl n
theorem free0_one {q x : Str} {params : Arguments} {bd : PySem.Expr} {scope : Scope} (h1 : params.defaults.length = 1) (hx : scope.names.lookup x = some .local)
    (h : ∀ (cl : List (Str × Addr)) (doc pm cv ctv : Value) (T : Addr), ∃ k, bindArgs (PySem.W.kdv_fn "<lambda>" q params (.expr bd) scope cl (.ref T) doc pm cv ctv) ⟨[], []⟩ = seqItems? (.ref T) >>= k ∧ ∀ v : Value, k (some #[v]) = pure [(x, v)]) : Free0 ⟨q, params, bd, scope⟩ := by
  refine ⟨[x], fun y hy => by rw [List.mem_singleton.mp hy]; exact hx, fun s cl doc pm cv ctv dV dv hl hd => ?_⟩
  obtain ⟨v, rfl⟩ := List.length_eq_one_iff.mp (hl.trans h1)
  rcases hd with ⟨_, e⟩ | ⟨_, T, rfl, ho⟩
  · cases e
  · obtain ⟨k, e1, e2⟩ := h cl doc pm cv ctv T
    exact BindsTo.of_defaults rfl ho rfl e1 (e2 v)
/-- a lambda at f: what stands there -/
structure LamAt (H : Hp) (ld : LamD) (N : List Str) (f : Addr) (cl : List (Str × Addr)) (c' : Addr) (us : List Value) : Prop where
  fn : FnStd H ld cl c' f
  co : H c' = some (LamX.CodeO c' ld.q)
  ce : CellsAt H N cl us
/-- a() is called: what it asks -/
def tAct (P : Program) (w : World) (W : Wd) (mg : Str → Option Value) (base : Heap) (k i : Nat) (E : XK) : TE := fun σ H Q => ∃ (ld : LamD) (N : List Str) (fb : EV) (f : Addr) (cl : List (Str × Addr)) (c' : Addr) (us : List Value) (vs : List V) (caps : List D) (Rs F : Hp) (r : List Addr) (st : Store),
  BodyOk P w W mg base k ld N fb ∧ Free0 ld ∧ LamStat N ld.scope ∧ σ[i]? = some (some (.ref f)) ∧ LamAt H ld N f cl c' us ∧ Vals vs us ∧ Holds W Rs F (hideC (cl.map (·.2)) H) r st ∧ Reps F r vs caps ∧
  Post W Rs F r (fb (caps.map some) st) (fun v H' => (∀ a ∈ cl.map (·.2), H' a = none) → Q v (showC (cl.map (·.2)) H H')) (fun c d H' => (∀ a ∈ cl.map (·.2), H' a = none) → E c d (showC (cl.map (·.2)) H H'))
theorem reps_env {F : Hp} {r : List Addr} {vs : List V} {ds : List D} (k : Reps F r vs ds) : EnvOk F r (vs.map some) (ds.map some) := ⟨by rw [List.length_map, List.length_map, k.length], fun i d e => by
  rw [List.getElem?_map] at e
  obtain ⟨d', hd, q⟩ := Option.map_eq_some_iff.mp e
  cases q
  obtain ⟨v, hv, kv⟩ := k.get hd
  exact ⟨v, by rw [List.getElem?_map, hv]; rfl, kv⟩⟩
theorem pe_act {X : Cx} {W : Wd} {k i : Nat} {a : Str} {p1 p2 : Pos} {E : XK} (hK : X.K = W.K) (hr : Room (k + 1) X.A) (hx : Passes (L2.CX X.prog X.w) X E) (hN : X.N[i]? = some a) (hv : Vis X.env.scope a) (hd : (a == ("__debug__" : Str)) = false := by decide) (hcd : (a == ("__classdict__" : Str)) = false := by decide) :
    PE X (.Call (.Name a p1) [] [] p2) (tAct X.prog X.w W X.mg X.base k i E) := by
  refine ⟨fun pins s0 σ H0 Q I0 hh => ?_⟩
  obtain ⟨ld, N, fb, f, cl, c', us, vs, caps, Rs, F, r, st, body, hfree, L, hs, ⟨⟨pm, ctv, doc, dV, dv, hdl, hdv, hfn⟩, hco, hce⟩, rv, hH, hR, hP⟩ := hh
  obtain ⟨ps0, hps, hbind⟩ := hfree
  have hvar := (pe_var (X := X) (pos := p1) (i := i) hN hv hd hcd).run pins s0 σ H0 (fun v H1 => v = .ref f ∧ H1 = H0) I0 ⟨.ref f, hs, rfl, rfl⟩
  refine wpAny_Call_Name_kw (thn hvar fun u s1 ⟨v, H1, I, r1, ev, eH⟩ => ?_)
  subst ev eH
  obtain rfl : u = Value.ref f := r1
  have kn := known_of hce
  have hcf : ∀ a ∈ cl.map (·.2), a ∉ frs X.stack := fun a m m2 => by
    obtain ⟨o, e⟩ := kn a m
    rw [I.stkFree a m2] at e
    cases e
  have hf := (I.hok f _ hfn).1
  refine PySem.W.callWith_F0 ⟨_, _, _, _, hf⟩ (wpAny_call ?_)
  have e0 : Env0 X.prog X.w W.K X.mg X.base X.A X.stack s1 H1 := by
    have z := I.env0
    rw [hK] at z
    exact z
  obtain ⟨⟨oc, xs, t, hoc, hdc, hvc⟩, _, _⟩ := I.hok c' _ hco
  have run : codeAny (model X.prog X.w) X.A (.call (.ref f) ⟨[], []⟩) (CR (L2.CX X.prog X.w) X.stack X.prog X.w (hideC (cl.map (·.2)) H1) s1 (fun v H' => (∀ a ∈ cl.map (·.2), H' a = none) → Q v (showC (cl.map (·.2)) H1 H')) (fun c d H' => (∀ a ∈ cl.map (·.2), H' a = none) → E c d (showC (cl.map (·.2)) H1 H'))) s1 := by
    refine PySem.W.kla_callFunE hr.depth hf rfl L.co L.gen rfl ⟨c', oc, xs, t, rfl, hoc, hdc, hvc⟩ ?_
    refine hbind s1 cl doc pm (.ref c') ctv dV dv hdl (hdv.imp id fun ⟨n, T, e, h⟩ => ⟨n, T, e, (I.hok T _ h).1⟩) _ _ _ _ ?_
    refine wpAny_newFunctionEnv (fun y hy => (L.own y hy).1) (fun y hy => hps y.1 (List.of_mem_zip hy).1) (fun h₁ hns hsb => ?_) L.kind
    refine ⟨I.nolimit.fresh _ hsb, ?_⟩
    show codeAny _ _ (.expr ld.body (lamE ld cl s1.heap.objs.size f c')) _ _
    have kp : ∀ (q : Addr) (z : Obj), s1.heap.get? q = some z → h₁.get? q = some z := fun q z e => hsb.extBut q z (Nat.ne_of_lt (Heap.lt_size e)) (Heap.get?_push_of_some _ e)
    have J := lam_inv (ld := ld) (f := f) (c' := c') (E := fun c d H' => (∀ a ∈ cl.map (·.2), H' a = none) → E c d (showC (cl.map (·.2)) H1 H')) (tk := s1.toks + (ps0.zip dv).length) e0 hr.hd hce L rv hns kp
    obtain ⟨tt, pp, qq⟩ := (body X.A X.stack s1 (hideC (cl.map (·.2)) H1) (fun c d H' => (∀ a ∈ cl.map (·.2), H' a = none) → E c d (showC (cl.map (·.2)) H1 H')) f c' cl (hr.deeper _)).ex
    refine PySem.W.kla_codeExpr (wpAny_mono (pp.run [] _ _ _ _ J (qq Rs F _ r _ (caps.map some) st _ hH (reps_env hR) hP)) (fun v s' hq => ?_) fun e s' hq => hq)
    obtain ⟨w', H', J', rv', q⟩ := hq
    exact ⟨w', H', J'.os, J'.bare, J'.base, J'.hok, rv', q⟩
  refine codeAny_mono run fun res s2 hq => ?_
  have ok1 := I.hok
  cases res with
  | error e => exact hx pins σ H1 s1 e s2 I (cx_show kn ok1 hcf hq)
  | ok fl =>
    cases fl with
    | ret u => exact I.after (ce_show kn ok1 hcf hq)
    | next => exact False.elim hq
    | brk => exact False.elim hq
    | cont => exact False.elim hq
end Dl
/-! ## DlIsE -/
/-! isinstance of a caught exception, with a dict or without. -/
namespace Dl
open PySem PySem.Spec PyProof.Rows L2 PySem.W PySem.Calls
section
variable {prog : Program} {w : World} {A : Around} {E : Value → Shared → Prop} {s : Shared} {K : Frag} {x D : Addr} {ox : Obj} {od : Option Obj}
theorem kit_exc {K : Frag} {x D : Addr} {ox : Obj} {od : Option Obj} (c : L2.ExcC K D) : KitX K (.ref x) (.ref D) fun h => InstAt h x ox D od :=
  kitx_exc (match any_some c.hd with | ⟨_, e, _⟩ => Option.isSome_iff_exists.mpr ⟨_, e⟩) c.hg c.hk c.hs c.ha c.hn c.ht c.hm
theorem inst_of {h : Heap} {a D : Addr} {oe : Obj} {d : Option Addr} (hz : Zc (.ref D) d oe) (hf : ∃ vs, oe.data = .fields vs) (e : h.get? a = some oe) (hd : ∀ dd, d = some dd → ∃ o, h.get? dd = some o) : ∃ od, InstAt h a oe D od := by
  have ⟨vs, hv⟩ := hf
  match oe, d, hz, hv, e, hd with
  | ⟨_, _, _, _⟩, none, ⟨rfl, rfl⟩, rfl, e, _ => exact ⟨none, e, rfl, rfl, trivial⟩
  | ⟨_, _, _, _⟩, some dd, ⟨rfl, rfl⟩, rfl, e, hd =>
    have ⟨o, q⟩ := hd dd rfl
    exact ⟨some o, e, rfl, rfl, q⟩
theorem call_isX {X : Cx} {a D : Addr} {oe : Obj} {d : Option Addr} {pn : List (Addr × Obj)} (C : L2.ExcC X.K D) (hz : Zc (.ref D) d oe) (hf : ∃ vs, oe.data = .fields vs)
    (pins : List (Addr × Obj)) (s : Shared) (σ : L2.St) (H : Hp) (us : List Value) (c : V) (cv : Value) (b : Bool) (Q : VK) (I : Inv (X.suite a ((a, oe) :: pn)) pins σ H s) (r : Vals [.ref a, c] us) (hcv : ∀ u, RelV c u → u = cv)
    (e : kitOne X.K (.ref D) cv = some b) (hdd : ∀ dd, d = some dd → ∃ o, s.heap.get? dd = some o) (q : Q (.bl b) H) :
    wpAny (model X.prog X.w) (X.suite a ((a, oe) :: pn)).A (call (.builtin "isinstance") us) (EP (X.suite a ((a, oe) :: pn)) pins σ Q) (X.suite a ((a, oe) :: pn)).xe s := by
  have ⟨od, J⟩ := inst_of hz hf (I.pin (a, oe) (by simp)).1 hdd
  match us, r with
  | [_, t], .cons rfl (.cons ht .nil) =>
    rw [hcv t ht]
    exact kia_one (kit_exc C) I.kIn J e nofun fun tk => ⟨.bl b, H, I.kept (t' := tk) fun _ _ => id, rfl, q⟩
end
end Dl
/-! ## DlPay -/
/-! raise C(i): an own class whose __init__ keeps a number. -/
namespace Dl
open PySem L2
/-- the class x at C, its __init__ at fI, its field f -/
structure PayEx (K : PySem.W.Frag) (mg : Str → Option Value) (x : Str) (C fI : Addr) (f : Str) : Prop where
  T : OexC K C
  iC : PySem.W.findIn K (.ref C) "__init__" = some (some (.ref fI))
  tI : PySem.W.typeIn K (.ref fI) = some (.type "function")
  no : PySem.W.findIn K (.ref C) f = some none
  g : mg x = some (.ref C)
/-- the class x at G, that has ValueError's __init__ -/
structure BaseEx (K : PySem.W.Frag) (mg : Str → Option Value) (x : Str) (G : Addr) : Prop where
  g : mg x = some (.ref G)
  sp : PySem.W.specialIn K (.ref G) "__getattribute__" = some (some (.builtin "type.__getattribute__"))
  rd : PySem.W.readsIn K G (.type "type") = true
  fc : PySem.W.findCls K (.ref G) (.type "type") "__init__" = some (.val (.builtin "ValueError.__init__"))
def spInit (K : PySem.W.Frag) (C : Addr) (f : Str) : Sp := fun vs H Q _ => ∃ (a : Addr) (v : V), vs = [.ref a, v] ∧ H a = some (exo a C none) ∧ ∀ dx, H dx = none → dx ≠ a → Q .non (upd (upd H dx (exd dx [(f, v)])) a (exo a C (some dx)))
section
variable {X : Cx} {x : Str} {G : Addr} {e : Expr} {es : List Expr} {ta : TA} {p1 p2 pos : Pos}
theorem pe_binit {pl : Sem Bool} (b : BaseEx X.K X.mg x G) (hg : Gl X x) (ha : PA X (e :: es) ta)
    (hc : eval (.Call (.Attribute (.Name x p1) "__init__" p2) (e :: es) [] pos) X.env = (do
      let ov ← eval (.Name x p1) X.env
      standAt p2.atName
      let (g, one) ← holding [ov] (getMethod ov "__init__" pl)
      callWith pos g one (backTo pos (starEach (e :: es) X.env)) (backToKw pos (keywordEach [] X.env))) := by rfl) (hdb : (x == ("__debug__" : Str)) = false := by decide) (he : starEach (e :: es) X.env = (false, eval e X.env) :: starEach es X.env := by rfl) (hpl : (backTo pos (starEach es X.env)).any (·.1) = false := by rfl) :
    PE X (.Call (.Attribute (.Name x p1) "__init__" p2) (e :: es) [] pos) (tVeI X.K ta) := by
  refine ⟨fun pins s0 σ H Q I h => PySem.W.methodCall_KW (ld_glob I hg b.g (PySem.W.method_cls I.kIn b.sp (PySem.W.cls_value I.kIn b.rd b.fc (by decide +kernel) ?_)) hdb) hc⟩
  have args : wpAny (model X.prog X.w) X.A (spliced (backTo pos (starEach (e :: es) X.env))) (fun us s1 => wpAny (model X.prog X.w) X.A (call (.builtin "ValueError.__init__") us) (EP X pins σ Q) X.xe s1) X.xe { s0 with toks := s0.toks + 1 } :=
    thn (ha.run pos pins _ σ H _ (I.tok _) h) fun us s1 ⟨vs, H1, I1, r1, a, C, ws, ev, hl, T, ea, q⟩ => by
      subst ev
      match us, r1 with
      | u :: ur, .cons ra rr => exact (show u = Value.ref a from ra) ▸ oinit_ok T I1 ea (by have n := rr.length; rw [PySem.sizeLine_eq]; omega) fun s2 J => ⟨.non, H1, J, rfl, q⟩
  exact PyProof.Rows.callWith_method1 args he hpl
end
section
variable {P : Program} {w : World} {W : Wd} {mg : Str → Option Value} {base : Heap}
/-- __init__(self, f): GrowError.__init__(self, text); self.f = f -/
theorem init_fn {s : Stmt} {x G : Str} {qual f : Str} {fI C : Addr} {GC : Addr} {fd : FuncData} {p1 p2 p3 p4 p5 p6 p7 p8 p9 p10 : Pos} {m : Str} {j : Nat} (F : Fun W.K "__init__" qual s fI fd) (S : FnScope ["self", f] ["self", f] (defScope s)) (b : BaseEx W.K mg G GC) (px : PayEx W.K mg x C fI f)
    (hb : defBody s = [.Expr (.Call (.Attribute (.Name G p1) "__init__" p2) [.Name "self" p3, .Constant (.str m) j p4] [] p5) p6, .Assign [.Attribute (.Name "self" p7) f p8] (.Name f p9) p10])
    (hgl : (defScope s).names.lookup G = some .globalImplicit) (hv0 : Vis (defScope s) "self") (hv1 : Vis (defScope s) f) (hdb : (G == ("__debug__" : Str)) = false := by decide) (hf1 : (f == ("__debug__" : Str)) = false := by decide) (hf2 : (f == ("__classdict__" : Str)) = false := by decide)
    (hc : ∀ env : PySem.Env, ∃ pl : Sem Bool, eval (.Call (.Attribute (.Name G p1) "__init__" p2) [.Name "self" p3, .Constant (.str m) j p4] [] p5) env = (do
      let ov ← eval (.Name G p1) env
      standAt p2.atName
      let (g, one) ← holding [ov] (getMethod ov "__init__" pl)
      callWith p5 g one (backTo p5 (starEach [.Name "self" p3, .Constant (.str m) j p4] env)) (backToKw p5 (keywordEach [] env))) := by intro env; exact ⟨_, rfl⟩) :
    FnOk P w W.K mg base (L2.CX P w) 1 fI fd ["self", f] (spInit W.K C f) := by
  refine F.okX S (fun vs H Q E h => ?_) (fun cdv A outer sh H vs Q E hr h => ?_)
  · obtain ⟨a, v, rfl, _⟩ := h
    rfl
  · obtain ⟨a, v, rfl, ha, hq⟩ := h
    rw [hb]
    obtain ⟨pl, hpl⟩ := hc (cxOf (L2.CX P w) P w W.K mg base ["self", f] qual (defScope s) fI cdv A outer sh H E).env
    have i1 := pe_binit (X := cxOf (L2.CX P w) P w W.K mg base ["self", f] qual (defScope s) fI cdv A outer sh H E) (x := G) (G := GC) (pl := pl) (pos := p5) b hgl (pa_cons (pe_var (i := 0) (pos := p3) rfl hv0) (pa_cons (pe_str (x := m) (pos := p4)) pa_nil)) hpl hdb
    have i2 := ps_ost (X := cxOf (L2.CX P w) P w W.K mg base ["self", f] qual (defScope s) fI cdv A outer sh H E) (f := f) (p' := p8) (pos := p10) (pe_var (i := 0) (pos := p7) rfl hv0) (pe_var (i := 1) (x := f) (pos := p9) rfl hv1 hf1 hf2)
    refine ⟨_, pss_cons (ps_expr i1) (pss_one i2), ?_⟩
    refine ⟨_, rfl, ⟨a, C, [.str m], rfl, by simp, px.T, ha, ?_⟩⟩
    refine ⟨v, rfl, .ref a, rfl, a, C, rfl, px.T, px.no, .inl ⟨ha, fun dx n ne => ?_⟩⟩
    exact hq dx n ne
end
section
variable {W : Wd} {X : Cx} {E : XK}
/-- raise C(i) -/
def sRaiseP (c : Nat) (f : EV) : SV := fun env st => sOf (f env st) fun a => match a.1 with
  | .int i => .exc c (some (.int i)) a.2
  | _ => .bad
@[simp] theorem r_sRaiseP (c : Nat) (f : EV) (env : Env) (st : Store) : sRaiseP c f env st = sOf (f env st) fun a => match a.1 with
  | .int i => .exc c (some (.int i)) a.2
  | _ => .bad := (rfl)
theorem ds_raiseP {x f : Str} {c : Nat} {fI : Addr} {fd : FuncData} {e : Expr} {fe : EV} {p pos pos2 : Pos} (hK : X.K = W.K) (hc : X.calm = true) (tk : Takes X fun cls d _ H => E cls d H) (px : PayEx W.K X.mg x (W.cls c) fI f)
    (F1 : FnOk X.prog X.w W.K X.mg X.base (L2.CX X.prog X.w) 1 fI fd ["self", f] (spInit W.K (W.cls c) f)) (hb : Binds W.K fd ["self", f] []) (hpay : W.pay c = some f) (hr : Room 2 X.A) (he : DE W X E e fe) (hg : Gl X x) (hdb : (x == ("__debug__" : Str)) = false := by decide)
    (hst : starEach [e] X.env = (false, eval e X.env) :: starEach [] X.env := by rfl) (hpl : (backTo pos (starEach [] X.env)).any (·.1) = false := by rfl) :
    DS W X E (.Raise (some (.Call (.Name x p) [e] [] pos)) none pos2) (sRaiseP c fe) := by
  obtain ⟨te, pe, qe⟩ := he.ex
  refine .mk (ps_raise hc tk (pmk_oex (CX := L2.CX X.prog X.w) (k := 1) (by rw [hK]; exact px.T) (by rw [hK]; exact px.iC) (by rw [hK]; exact px.tI) (by rw [hK]; exact F1) hr (by rw [hK]; exact hb) .nil (passes_call tk fun _ _ _ _ z => z.elim) hg px.g (pa_cons pe pa_nil (hs := hst)) hdb hst hpl)) fun Rs F H rr sg env st D hH hE hP => ?_
  unfold sRaiseP sOf at hP
  refine qe Rs F H rr sg env st _ hH hE ?_
  cases ef : fe env st with
  | bad => rw [ef] at hP; exact hP.elim
  | exc c' p' st' => rw [ef] at hP; exact hP
  | ok b =>
    rw [ef] at hP
    obtain ⟨d, st1⟩ := b
    intro F1 H1 r1 v s1 x1 h1 k1
    cases k1 with
    | int i =>
      refine ⟨by simp, fun a ha => ⟨a, .int i, rfl, upd_same, fun dx hdx ne => ?_⟩⟩
      have hdn : H1 dx = none := by rw [upd_ne ne] at hdx; exact hdx
      refine ⟨rfl, dx, [(f, .int i)], upd_same, by rw [upd_ne ne, upd_same], hdn, ?_⟩
      have eH : upd (del (upd (upd (upd H1 a (exo a (W.cls c) none)) dx (exd dx [(f, V.int i)])) a (exo a (W.cls c) (some dx))) a) dx (.xd [(f, V.int i)]) = upd H1 dx (.xd [(f, V.int i)]) := by
        funext b
        by_cases h : b = dx
        · rw [h, upd_same, upd_same]
        · rw [upd_ne h, upd_ne h]
          by_cases h2 : b = a
          · rw [h2, del_same, ha]
          · rw [del_ne h2, upd_ne h2, upd_ne h, upd_ne h2]
      rw [eH]
      obtain ⟨s2, h2⟩ := h1.frozen (o := .xd [(f, V.int i)]) hdn
      exact hP _ _ r1 (some dx) (s1.trans s2) x1 h2 ⟨f, dx, i, hpay, rfl, upd_same, rfl⟩
    | _ => exact hP.elim
end
end Dl
/-! ## DlTold -/
/-! What is told of a lambda; an exception caught by name. -/
namespace Dl
open PySem L2
theorem Same.hideR {Rs H : Hp} (s : Same Rs H) (cs : List Addr) : Same (hideC cs Rs) (hideC cs H) := fun a o e => by
  have ha : a ∉ cs := fun m => by rw [hideC_in m] at e; cases e
  rw [hideC_out ha] at e ⊢
  exact s _ _ e
section
variable {W : Wd} {Rs F H F' H' : Hp} {r r' : List Addr} {st st' : Store} {cs : List Addr}
theorem Holds.hide (h : Holds W Rs F H r st) (k : Known cs Rs) : Holds W (hideC cs Rs) F (hideC cs H) r st := by
  have nR : ∀ {a : Addr}, a ∈ cs → Rs a ≠ none := fun {a} m z => by
    obtain ⟨o, e⟩ := k a m
    rw [z] at e; cases e
  have hide_none : ∀ {a : Addr}, Rs a = none → hideC cs Rs a = none := fun {a} e => by
    unfold hideC
    split
    · rfl
    · exact e
  refine ⟨fun a o e => ?_, Same.hideR h.sR cs, fun a e => hide_none (h.dj a e), h.len, h.nd, fun a m => ⟨(h.own a m).1, hide_none (h.own a m).2⟩, fun i a o e1 e2 => ?_, ⟨fun t ht => ?_, h.tb.nF, fun a ps z => ?_⟩⟩
  · rw [hideC_out fun m => nR m (h.dj a (by rw [e]; simp))]
    exact h.sF _ _ e
  · refine (h.ob i a o e1 e2).mono (Same.refl _) (Ext.refl _) ?_
    exact hideC_out fun m => nR m (h.own a (List.mem_of_getElem? e1)).2
  · obtain ⟨t1, t2, t3, t4⟩ := h.tb.at_ t ht
    refine ⟨tabs_keep t1 fun a o e z => ?_, t2, hide_none t3, t4⟩
    rw [hideC_out fun m => ?_]
    · exact e
    · obtain ⟨ob, q⟩ := k a m
      have q2 := h.sR _ _ q
      rw [e] at q2
      cases q2
      rcases z with ⟨ps, z⟩ | ⟨φ, z⟩ <;> cases z
  · unfold hideC at z
    split at z
    · cases z
    · exact h.tb.nR a ps z
theorem Holds.unhide (h : Holds W Rs F H r st) (k : Known cs Rs) (h' : Holds W (hideC cs Rs) F' H' r' st') (hn : ∀ a ∈ cs, H' a = none) : Holds W Rs F' (showC cs H H') r' st' := by
  have out : ∀ {a : Addr}, H' a ≠ none → a ∉ cs := fun {a} n m => n (hn a m)
  have inR : ∀ {a : Addr}, a ∈ cs → F' a = none := fun {a} m => h'.freeF (hn a m)
  refine ⟨fun a o e => ?_, fun a o e => ?_, fun a e => ?_, h'.len, h'.nd, fun a m => ?_, fun i a o e1 e2 => ?_, ⟨fun t ht => ?_, h'.tb.nF, fun a ps z => ?_⟩⟩
  · have q := h'.sF _ _ e
    rw [showC_out (out (by rw [q]; simp))]; exact q
  · by_cases m : a ∈ cs
    · rw [showC_in m]; exact h.sR _ _ e
    · rw [showC_out m]; exact h'.sR _ _ (by rw [hideC_out m]; exact e)
  · have m : a ∉ cs := fun m => e (inR m)
    have := h'.dj a e
    rw [hideC_out m] at this; exact this
  · have m2 : a ∉ cs := out (h'.there m)
    have := h'.own a m
    rw [hideC_out m2] at this; exact this
  · refine (h'.ob i a o e1 e2).mono (Same.refl _) (Ext.refl _) ?_
    exact showC_out (out (h'.there (List.mem_of_getElem? e1)))
  · obtain ⟨t1, t2, t3, t4⟩ := h'.tb.at_ t ht
    have m : t.1 ∉ cs := out (tabs_here t1)
    refine ⟨t1.ext fun a o e => ?_, t2, by rw [hideC_out m] at t3; exact t3, t4⟩
    rw [showC_out (out (by rw [e]; simp))]; exact e
  · by_cases m : a ∈ cs
    · obtain ⟨ob, q⟩ := k a m
      rw [z] at q
      cases q
    · exact h'.tb.nR a ps (by rw [hideC_out m]; exact z)
end
/-- a lambda that stands aside; what it keeps -/
structure ClosR (P : Program) (w : World) (W : Wd) (mg : Str → Option Value) (base : Heap) (k : Nat) (Rs F : Hp) (r : List Addr) (fb : EV) (caps : List D) (f : Addr) : Prop where
  ex : ∃ (ld : LamD) (N : List Str) (cl : List (Str × Addr)) (c' : Addr) (us : List Value) (vs : List V), BodyOk P w W mg base k ld N fb ∧ Free0 ld ∧ LamStat N ld.scope ∧ FnStd Rs ld cl c' f ∧
    (Rs c' = some (LamX.CodeO c' ld.q) ∨ F c' = some (LamX.CodeO c' ld.q)) ∧ CellsAt Rs N cl us ∧ Vals vs us ∧ Reps F r vs caps
theorem ClosR.mono {P : Program} {w : World} {W : Wd} {mg : Str → Option Value} {base : Heap} {k : Nat} {Rs F F' : Hp} {r r' : List Addr} {fb : EV} {caps : List D} {f : Addr} (c : ClosR P w W mg base k Rs F r fb caps f) (s : Same F F') (x : Ext r r') : ClosR P w W mg base k Rs F' r' fb caps f := by
  obtain ⟨ld, N, cl, c', us, vs, h1, h2, h3, h4, h5, h6, h7, h8⟩ := c.ex
  exact ⟨ld, N, cl, c', us, vs, h1, h2, h3, h4, h5.imp id (s _ _), h6, h7, h8.mono s x⟩
/-- the cells stay what they are -/
theorem CellsAt.same {Rs H : Hp} {N : List Str} {cl : List (Str × Addr)} {us : List Value} (c : CellsAt Rs N cl us) (s : Same Rs H) : CellsAt H N cl us :=
  ⟨fun i y e => let ⟨c2, u, o, h1, h2, h3, h4⟩ := c.at_ i y e; ⟨c2, u, o, h1, h2, s _ _ h3, h4⟩, c.all, c.mem, c.inj, c.len⟩
section
variable {P : Program} {w : World} {W : Wd} {mg : Str → Option Value} {base : Heap}
/-- the lambda's call by its meaning -/
theorem act_of {k i : Nat} {E : XK} {Rs F H : Hp} {r : List Addr} {st : Store} {fb : EV} {caps : List D} {f : Addr} {σ : St} {Q : VK} (c : ClosR P w W mg base k Rs F r fb caps f) (h : Holds W Rs F H r st) (hs : σ[i]? = some (some (.ref f)))
    (hP : Post W Rs F r (fb (caps.map some) st) Q E) : tAct P w W mg base k i E σ H Q := by
  obtain ⟨ld, N, cl, c', us, vs, h1, h2, h3, h4, h5, h6, h7, h8⟩ := c.ex
  have kn := known_of h6
  have hc' : H c' = some (LamX.CodeO c' ld.q) := h5.elim (h.sR _ _) (h.sF _ _)
  refine ⟨ld, N, fb, f, cl, c', us, vs, caps, hideC (cl.map (·.2)) Rs, F, r, st, h1, h2, h3, hs, ⟨h4.same h.sR, hc', h6.same h.sR⟩, h7, h.hide kn, h8, ?_⟩
  cases er : fb (caps.map some) st with
  | bad => rw [er] at hP; exact hP.elim
  | ok b =>
    rw [er] at hP
    exact fun F' H' r' v s x h' k' hn => hP F' _ r' v s x (h.unhide kn h' hn) k'
  | exc cc p st' =>
    rw [er] at hP
    exact fun F' H' r' od s x h' k' hn => hP F' _ r' od s x (h.unhide kn h' hn) k'
end
/-! ### an exception caught by name -/
/-- isinstance(e, ..): e in slot i, as the suite holds it -/
def eIsX (a : Nat) (o : Option (Nat × Str × Int)) (i : Nat) (b : Bool) : EV := fun env st => match env[i]? with
  | some (some (.exn a' o')) => if a' = a ∧ o' = o then .ok (.bl b, st) else .bad
  | _ => .bad
/-- e.f -/
def eXf (a : Nat) (o : Option (Nat × Str × Int)) (i : Nat) (f : Str) : EV := fun env st => match env[i]? with
  | some (some (.exn a' o')) => if a' = a ∧ o' = o then (match o with
    | some (_, g, k) => if g = f then .ok (.int k, st) else .bad
    | none => .bad) else .bad
  | _ => .bad
@[simp] theorem r_eIsX (a : Nat) (o : Option (Nat × Str × Int)) (i : Nat) (b : Bool) (env : Env) (st : Store) : eIsX a o i b env st = match env[i]? with
  | some (some (.exn a' o')) => if a' = a ∧ o' = o then .ok (.bl b, st) else .bad
  | _ => .bad := (rfl)
@[simp] theorem r_eXf (a : Nat) (o : Option (Nat × Str × Int)) (i : Nat) (f : Str) (env : Env) (st : Store) : eXf a o i f env st = match env[i]? with
  | some (some (.exn a' o')) => if a' = a ∧ o' = o then (match o with
    | some (_, g, k) => if g = f then .ok (.int k, st) else .bad
    | none => .bad) else .bad
  | _ => .bad := (rfl)
section
variable {W : Wd} {X : Cx} {E : XK} {a : Addr} {oe : Obj} {pn : List (Addr × Obj)} {c i : Nat} {o : Option (Nat × Str × Int)} {x y : Str} {p p1 p2 pos : Pos}
def rIsX (K : PySem.W.Frag) (D a : Addr) (d : Option Addr) : List V → Hp → VK → Prop := fun xs H Q => ∃ (c : V) (cv : Value) (b : Bool), xs = [.ref a, c] ∧ (∀ u, RelV c u → u = cv) ∧ PySem.W.kitOne K (.ref D) cv = some b ∧ (∀ dd, d = some dd → H dd ≠ none) ∧ Q (.bl b) H
theorem callr_isX {D : Addr} {d : Option Addr} (C : L2.ExcC X.K D) (hz : Zc (.ref D) d oe) (hf : ∃ vs, oe.data = .fields vs) : CallR (X.suite a ((a, oe) :: pn)) (.builtin "isinstance") (rIsX X.K D a d) := by
  intro pins s σ H xs us Q I r h
  obtain ⟨c, cv, b, rfl, hcv, e, hd, q⟩ := h
  refine call_isX C hz hf pins s σ H us c cv b Q I r hcv e (fun dd ed => ?_) q
  cases eh : H dd with
  | none => exact absurd eh (hd dd ed)
  | some u => exact objOk_get (I.hok dd u eh)
theorem de_isX {cv : Value} {v : V} {b : Bool} (hK : X.K = W.K) (C : L2.ExcC W.K (W.cls c)) (hz : Zc (.ref (W.cls c)) (o.map (·.1)) oe) (hf : ∃ vs, oe.data = .fields vs) (hN : X.N[i]? = some x) (hv : Vis X.env.scope x) (hgi : Gl X "isinstance") (hmi : X.mg "isinstance" = none)
    (hy : PE (X.suite a ((a, oe) :: pn)) (.Name y p2) (tC v)) (hcv : ∀ u, RelV v u → u = cv) (hk : PySem.W.kitOne W.K (.ref (W.cls c)) cv = some b) (hd : (x == ("__debug__" : Str)) = false := by decide) (hcd : (x == ("__classdict__" : Str)) = false := by decide) :
    DE W (X.suite a ((a, oe) :: pn)) E (.Call (.Name "isinstance" p) [.Name x p1, .Name y p2] [] pos) (eIsX a o i b) := by
  have pv := pe_var (X := X.suite a ((a, oe) :: pn)) (i := i) (x := x) (pos := p1) hN hv hd hcd
  refine .mk (pe_callB (callr_isX (d := o.map (·.1)) (by rw [hK]; exact C) hz hf) hgi hmi (by decide +kernel) (pa_cons pv (pa_cons hy pa_nil))) fun Rs F H r sg env st Q hH hE hP => ?_
  unfold eIsX at hP
  split at hP
  · rename_i a' o' e
    split at hP
    · rename_i ho
      obtain ⟨rfl, rfl⟩ := ho
      obtain ⟨w, h1, h2⟩ := hE.at_ i _ e
      cases h2 with
      | exn0 => exact ⟨_, h1, ⟨v, cv, b, rfl, hcv, by rw [hK]; exact hk, fun dd z => (by cases z), onE_here hH (.bl _) hP⟩⟩
      | exn1 q => exact ⟨_, h1, ⟨v, cv, b, rfl, hcv, by rw [hK]; exact hk, fun dd z => (by cases z; rw [hH.sF _ _ q]; simp), onE_here hH (.bl _) hP⟩⟩
    · exact hP.elim
  · exact hP.elim
theorem de_xf {f : Str} (hK : X.K = W.K) (C : L2.ExcC W.K (W.cls c)) (hno : PySem.W.findIn W.K (.ref (W.cls c)) f = some none) (hz : Zc (.ref (W.cls c)) (o.map (·.1)) oe) (hf : ∃ vs, oe.data = .fields vs) (hN : X.N[i]? = some x) (hv : Vis X.env.scope x)
    (hb : attributeBase (.Name x p1) f X.env (eval (.Name x p1) X.env) = eval (.Name x p1) X.env := by rfl) (hd : (x == ("__debug__" : Str)) = false := by decide) (hcd : (x == ("__classdict__" : Str)) = false := by decide) :
    DE W (X.suite a ((a, oe) :: pn)) E (.Attribute (.Name x p1) f pos) (eXf a o i f) := by
  have pv := pe_var (X := X.suite a ((a, oe) :: pn)) (i := i) (x := x) (pos := p1) hN hv hd hcd
  refine .mk (pe_xf (C := W.cls c) (by rw [hK]; exact ⟨C.hg, C.hk, C.hs, C.hd⟩) (by rw [hK]; exact hno) hz hf pv hb) fun Rs F H r sg env st Q hH hE hP => ?_
  unfold eXf at hP
  split at hP
  · rename_i a' o' e
    split at hP
    · rename_i ho
      obtain ⟨rfl, rfl⟩ := ho
      obtain ⟨w, h1, h2⟩ := hE.at_ i _ e
      split at hP
      · split at hP
        · rename_i dd g k hg
          subst hg
          cases h2 with
          | exn1 q => exact ⟨_, h1, rfl, rfl, _, _, .int k, rfl, hH.sF _ _ q, by simp, onE_here hH (.int _) hP⟩
        · exact hP.elim
      · exact hP.elim
    · exact hP.elim
  · exact hP.elim
end
/-! ### told -/
def toldR (cs : List Nat) (hm : Nat → Option D → Store → R (D × Store)) (res : R (D × Store)) : R (D × Store) := match res with
  | .ok a => .ok a
  | .exc c p st => if c ∈ cs then hm c p st else .bad
  | .bad => .bad
@[simp] theorem told_ok (cs : List Nat) (hm : Nat → Option D → Store → R (D × Store)) (a : D × Store) : toldR cs hm (.ok a) = .ok a := (rfl)
@[simp] theorem told_exc (cs : List Nat) (hm : Nat → Option D → Store → R (D × Store)) (c : Nat) (p : Option D) (st : Store) : toldR cs hm (.exc c p st) = if c ∈ cs then hm c p st else .bad := (rfl)
@[simp] theorem told_bad0 (cs : List Nat) (hm : Nat → Option D → Store → R (D × Store)) : toldR cs hm .bad = .bad := (rfl)
section
variable {P : Program} {w : World} {W : Wd} {mg : Str → Option Value} {base : Heap}
def spTold (P : Program) (w : World) (W : Wd) (mg : Str → Option Value) (base : Heap) (k : Nat) (cs : List Nat) (hm : Nat → Option D → Store → R (D × Store)) : Sp := fun vs H Q E => ∃ (Rs F : Hp) (r : List Addr) (st : Store) (fb : EV) (caps : List D) (f : Addr), vs = [.ref f] ∧ ClosR P w W mg base k Rs F r fb caps f ∧ Holds W Rs F H r st ∧
  Post W Rs F r (toldR cs hm (fb (caps.map some) st)) Q E
/-- how a payload stands in the suite -/
def PayRel (W : Wd) (c : Nat) : Option D → Option (Nat × Str × Int) → Prop
  | none, none => True
  | some (.int i), some (_, f, j) => i = j ∧ W.pay c = some f
  | _, _ => False
theorem told_fn {s : Stmt} {x wk gx en : Str} {f CG : Addr} {fd : FuncData} {N : List Str} {k i : Nat} {cs : List Nat} {b₀ : Stmt} {suite : List Stmt} {p1 p2 p3 p4 p5 np : Pos} {hm : Nat → Option D → Store → R (D × Store)} {hb : Addr → Nat → Option (Nat × Str × Int) → SV} {E0 : XK}
    (F : Fun W.K x x s f fd) (S : FnScope N [wk] (defScope s)) (hbd : defBody s = [.Try [.Return (some (.Call (.Name wk p1) [] [] p2)) p3] [.ExceptHandler (some (.Name gx np)) (some en) (b₀ :: suite) p4] [] [] p5])
    (hN0 : N[0]? = some wk) (hv0 : Vis (defScope s) wk) (hNi : N[i]? = some en) (hli : (defScope s).names.lookup en = some .local) (hgl : (defScope s).names.lookup gx = some .globalImplicit) (hgm : mg gx = some (.ref CG)) (hdg : (gx == ("__debug__" : Str)) = false)
    (hcs : ∀ c ∈ cs, PySem.W.exmOne W.K (.ref (W.cls c)) (.ref CG) = some true)
    (hsu : ∀ (cdv : Value) (A : Around) (outer : List PySem.Env) (sh : Shared) (H : Hp) (E : XK) (a : Addr) (oe : Obj) (pn : List (Addr × Obj)) (c : Nat) (o : Option (Nat × Str × Int)), c ∈ cs → Zc (.ref (W.cls c)) (o.map (·.1)) oe → (∃ vs, oe.data = .fields vs) → Room k (A.deeper (PyProof.Rows.envOfC x (defScope s) sh.heap.objs.size f cdv)) →
      DB W ((cxOf (L2.CX P w) P w W.K mg base N x (defScope s) f cdv A outer sh H E).suite a ((a, oe) :: pn)) E (b₀ :: suite) (hb a c o))
    (hco : ∀ (a : Addr) (c : Nat) (o : Option (Nat × Str × Int)) (p : Option D) (st : Store), c ∈ cs → PayRel W c p o → hm c p st = .bad ∨ ∃ d st', hm c p st = .ok (d, st') ∧ hb a c o ((List.replicate N.length none).set i (some (.exn a o))) st = .rt d st')
    (hd0 : (wk == ("__debug__" : Str)) = false := by decide) (hcd0 : (wk == ("__classdict__" : Str)) = false := by decide) :
    FnOk P w W.K mg base (L2.CX P w) (k + 2) f fd [wk] (spTold P w W mg base k cs hm) := by
  refine F.okX S (fun vs H Q E h => ?_) (fun cdv A outer sh H vs Q E hr h => ?_)
  · obtain ⟨_, _, _, _, _, _, f, rfl, _⟩ := h
    rfl
  · obtain ⟨Rs, F0, r, st, fb, caps, fw, rfl, cl, hH, hP⟩ := h
    rw [hbd]
    obtain ⟨X, hX⟩ : ∃ X, X = cxOf (L2.CX P w) P w W.K mg base N x (defScope s) f cdv A outer sh H E := ⟨_, rfl⟩
    have Xs : X.stack = X.env :: X.outer := by rw [hX]; rfl
    have Xf : X.env.frame = some X.env.locals := by rw [hX]; rfl
    rw [← hX]
    refine ⟨_, pss_one (ps_try_as (X := X) (i := i) (c := .ref CG) (Wout := fun _ _ _ _ => False)
      (tb := fun Wx D σ H => ∃ E1 : XK, (∀ cls d σ' H', σ'.length = N.length → E1 cls d H' → Wx cls d σ' H') ∧ tAct P w W mg base k 0 E1 σ H D.rt)
      (ts := fun a cls d D σ H => ∃ (c : Nat) (o : Option (Nat × Str × Int)), c ∈ cs ∧ cls = .ref (W.cls c) ∧ d = o.map (·.1) ∧ tDB W E (hb a c o) D σ H)
      Xs Xf (by rw [hX]; exact S.nd) (by rw [hX]; exact hNi) (by rw [hX]; exact hli) ⟨by rw [hX]; exact hgl, hdg, .inl (by rw [hX]; exact hgm)⟩ takesN (fun Wx pn xe tk _ => ?_) (fun a oe cls d pn hz hf => ?_)), ?_⟩
    · refine ⟨fun pins s' σ H' D I h' => ?_⟩
      obtain ⟨E1, hW, h3⟩ := h'
      have hx : Passes (L2.CX X.prog X.w) (X.tr pn xe) E1 := fun pins σ H s e s' I c => tk e s' (XE.of_call I (fun cls d H' h => hW cls d σ H' (by have := I.len; rw [hX] at this; exact this) h) c)
      have pa := pe_act (X := X.tr pn xe) (W := W) (k := k) (i := 0) (a := wk) (p1 := p1) (p2 := p2) (E := E1) (by rw [hX]; rfl) (by rw [hX]; exact hr) hx (by rw [hX]; exact hN0) (by rw [hX]; exact hv0) hd0 hcd0
      have hq := pss_one (ps_ret (pos := p3) pa)
      refine hq.run pins s' σ H' D I ?_
      rw [hX]
      exact h3
    · refine ⟨fun pins s' σ H' D I h' => ?_⟩
      obtain ⟨c, o, hc, rfl, rfl, h3⟩ := h'
      have := hsu cdv A outer sh H E a oe pn c o hc hz hf (hr.mono (by omega))
      rw [← hX] at this
      exact this.run pins s' σ H' D I h3
    · refine ⟨fun cls dd H' => ∃ c ∈ cs, cls = .ref (W.cls c) ∧ ∃ p Rs F' r' st', Holds W Rs F' H' r' st' ∧ PayOk W F' r' H' c dd p ∧ Post W Rs F' r' (hm c p st') Q E, fun cls d σ' H' hl he => ?_, ?_⟩
      · obtain ⟨c, hc, rfl, p, Rs1, F1, r1, st1, h1, hp, h2⟩ := he
        refine ⟨true, by rw [hX]; exact hcs c hc, fun _ a _ => ?_, fun z => by cases z⟩
        have go : ∀ (D' : Ends) (o : Option (Nat × Str × Int)), D'.rt = Q → PayRel W c p o → d = o.map (·.1) → Rep F1 r1 (.ref a) (.exn a o) → ∃ (c' : Nat) (o' : Option (Nat × Str × Int)), c' ∈ cs ∧ Value.ref (W.cls c) = .ref (W.cls c') ∧ d = o'.map (·.1) ∧ tDB W E (hb a c' o') D' (σ'.set i (some (.ref a))) H' := fun D' o eD hr2 ed rep => by
          rcases hco a c o p st1 hc hr2 with e0 | ⟨d2, st2, e1, e2⟩
          · rw [e0] at h2; exact h2.elim
          rw [e1] at h2
          refine ⟨c, o, hc, rfl, ed, Rs1, F1, r1, (List.replicate N.length none).set i (some (.exn a o)), st1, h1, ⟨by simp [hl], fun j dj ej => ?_⟩, ?_⟩
          · by_cases hj : j = i
            · subst hj
              have hlt : j < N.length := (List.getElem?_eq_some_iff.mp hNi).1
              rw [List.getElem?_set_self (by simp [hlt])] at ej
              cases ej
              exact ⟨_, List.getElem?_set_self (by rw [hl]; exact hlt), rep⟩
            · rw [List.getElem?_set_ne (Ne.symm hj), List.getElem?_replicate] at ej
              split at ej <;> cases ej
          · rw [e2]
            show onE W Rs1 F1 r1 D'.rt (d2, st2)
            rw [eD]; exact h2
        cases p with
        | none =>
          have : d = none := hp
          subst this
          exact go _ none rfl trivial rfl (.exn0 a)
        | some dp =>
          obtain ⟨ff, aa, ii, q1, rfl, q3, rfl⟩ := hp
          exact go _ (some (aa, ff, ii)) rfl ⟨rfl, q1⟩ rfl (.exn1 q3)
      · refine act_of cl hH rfl ?_
        · cases er : fb (caps.map some) st with
          | bad => rw [er] at hP; exact hP.elim
          | ok b => rw [er] at hP; exact hP
          | exc c p st' =>
            rw [er, told_exc] at hP
            split at hP
            · rename_i hc
              exact fun F' H' r' od s' x' h' k' => ⟨c, hc, rfl, p, Rs, F', r', st', h', k', Post.later s' x' hP⟩
            · exact hP.elim
end
end Dl
/-! ## DlAll -/
/-! Lambdas in a list, told one by one. -/
namespace Dl
open PySem L2
/-- all are told alike -/
def allR (ga : FV) (cs : List Nat) (hm : Nat → Option D → Store → R (D × Store)) (due : D) : List (EV × List D) → Store → R (D × Store)
  | [], st => .ok (.bl true, st)
  | w :: ws, st => (noX (toldR cs hm (w.1 (w.2.map some) st))).bind fun a => (noX (ga [a.1, due] a.2)).bind fun b => match b.1 with
    | .bl true => allR ga cs hm due ws b.2
    | _ => .bad
@[simp] theorem allR_nil (ga : FV) (cs : List Nat) (hm : Nat → Option D → Store → R (D × Store)) (due : D) (st : Store) : allR ga cs hm due [] st = .ok (.bl true, st) := (rfl)
@[simp] theorem allR_cons (ga : FV) (cs : List Nat) (hm : Nat → Option D → Store → R (D × Store)) (due : D) (w : EV × List D) (ws : List (EV × List D)) (st : Store) : allR ga cs hm due (w :: ws) st = (noX (toldR cs hm (w.1 (w.2.map some) st))).bind fun a => (noX (ga [a.1, due] a.2)).bind fun b => match b.1 with
    | .bl true => allR ga cs hm due ws b.2
    | _ => .bad := (rfl)
section
variable {P : Program} {w : World} {W : Wd} {mg : Str → Option Value} {base : Heap}
def spAll (P : Program) (w : World) (W : Wd) (mg : Str → Option Value) (base : Heap) (k : Nat) (ga : FV) (cs : List Nat) (hm : Nat → Option D → Store → R (D × Store)) : Sp := fun vs H Q E => ∃ (Rs F : Hp) (r : List Addr) (st : Store) (ws : List (EV × List D)) (fs : List Addr) (l : Addr) (vd : V) (due : D),
  vs = [.ref l, vd] ∧ Rs l = some (.lst (fs.map V.ref)) ∧ fs.length = ws.length ∧ fs.length ≤ 1000 ∧ (∀ (i : Nat) (x : EV × List D) (f : Addr), ws[i]? = some x → fs[i]? = some f → ClosR P w W mg base k Rs F r x.1 x.2 f) ∧ Holds W Rs F H r st ∧ Rep F r vd due ∧
  Post W Rs F r (allR ga cs hm due ws st) Q E
/-- what the comprehension asks -/
abbrev tAllLc (P : Program) (w : World) (W : Wd) (mg : Str → Option Value) (base : Heap) (k : Nat) (ga : FV) (cs : List Nat) (hm : Nat → Option D → Store → R (D × Store)) : TE :=
  tLc (iList W.K (tVar 0)) (gName 2) (tNot (tB (tCall (spD W 2 ga) [] E0 (tCons (tCall (spTold P w W mg base k cs hm) [] E0 (tCons (tVar 2) tNil)) (tCons (tVar 1) tNil))))) (tVar 2) [2]
theorem all_post {k : Nat} {ga : FV} {cs : List Nat} {hm : Nat → Option D → Store → R (D × Store)} {Rs F H : Hp} {r : List Addr} {st : Store} {ws : List (EV × List D)} {fs : List Addr} {l : Addr} {vd : V} {due : D} {σ : St} {Q : VK} {E : XK}
    (hl : Rs l = some (.lst (fs.map V.ref))) (hw : fs.length = ws.length) (hc : ∀ (i : Nat) (x : EV × List D) (f : Addr), ws[i]? = some x → fs[i]? = some f → ClosR P w W mg base k Rs F r x.1 x.2 f) (hH : Holds W Rs F H r st) (hd : Rep F r vd due)
    (s0 : σ[0]? = some (some (.ref l))) (s1 : σ[1]? = some (some vd)) (s2 : 2 < σ.length) (hP : Post W Rs F r (allR ga cs hm due ws st) Q E) {QQ : VK}
    (hQ : ∀ (D : Addr) (F' H' : Hp) (r' : List Addr) (st' : Store), Rs D = none → Same F F' → Ext r r' → Holds W (upd Rs D (.lst [])) F' H' r' st' → onE W Rs F' r' Q (.bl true, st') → QQ (.ref D) H') : tAllLc P w W mg base k ga cs hm σ H QQ := by
  have hlH : ∀ {D : Addr} {o : HO} {F' H' : Hp} {r' : List Addr} {st' : Store}, Rs D = none → Holds W (upd Rs D o) F' H' r' st' → H' l = some (.lst (fs.map V.ref)) := fun {D o F' H' r' st'} hD h => h.sR _ _ (by rw [upd_ne (fun z => by rw [z, hD] at hl; cases hl)]; exact hl)
  refine ⟨.ref l, s0, l, rfl, ⟨_, SqL.of (hH.sR _ _ hl)⟩, fun D hD => ?_⟩
  have hRD : Rs D = none := hH.freeR hD
  refine lc_list (xs := fs.map V.ref) (fun i H' => ∃ F' r' st', Same F F' ∧ Ext r r' ∧ Holds W (upd Rs D (.lst [])) F' H' r' st' ∧ Post W Rs F' r' (allR ga cs hm due (ws.drop i) st') Q E)
    ⟨F, r, st, Same.refl _, Ext.refl _, hH.guard hD, hP⟩ (fun i H' _ ⟨F', r', st', _, _, h, _⟩ => SqL.of (hlH hRD h)) (fun i x H' hx ⟨F', r', st', sF, xF, h, hp⟩ => ?_) (fun H' ⟨F', r', st', sF, xF, h, hp⟩ => ?_)
  · rw [List.getElem?_map] at hx
    obtain ⟨f, hf, rfl⟩ := Option.map_eq_some_iff.mp hx
    have hi : i < ws.length := by rw [← hw]; exact (List.getElem?_eq_some_iff.mp hf).1
    have cl := (hc i ws[i] f (by simp [hi]) hf).mono sF xF
    rw [List.drop_eq_getElem_cons hi, allR_cons] at hp
    have lw : (wipe σ [2]).length = σ.length := by simp [wipe]
    have z0 : ((wipe σ [2]).set 2 (some (.ref f)))[0]? = some (some (.ref l)) := by
      rw [List.getElem?_set_ne (by decide)]
      simp only [wipe]
      rw [List.getElem?_set_ne (by decide)]; exact s0
    have z1 : ((wipe σ [2]).set 2 (some (.ref f)))[1]? = some (some vd) := by
      rw [List.getElem?_set_ne (by decide)]
      simp only [wipe]
      rw [List.getElem?_set_ne (by decide)]; exact s1
    have z2 : ((wipe σ [2]).set 2 (some (.ref f)))[2]? = some (some (.ref f)) := List.getElem?_set_self (by rw [lw]; exact s2)
    refine ⟨by rw [wipe_set (by rfl), wipe_wipe], ?_⟩
    -- what the lambda tells
    have clG : ClosR P w W mg base k (upd Rs D (.lst [])) F' r' ws[i].1 ws[i].2 f := by
      obtain ⟨ld, N, clo, c', us, vs, h1, h2, h3, h4, h5, h6, h7, h8⟩ := cl.ex
      have out : ∀ {b : Addr} {o : HO}, Rs b = some o → upd Rs D (.lst []) b = some o := fun {b o} e => by rw [upd_ne (fun z => by rw [z, hRD] at e; cases e)]; exact e
      exact ⟨ld, N, clo, c', us, vs, h1, h2, h3, h4.same fun _ _ e => out e, h5.imp out id, h6.same fun _ _ e => out e, h7, h8⟩
    cases er : toldR cs hm (ws[i].1 (ws[i].2.map some) st') with
    | bad => rw [er] at hp; exact hp.elim
    | exc c p s' => rw [er] at hp; exact hp.elim
    | ok a =>
      rw [er] at hp
      refine ⟨_, z2, ⟨upd Rs D (.lst []), F', r', st', ws[i].1, ws[i].2, f, rfl, clG, h, ?_⟩⟩
      rw [er]
      intro F1 H1 r1 v1 e1 x1 h1 k1
      refine ⟨vd, z1, ?_⟩
      cases ea : ga [a.1, due] a.2 with
      | bad =>
        simp only [noX_ok, R.bind_ok] at hp
        rw [ea] at hp; exact hp.elim
      | exc c p s' =>
        simp only [noX_ok, R.bind_ok] at hp
        rw [ea] at hp; exact hp.elim
      | ok b =>
        simp only [noX_ok, R.bind_ok] at hp
        rw [ea] at hp
        simp only [noX_ok, R.bind_ok] at hp
        refine ⟨upd Rs D (.lst []), F1, r1, a.2, [a.1, due], h1, .cons k1 (.cons ((hd.mono sF xF).mono e1 x1) .nil), rfl, ?_⟩
        rw [ea]
        intro F2 H2 r2 v2 e2 x2 h2 k2
        obtain ⟨bd, bs⟩ := b
        cases bd with
        | bl bb =>
          cases bb with
          | true =>
            cases k2
            refine ⟨true, rfl, ?_⟩
            exact ⟨F2, r2, bs, fun q z e => e2 _ _ (e1 _ _ (sF _ _ e)), (xF.trans x1).trans x2, h2, Post.later (fun q z e => e2 _ _ (e1 _ _ e)) (x1.trans x2) hp⟩
          | false => exact hp.elim
        | _ => exact hp.elim
  · have e : ws.drop (fs.map V.ref).length = [] := by rw [List.drop_eq_nil_iff, List.length_map, hw]; exact Nat.le_refl _
    rw [e] at hp
    exact hQ D F' H' r' st' hRD sF xF h hp
theorem all_fn {s : Stmt} {x x0 x1 x2 : Str} {f : Addr} {fd : FuncData} {n k : Nat} {ga : FV} {cs : List Nat} {hm : Nat → Option D → Store → R (D × Store)} {lcx : Expr} {lp2 cp rp : Pos} (F : Fun W.K x x s f fd) (S : FnScope [x0, x1, x2] [x0, x1] (defScope s))
    (hbd : defBody s = [.Return (some (.Compare lcx [.Eq] [.List [] lp2] cp)) rp])
    (hlc : ∀ (cdv : Value) (A : Around) (outer : List PySem.Env) (sh : Shared) (H : Hp) (E : XK), Room n (A.deeper (PyProof.Rows.envOfC x (defScope s) sh.heap.objs.size f cdv)) →
      PE (cxOf (L2.CX P w) P w W.K mg base [x0, x1, x2] x (defScope s) f cdv A outer sh H E) lcx (tAllLc P w W mg base k ga cs hm)) :
    FnOk P w W.K mg base (L2.CX P w) (n + 1) f fd [x0, x1] (spAll P w W mg base k ga cs hm) := by
  refine F.okX S (fun vs H Q E h => ?_) (fun cdv A outer sh H vs Q E hr h => ?_)
  · obtain ⟨_, _, _, _, _, _, _, _, _, rfl, _⟩ := h
    rfl
  · obtain ⟨Rs, F0, r, st, ws, fs, l, vd, due, rfl, hl, hw, _, hc, hH, hd, hP⟩ := h
    rw [hbd]
    obtain ⟨rr, hop, hq⟩ := dop_eq (W := W) (X := cxOf (L2.CX P w) P w W.K mg base [x0, x1, x2] x (defScope s) f cdv A outer sh H E) rfl hr.units
    refine ⟨_, pss_one (ps_ret (pe_cmpR hop (hlc cdv A outer sh H E hr) (pe_lst (pos := lp2) pa_nil) (nomark _))), ?_⟩
    show tAllLc P w W mg base k ga cs hm (L2.start [x0, x1, x2] [.ref l, vd]) H fun x H1 => tLst tNil (L2.start [x0, x1, x2] [.ref l, vd]) H1 fun y H2 => rr x y H2 Q
    refine all_post (E := E) (σ := L2.start [x0, x1, x2] [.ref l, vd]) hl hw hc hH hd rfl rfl (show 2 < 3 by decide) hP fun D F' H' r' st' hD sF xF h' hp => ?_
    refine ⟨by simp, fun p hp0 => ?_⟩
    obtain ⟨s1, h1⟩ := h'.thaw hD
    obtain ⟨s2, h2⟩ := h1.frozen (o := .lst []) hp0
    refine hq Rs _ _ r' st' (.ref D) (.ref p) (.lst []) (.lst []) Q E h2 (.lst (s2 _ _ upd_same) .nil) (.lst upd_same .nil) ?_
    have e : eqG false st' (.lst []) (.lst []) = .ok (.bl true, st') := by rfl
    rw [e]
    exact Post.later (res := .ok (Dl.D.bl true, st')) (fun q z e => s2 _ _ (s1 _ _ e)) (Ext.refl _) hp
end
end Dl
/-! ## DlMake -/
/-! A lambda is made. -/
namespace Dl
open PySem PySem.Spec L2
section
variable {W : Wd} {Rs F H : Hp} {r : List Addr} {st : Store}
/-- a thing that is there and nobody's is put aside -/
theorem Holds.claim (h : Holds W Rs F H r st) {a : Addr} {o : HO} (e : H a = some o) (hF : F a = none) (hR : Rs a = none) (hr : a ∉ r) (hn : ∀ ps, o ≠ .tbl ps) : Holds W (upd Rs a o) F H r st := by
  refine ⟨h.sF, fun c u q => ?_, fun c q => ?_, h.len, h.nd, fun c m => ⟨(h.own c m).1, ?_⟩, h.ob, ⟨fun t ht => ?_, h.tb.nF, fun b ps => ?_⟩⟩
  · by_cases hc : c = a
    · subst hc; rw [upd_same] at q; cases q; exact e
    · rw [upd_ne hc] at q; exact h.sR _ _ q
  · rw [upd_ne (fun (z : c = a) => q (by rw [z]; exact hF))]; exact h.dj c q
  · rw [upd_ne (fun (z : c = a) => hr (by rw [← z]; exact m))]; exact (h.own c m).2
  · obtain ⟨t1, t2, t3, t4⟩ := h.tb.at_ t ht
    refine ⟨t1, t2, ?_, t4⟩
    rw [upd_ne fun z => ?_]
    · exact t3
    · obtain ⟨ps, h1, _⟩ := t1
      rw [z, e] at h1
      exact hn ps (Option.some.inj h1)
  · by_cases hb : b = a
    · rw [hb, upd_same]; exact fun z => hn ps (Option.some.inj z)
    · rw [upd_ne hb]; exact h.tb.nR b ps
/-- a table grows by a new code object -/
theorem Holds.grown (h : Holds W Rs F H r st) {P c : Addr} {q : Str} {ps : Array Value} {pos : Pos} (hP : H P = some (.tbl ps)) (ht : TriplesOk ps.toList) (hm : (P, q) ∈ W.tabs) (hu : ∀ p ∈ W.tabs, p.1 = P → p.2 = q) (hc : H c = none) :
    Holds W (upd Rs c (LamX.CodeO c q)) F (upd (upd H P (.tbl (ps ++ #[rawInt pos.line, rawInt pos.col, .ref c]))) c (LamX.CodeO c q)) r st := by
  obtain ⟨t1, t2, t3, t4⟩ := h.tb.at_ _ hm
  have nPc : P ≠ c := fun z => by rw [z, hc] at hP; cases hP
  have out : ∀ {b : Addr} {o : HO}, H b = some o → b ≠ P → upd (upd H P (.tbl (ps ++ #[rawInt pos.line, rawInt pos.col, .ref c]))) c (LamX.CodeO c q) b = some o := fun {b o} e n => by
    rw [upd_ne (fun z => by rw [z, hc] at e; cases e), upd_ne n]; exact e
  have cn : ∀ ps', LamX.CodeO c q ≠ .tbl ps' := fun ps' z => LamX.codeO_ne ps' z
  refine ⟨fun b o e => out (h.sF _ _ e) fun z => ?_, fun b o e => ?_, fun b e => ?_, h.len, h.nd, fun b m => ⟨(h.own b m).1, ?_⟩, fun i b o e1 e2 => ?_, ⟨fun t htt => ?_, h.tb.nF, fun b ps' => ?_⟩⟩
  · rw [z, t2] at e; cases e
  · by_cases hb : b = c
    · subst hb; rw [upd_same] at e ⊢; exact e
    · rw [upd_ne hb] at e
      exact out (h.sR _ _ e) fun z => by rw [z, t3] at e; cases e
  · rw [upd_ne (fun (z : b = c) => e (by rw [z]; exact h.freeF hc))]; exact h.dj b e
  · rw [upd_ne (fun (z : b = c) => h.notin hc (by rw [← z]; exact m))]; exact (h.own b m).2
  · have mb := List.mem_of_getElem? e1
    refine (h.ob i b o e1 e2).mono (Same.refl _) (Ext.refl _) ?_
    rw [upd_ne (fun (z : b = c) => h.notin hc (by rw [← z]; exact mb)), upd_ne (fun (z : b = P) => t4 (by rw [← z]; exact mb))]
  · obtain ⟨s1, s2, s3, s4⟩ := h.tb.at_ t htt
    have hn : t.1 ≠ c := fun z => tabs_here s1 (by rw [z]; exact hc)
    refine ⟨?_, s2, by rw [upd_ne hn]; exact s3, s4⟩
    by_cases hp : t.1 = P
    · rw [hu t htt hp, hp]
      obtain ⟨ps0, a1, a2, a3⟩ := t1
      rw [hP] at a1
      cases a1
      have eL : (ps ++ #[rawInt pos.line, rawInt pos.col, .ref c]).toList = ps.toList ++ [rawInt pos.line, rawInt pos.col, .ref c] := by simp
      refine ⟨_, by rw [upd_ne nPc, upd_same], by rw [eL]; exact PySem.TriplesOk_snoc _ _ _ _ ht, fun p' cv hcv => ?_⟩
      rw [eL] at hcv
      rcases LamX.among_app _ ht hcv with z | z
      · obtain ⟨c0, b1, b2⟩ := a3 p' cv z
        exact ⟨c0, b1, out b2 fun z => by rw [z, hP] at b2; cases b2⟩
      · exact ⟨c, z, upd_same⟩
    · obtain ⟨ps0, a1, a2, a3⟩ := s1
      refine ⟨ps0, out a1 hp, a2, fun p' cv hcv => ?_⟩
      obtain ⟨c0, b1, b2⟩ := a3 p' cv hcv
      exact ⟨c0, b1, out b2 fun z => by rw [z, hP] at b2; cases b2⟩
  · by_cases hb : b = c
    · rw [hb, upd_same]; exact fun z => cn ps' (Option.some.inj z)
    · rw [upd_ne hb]; exact h.tb.nR b ps'
end
/-- a lambda of X's own, made: what stands aside of it -/
def MadeAt (Rs F : Hp) (ld : LamD) (cl : List (Str × Addr)) (f : Addr) : Prop := ∃ (c' : Addr), FnStd Rs ld cl c' f ∧ (Rs c' = some (LamX.CodeO c' ld.q) ∨ F c' = some (LamX.CodeO c' ld.q))
theorem MadeAt.mono {Rs Rs' F F' : Hp} {ld : LamD} {cl : List (Str × Addr)} {f : Addr} (m : MadeAt Rs F ld cl f) (s : Same Rs Rs') (s' : Same F F') : MadeAt Rs' F' ld cl f := by
  obtain ⟨c', h1, h2⟩ := m
  exact ⟨c', h1.same s, h2.imp (s _ _) (s' _ _)⟩
/-- what the maker's code object must be -/
structure Maker (W : Wd) (X : Cx) (q : Str) : Prop where
  ex : ∃ c P, LamX.TabB X.base X.mg c P ∧ X.env.code = .ref c ∧ (P, q) ∈ W.tabs ∧ ∀ p ∈ W.tabs, p.1 = P → p.2 = q
section
variable {W : Wd} {X : Cx}
def tMade (W : Wd) (X : Cx) (ld : LamD) : TE := fun _ H Q => ∃ (Rs F : Hp) (r : List Addr) (st : Store), Holds W Rs F H r st ∧ ∀ Rs' H' f, Same Rs Rs' → Holds W Rs' F H' r st → MadeAt Rs' F ld (cloFrom X.env.cells ld.scope.names []) f → Q (.ref f) H'
theorem made_tail {ld : LamD} {pos : Pos} (mk : Maker W X ld.q) (hq : X.env.qual ++ "<lambda>" = ld.q) (hfree : ∀ y ∈ ld.scope.names, y.2 = .free → ∃ c, X.env.cells.lookup y.1 = some c) {pins : List (Addr × Obj)} {s : Shared} {σ : St} {H : Hp} {Q : VK} {dV : Value} {dv : List Value} {Rs F : Hp} {r : List Addr} {st : Store}
    (I : Inv X pins σ H s) (hH : Holds W Rs F H r st) (hdl : dv.length = ld.params.defaults.length) (hdv : DvH Rs dV dv) (hQ : ∀ Rs' H' f, Same Rs Rs' → Holds W Rs' F H' r st → MadeAt Rs' F ld (cloFrom X.env.cells ld.scope.names []) f → Q (.ref f) H') :
    wpAny (model X.prog X.w) X.A (makeTail "<lambda>" (X.env.qual ++ "<lambda>") ld.params (.expr ld.body) ld.scope X.env dV .none none pos pos.line) (EP X pins σ Q) X.xe s := by
  obtain ⟨c, P, TB, hcode, hm, hu⟩ := mk.ex
  obtain ⟨⟨ps, hP, ht, ha⟩, tF, tR, tr⟩ := hH.tb.at_ _ hm
  have bP : s.heap.BuiltinsAt X.mg P := TB.bm.keeps I.bk
  have hP' : s.heap.get? P = some { cls := .none, data := .fields ps } := I.hok P _ hP
  cases hc : codeAmong pos ps.toList with
  | none =>
    refine PySem.W.kdv_makeTail (mg := X.mg) (c := c) (P := P) (ps := ps) (closure_ok hfree) I.ok.glob (I.mod.glob.keeps I.bk) hcode (TB.code.keeps I.bk) hP' ht hc TB.gP bP fun c1 ctv doc h1 tk hx hge hlt hrec htb => ?_
    obtain ⟨c2, oc, xs, t, e2, hoc, hd, hv⟩ := hrec
    cases e2
    have nC : H c1 = none := I.hok.fresh hge
    rw [hq] at hv
    have I1 := LamX.inv_table (t' := tk) (q := ld.q) (more := #[rawInt pos.line, rawInt pos.col, .ref c1]) (h' := h1) I hP hx htb hge ⟨oc, xs, t, hoc, hd, hv⟩
    have g1 := hH.grown (pos := pos) hP ht hm hu nC
    have hfr := I1.hok.fresh (Nat.le_refl h1.objs.size)
    have I2 := I1.laid (t' := tk) (a := h1.objs.size) (o := .frz (PySem.W.kdv_obj "<lambda>" (X.env.qual ++ "<lambda>") ld.params (.expr ld.body) ld.scope (cloFrom X.env.cells ld.scope.names []) dV doc ((X.mg "__name__").getD .none) c1 ctv) anyO)
      (h' := h1.push (PySem.W.kdv_obj "<lambda>" (X.env.qual ++ "<lambda>") ld.params (.expr ld.body) ld.scope (cloFrom X.env.cells ld.scope.names []) dV doc ((X.mg "__name__").getD .none) c1 ctv)) (fun b u e => Heap.get?_push_of_some _ e) (Nat.le_refl _) (anyO_ok (Heap.get?_push_size _ rfl))
    refine ⟨.ref h1.objs.size, _, I2, rfl, ?_⟩
    have g2 := g1.guard (o := .frz (PySem.W.kdv_obj "<lambda>" (X.env.qual ++ "<lambda>") ld.params (.expr ld.body) ld.scope (cloFrom X.env.cells ld.scope.names []) dV doc ((X.mg "__name__").getD .none) c1 ctv) anyO) hfr
    have sm : ∀ b o, Rs b = some o → upd (upd Rs c1 (LamX.CodeO c1 ld.q)) h1.objs.size (.frz (PySem.W.kdv_obj "<lambda>" (X.env.qual ++ "<lambda>") ld.params (.expr ld.body) ld.scope (cloFrom X.env.cells ld.scope.names []) dV doc ((X.mg "__name__").getD .none) c1 ctv) anyO) b = some o := fun b o e => by
      have n1 : b ≠ c1 := fun z => by rw [z, hH.freeR nC] at e; cases e
      have n2 : b ≠ h1.objs.size := fun z => by
        have := g1.freeR hfr
        rw [← z, upd_ne n1, e] at this; cases this
      rw [upd_ne n2, upd_ne n1]; exact e
    refine hQ _ _ _ sm g2 ⟨c1, ⟨_, ctv, doc, dV, dv, hdl, hdv.same sm, by rw [upd_same, hq]⟩, .inl ?_⟩
    have n2 : c1 ≠ h1.objs.size := Nat.ne_of_lt hlt
    rw [upd_ne n2, upd_same]
  | some cv =>
    obtain ⟨c1, e, hco⟩ := ha pos cv hc
    subst e
    refine PySem.W.kdv_makeTailHit (mg := X.mg) (c := c) (P := P) (ps := ps) (closure_ok hfree) I.ok.glob (I.mod.glob.keeps I.bk) hcode (TB.code.keeps I.bk) hP' ht hc bP fun ctv doc h1 tk hx hsz => ?_
    have I1 : Inv X pins σ H { s with heap := h1, toks := tk } := I.kept fun b o e => hx b o e
    have hfr := I1.hok.fresh (Nat.le_refl h1.objs.size)
    have I2 := I1.laid (t' := tk) (a := h1.objs.size) (o := .frz (PySem.W.kdv_obj "<lambda>" (X.env.qual ++ "<lambda>") ld.params (.expr ld.body) ld.scope (cloFrom X.env.cells ld.scope.names []) dV doc ((X.mg "__name__").getD .none) c1 ctv) anyO)
      (h' := h1.push (PySem.W.kdv_obj "<lambda>" (X.env.qual ++ "<lambda>") ld.params (.expr ld.body) ld.scope (cloFrom X.env.cells ld.scope.names []) dV doc ((X.mg "__name__").getD .none) c1 ctv)) (fun b u e => Heap.get?_push_of_some _ e) (Nat.le_refl _) (anyO_ok (Heap.get?_push_size _ rfl))
    refine ⟨.ref h1.objs.size, _, I2, rfl, ?_⟩
    have code : ∃ Rs1, Same Rs Rs1 ∧ Holds W Rs1 F H r st ∧ (Rs1 c1 = some (LamX.CodeO c1 ld.q) ∨ F c1 = some (LamX.CodeO c1 ld.q)) := by
      cases eF : F c1 with
      | some o =>
        have := hH.sF _ _ eF
        rw [hco] at this
        cases this
        exact ⟨Rs, Same.refl _, hH, .inr rfl⟩
      | none =>
        cases eR : Rs c1 with
        | some o =>
          have := hH.sR _ _ eR
          rw [hco] at this
          cases this
          exact ⟨Rs, Same.refl _, hH, .inl eR⟩
        | none =>
          refine ⟨upd Rs c1 (LamX.CodeO c1 ld.q), fun b o e => by rw [upd_ne (fun z => by rw [z, eR] at e; cases e)]; exact e, hH.claim hco eF eR (fun m => ?_) (fun ps' z => LamX.codeO_ne ps' z), .inl upd_same⟩
          obtain ⟨u, hu2, _, k2⟩ := hH.kindOf m
          rw [hco] at hu2
          cases hu2
          exact k2 _ rfl
    obtain ⟨Rs1, sR, hH1, hcode1⟩ := code
    have g2 := hH1.guard (o := .frz (PySem.W.kdv_obj "<lambda>" (X.env.qual ++ "<lambda>") ld.params (.expr ld.body) ld.scope (cloFrom X.env.cells ld.scope.names []) dV doc ((X.mg "__name__").getD .none) c1 ctv) anyO) hfr
    have up : Same Rs1 (upd Rs1 h1.objs.size (.frz (PySem.W.kdv_obj "<lambda>" (X.env.qual ++ "<lambda>") ld.params (.expr ld.body) ld.scope (cloFrom X.env.cells ld.scope.names []) dV doc ((X.mg "__name__").getD .none) c1 ctv) anyO)) := fun b o e => by
      rw [upd_ne (fun z => by rw [z, hH1.freeR hfr] at e; cases e)]; exact e
    have sm : Same Rs (upd Rs1 h1.objs.size (.frz (PySem.W.kdv_obj "<lambda>" (X.env.qual ++ "<lambda>") ld.params (.expr ld.body) ld.scope (cloFrom X.env.cells ld.scope.names []) dV doc ((X.mg "__name__").getD .none) c1 ctv) anyO)) := fun b o e => up _ _ (sR _ _ e)
    exact hQ _ _ _ sm g2 ⟨c1, ⟨_, ctv, doc, dV, dv, hdl, hdv.same sm, by rw [upd_same, hq]⟩, hcode1.imp (up _ _) id⟩
/-- the defaults: none, or one whole number -/
def DfOk (X : Cx) (ld : LamD) : Prop := (ld.params.defaults = [] ∧ defaultsOf ld.params X.env = ([], [])) ∨ ∃ i j p, ld.params.defaults = [.Constant (.int i) j p] ∧ ld.params.kw_defaults = []
theorem pe_made {ld : LamD} {pos : Pos} (mk : Maker W X ld.q) (hq : X.env.qual ++ "<lambda>" = ld.q) (hfree : ∀ y ∈ ld.scope.names, y.2 = .free → ∃ c, X.env.cells.lookup y.1 = some c) (hdef : DfOk X ld) : PE X (.Lambda ld.params ld.body ld.scope pos) (tMade W X ld) := by
  refine ⟨fun pins s σ H Q I hh => ?_⟩
  obtain ⟨Rs, F, r, st, hH, hQ⟩ := hh
  rcases hdef with ⟨h0, hdef⟩ | ⟨i, j, p, hd, hk⟩
  · refine PySem.W.kla_eval hdef ?_
    rw [makeFunction_eq]
    simp only [List.zip_nil_right, List.filterMap_nil, List.isEmpty_nil, if_true, pure_bind]
    exact made_tail mk hq hfree I hH (by rw [h0]; rfl) (.inl ⟨rfl, rfl⟩) hQ
  · refine PySem.W.kdv_lam (by rw [hd]; rfl) hk ?_
    rw [hd]
    refine PySem.W.kdv_all1 (thn ((pe_int (X := X) (i := i) (j := j) (pos := p)).run pins s σ H (fun v H1 => H1 = H) I rfl) fun v s1 ⟨x, H1, I1, r1, e1⟩ => PySem.W.kdv_all0 ?_)
    subst e1
    rw [makeFunction_eq]
    simp only [List.zip_nil_right, List.filterMap_nil, List.isEmpty_nil, if_true, pure_bind, List.isEmpty_cons, Bool.false_eq_true, if_false]
    refine wpAny_bind (wpAny_newTextTuple ?_)
    have hfr := I1.hok.fresh (Nat.le_refl s1.heap.objs.size)
    have I2 := I1.laid (t' := s1.toks) (a := s1.heap.objs.size) (o := .frz (PySem.W.kdv_tup [v]) anyO) (h' := s1.heap.push (PySem.W.kdv_tup [v])) (fun b u e => Heap.get?_push_of_some _ e) (Nat.le_refl _) (anyO_ok (Heap.get?_push_size _ rfl))
    have g2 := hH.guard (o := .frz (PySem.W.kdv_tup [v]) anyO) hfr
    have up : Same Rs (upd Rs s1.heap.objs.size (.frz (PySem.W.kdv_tup [v]) anyO)) := fun b o e => by
      rw [upd_ne (fun z => by rw [z, hH.freeR hfr] at e; cases e)]; exact e
    exact made_tail mk hq hfree I2 g2 (by rw [hd]; rfl) (.inr ⟨by simp, _, rfl, upd_same⟩) fun Rs' H' f s' h' m => hQ Rs' H' f (fun b o e => s' _ _ (up _ _ e)) h' m
end
end Dl
/-! ## DlLams -/
/-! A def is called with lambdas of one's own. -/
namespace Dl
open PySem PySem.Spec L2
/-- the own cells -/
def ownC (X : Cx) : List Addr := X.env.cells.filterMap fun p => X.env.cells.lookup p.1
theorem ownC_in {X : Cx} {y : Str} {c : Addr} (h : X.env.cells.lookup y = some c) : c ∈ ownC X := List.mem_filterMap.mpr ⟨(y, c), PySem.mem_of_lookup h, h⟩
theorem ownC_of {X : Cx} {c : Addr} (h : c ∈ ownC X) : ∃ y, X.env.cells.lookup y = some c := by
  obtain ⟨p, _, h⟩ := List.mem_filterMap.mp h
  exact ⟨p.1, h⟩
/-- the heap, the own cells known as they are at h -/
def froC (cs : List Addr) (h : Heap) (H : Hp) : Hp := fun a => if a ∈ cs then (h.get? a).map (fun o => .frz o anyO) else H a
theorem froC_in {cs : List Addr} {h : Heap} {H : Hp} {a : Addr} {o : Obj} (m : a ∈ cs) (e : h.get? a = some o) : froC cs h H a = some (.frz o anyO) := by
  unfold froC
  rw [if_pos m, e]; rfl
theorem froC_out {cs : List Addr} {h : Heap} {H : Hp} {a : Addr} (m : a ∉ cs) : froC cs h H a = H a := if_neg m
section
variable {W : Wd} {Rs Rs' F H : Hp} {r : List Addr} {st : Store} {cs : List Addr}
theorem Holds.lessR (h : Holds W Rs' F H r st) (s : Same Rs Rs') : Holds W Rs F H r st :=
  ⟨h.sF, fun a o e => h.sR _ _ (s _ _ e), fun a e => Same.none_of s (h.dj a e), h.len, h.nd, fun a m => ⟨(h.own a m).1, Same.none_of s (h.own a m).2⟩, h.ob,
    ⟨fun t ht => let ⟨t1, t2, t3, t4⟩ := h.tb.at_ t ht; ⟨t1, t2, Same.none_of s t3, t4⟩, h.tb.nF, fun a ps z => h.tb.nR a ps (s _ _ z)⟩⟩
theorem Holds.froze (h : Holds W Rs F H r st) {hp : Heap} (hn : ∀ a ∈ cs, H a = none) (hs : ∀ a ∈ cs, ∃ o, hp.get? a = some o) : Holds W (froC cs hp Rs) F (froC cs hp H) r st := by
  have out : ∀ {a : Addr} {o : HO}, H a = some o → a ∉ cs := fun {a o} e m => by rw [hn a m] at e; cases e
  refine ⟨fun a o e => ?_, fun a o e => ?_, fun a e => ?_, h.len, h.nd, fun a m => ⟨(h.own a m).1, ?_⟩, fun i a o e1 e2 => ?_, ⟨fun t ht => ?_, h.tb.nF, fun a ps z => ?_⟩⟩
  · have q := h.sF _ _ e
    rw [froC_out (out q)]; exact q
  · by_cases m : a ∈ cs
    · obtain ⟨ob, q⟩ := hs a m
      rw [froC_in m q] at e ⊢; exact e
    · rw [froC_out m] at e ⊢; exact h.sR _ _ e
  · have m : a ∉ cs := fun m => e (h.freeF (hn a m))
    rw [froC_out m]; exact h.dj a e
  · have m2 : a ∉ cs := fun m2 => h.there m (hn a m2)
    rw [froC_out m2]; exact (h.own a m).2
  · refine (h.ob i a o e1 e2).mono (Same.refl _) (Ext.refl _) ?_
    exact froC_out fun m2 => h.there (List.mem_of_getElem? e1) (hn a m2)
  · obtain ⟨t1, t2, t3, t4⟩ := h.tb.at_ t ht
    have m : t.1 ∉ cs := fun m => tabs_here t1 (hn _ m)
    refine ⟨t1.ext fun a o e => ?_, t2, by rw [froC_out m]; exact t3, t4⟩
    rw [froC_out (out e)]; exact e
  · by_cases m : a ∈ cs
    · obtain ⟨ob, q⟩ := hs a m
      rw [froC_in m q] at z; cases z
    · rw [froC_out m] at z; exact h.tb.nR a ps z
theorem hide_froC {hp : Heap} (hn : ∀ a ∈ cs, H a = none) : hideC cs (froC cs hp H) = H := by
  funext a
  by_cases m : a ∈ cs
  · rw [hideC_in m, hn a m]
  · rw [hideC_out m, froC_out m]
theorem known_froC {hp : Heap} (hs : ∀ a ∈ cs, ∃ o, hp.get? a = some o) : Known cs (froC cs hp H) := fun a m => by
  obtain ⟨o, e⟩ := hs a m
  exact ⟨o, froC_in m e⟩
end
section
variable {P : Program} {w : World} {H : Hp} {s s' : Shared} {cs : List Addr} {stack : List PySem.Env}
theorem ce_hide {Q : VK} {u : Value} (k : Known cs H) (ok : HOk P w H s.heap) (h : CE stack P w H s (fun v H' => Q v (hideC cs H')) u s') : CE stack P w (hideC cs H) s Q u s' := by
  obtain ⟨v, H', e1, e2, un, hok, rv, q⟩ := h
  have k' : Known cs H' := fun a m => by
    obtain ⟨o, e⟩ := k a m
    exact ⟨o, un.frzs a o _ e⟩
  have stay : ∀ b ∈ cs, ∀ o, s.heap.get? b = some o → s'.heap.get? b = some o := fun b m o e => by
    obtain ⟨ob, eb⟩ := k b m
    have q1 := (ok b _ eb).1
    rw [e] at q1; cases q1
    exact (hok b _ (un.frzs b o _ eb)).1
  have out : ∀ {b : Addr} {o : HO} {G : Hp}, hideC cs G b = some o → b ∉ cs ∧ G b = some o := fun {b o G} e => by
    have m : b ∉ cs := fun m => by rw [hideC_in m] at e; cases e
    exact ⟨m, by rw [hideC_out m] at e; exact e⟩
  refine ⟨v, hideC cs H', e1, e2, ⟨fun b o e n hb hx => ?_, fun b o e n hb hx => ?_, fun b o e n hx => ?_, un.there, fun b xs e => ?_, fun b o u e => ?_, fun b ps e => ?_⟩, hok_hide k' hok, rv, q⟩
  · by_cases m : b ∈ cs
    · exact stay b m o e
    · exact un.keep b o e (by rw [hideC_out m] at n; exact n) hb hx
  · by_cases m : b ∈ cs
    · exact ⟨o.slots, stay b m o e⟩
    · exact un.slot b o e (by rw [hideC_out m] at n; exact n) hb hx
  · by_cases m : b ∈ cs
    · exact hideC_in m
    · rw [hideC_out m]; exact un.free b o e (by rw [hideC_out m] at n; exact n) hx
  · obtain ⟨m, e⟩ := out e
    rw [hideC_out m]; exact un.tups b xs e
  · obtain ⟨m, e⟩ := out e
    rw [hideC_out m]; exact un.frzs b o u e
  · obtain ⟨m, e⟩ := out e
    rw [hideC_out m]; exact un.tbls b ps e
end
section
variable {X : Cx} {CX : CXT} {pins : List (Addr × Obj)} {σ : St} {H : Hp} {s : Shared}
theorem own_none (I : Inv X pins σ H s) : ∀ a ∈ ownC X, H a = none := fun a m => let ⟨y, e⟩ := ownC_of m; I.freeC y a e
theorem own_some (I : Inv X pins σ H s) : ∀ a ∈ ownC X, ∃ o, s.heap.get? a = some o := fun a m => let ⟨y, e⟩ := ownC_of m; let ⟨v, o, ho, _⟩ := I.cell y a e; ⟨o, ho⟩
theorem env0_froz (I : Inv X pins σ H s) (hfn : ∀ y, X.fn y = true) : Env0 X.prog X.w X.K X.mg X.base X.A X.stack s (froC (ownC X) s.heap H) := by
  have e0 := I.env0
  have big : ∀ a ∈ ownC X, X.s_0.heap.objs.size ≤ a := fun a m => let ⟨y, e⟩ := ownC_of m; I.ok.cab y a (hfn y) e
  refine ⟨e0.frames, e0.mod, fun b o e => ⟨(e0.bs b o e).1, ?_⟩, e0.bsz, e0.funs, fun b hb => ?_, fun a o e => ?_, e0.bare⟩
  · rw [froC_out fun m => ?_]
    · exact (e0.bs b o e).2
    · exact absurd (Nat.lt_of_lt_of_le (Heap.lt_size e) (Nat.le_trans I.ok.bsz (big b m))) (Nat.lt_irrefl _)
  · rw [froC_out fun m => ?_]
    · exact e0.frf b hb
    · obtain ⟨y, e⟩ := ownC_of m
      rcases List.mem_cons.mp (I.stkSub b hb) with z | z
      · exact I.cne y b e z
      · obtain ⟨_, o, ho, _⟩ := I.ok.funs.mem z
        exact absurd (Nat.lt_of_lt_of_le (Heap.lt_size ho) (big b m)) (Nat.lt_irrefl _)
  · by_cases m : a ∈ ownC X
    · obtain ⟨ob, q⟩ := own_some I a m
      rw [froC_in m q] at e
      cases e
      exact anyO_ok q
    · rw [froC_out m] at e
      have out : ∀ {b : Addr} {o : HO}, H b = some o → froC (ownC X) s.heap H b = some o := fun {b o} q => by
        rw [froC_out fun m => by rw [own_none I b m] at q; cases q]; exact q
      exact (e0.hok a o e).stay (fun b u _ q => q) (fun b q => out q) fun b xs q => out q
/-- a def is called, the own cells known to it -/
theorem run_froz {k : Nat} {f : Addr} {fd : FuncData} {ps : List Str} {sp : Sp} {Q : VK} {us : List Value} {vs : List V} (I : Inv X pins σ H s) (hfn : ∀ y, X.fn y = true) (F : FnOk X.prog X.w X.K X.mg X.base (L2.CX X.prog X.w) k f fd ps sp) (hr : Room k X.A) (hb : Binds X.K fd ps []) (rv : Vals vs us)
    (h : sp vs (froC (ownC X) s.heap H) (fun v H' => Q v (hideC (ownC X) H')) E0) : wpAny (model X.prog X.w) X.A (call (.ref f) us) (EP X pins σ Q) X.xe s := by
  have hl : (us ++ []).length = ps.length := by rw [List.append_nil, ← rv.length]; exact F.len _ _ _ _ h
  have b := hb s us I.kIn hl
  rw [List.append_nil] at b
  have e0 := env0_froz I hfn
  refine wpAny_call (codeAny_mono (F.run X.A X.stack s _ ⟨us, []⟩ us vs _ E0 hr e0 b rv h) fun res s' hq => ?_)
  cases res with
  | error e =>
    obtain ⟨_, _, _, _, _, _, _, _, _, _, _, _, z⟩ := hq
    exact z.elim
  | ok fl =>
    cases fl with
    | ret u =>
      have c := ce_hide (known_froC (own_some I)) e0.hok hq
      rw [hide_froC (own_none I)] at c
      exact I.after c
    | next => exact False.elim hq
    | brk => exact False.elim hq
    | cont => exact False.elim hq
end
/-! ### lambdas of one's own -/
/-- a lambda in the context X: its names' slots there -/
structure LamIn (W : Wd) (X : Cx) (k : Nat) (ld : LamD) (N : List Str) (sl : List Nat) (fb : EV) : Prop where
  body : BodyOk X.prog X.w W X.mg X.base k ld N fb
  free0 : Free0 ld
  stat : LamStat N ld.scope
  slot : ∀ (i : Nat) (y : Str), N[i]? = some y → ∃ j, sl[i]? = some j ∧ X.N[j]? = some y ∧ X.env.scope.names.lookup y = some .cell ∧ (y, NameKind.free) ∈ ld.scope.names
  all : ∀ y, (y, NameKind.free) ∈ ld.scope.names → y ∈ N
  len : sl.length = N.length
  maker : Maker W X ld.q
  qu : X.env.qual ++ "<lambda>" = ld.q
  df : DfOk X ld
/-- what slots hold -/
def capsD (env : Env) : List Nat → Option (List D)
  | [] => some []
  | j :: js => match env[j]? with
    | some (some d) => (capsD env js).map (d :: ·)
    | _ => none
@[simp] theorem capsD_nil (env : Env) : capsD env [] = some [] := (rfl)
@[simp] theorem capsD_cons (env : Env) (j : Nat) (js : List Nat) : capsD env (j :: js) = match env[j]? with
    | some (some d) => (capsD env js).map (d :: ·)
    | _ => none := (rfl)
theorem capsD_at {env : Env} : ∀ {js : List Nat} {ds : List D}, capsD env js = some ds → ds.length = js.length ∧ ∀ (i j : Nat), js[i]? = some j → ∃ d, ds[i]? = some d ∧ env[j]? = some (some d)
  | [], ds, h => by cases h; exact ⟨rfl, fun i j e => by simp at e⟩
  | j :: js, ds, h => by
    rw [capsD_cons] at h
    split at h
    · rename_i d e
      obtain ⟨ds', h', rfl⟩ := Option.map_eq_some_iff.mp h
      obtain ⟨h1, h2⟩ := capsD_at h'
      refine ⟨by simp [h1], fun i k ek => ?_⟩
      cases i with
      | zero => cases ek; exact ⟨d, rfl, e⟩
      | succ i => exact h2 i k (by simpa using ek)
    · cases h
section
variable {W : Wd} {X : Cx} {pins : List (Addr × Obj)} {σ : St} {H : Hp} {s : Shared} {Rs F : Hp} {r : List Addr} {st : Store} {env : Env}
theorem LamIn.has {k : Nat} {ld : LamD} {N : List Str} {sl : List Nat} {fb : EV} (l : LamIn W X k ld N sl fb) (ok : X.Ok) : ∀ y ∈ ld.scope.names, y.2 = .free → ∃ c, X.env.cells.lookup y.1 = some c := fun y hy e => by
  obtain ⟨i, hi⟩ := List.getElem?_of_mem (l.all y.1 (by obtain ⟨y1, y2⟩ := y; cases e; exact hy))
  obtain ⟨j, _, _, hk, _⟩ := l.slot i y.1 hi
  exact ok.has _ (.inl hk)
/-- a lambda that was made, as the called def sees it -/
theorem LamIn.clos {k : Nat} {ld : LamD} {N : List Str} {sl : List Nat} {fb : EV} {f : Addr} {ds : List D} (l : LamIn W X k ld N sl fb) (I : Inv X pins σ H s) (hH : Holds W Rs F H r st) (hE : EnvOk F r σ env) (m : MadeAt Rs F ld (cloFrom X.env.cells ld.scope.names []) f) (hc : capsD env sl = some ds) :
    ClosR X.prog X.w W X.mg X.base k (froC (ownC X) s.heap Rs) F r fb ds f := by
  obtain ⟨c', m1, m2⟩ := m
  have nR : ∀ {a : Addr} {o : HO}, Rs a = some o → a ∉ ownC X := fun {a o} e mm => by
    have := hH.sR _ _ e
    rw [own_none I a mm] at this; cases this
  obtain ⟨dl, da⟩ := capsD_at hc
  have inCl : ∀ {y : Str} {c : Addr}, (y, c) ∈ cloFrom X.env.cells ld.scope.names [] → X.env.cells.lookup y = some c ∧ y ∈ N := fun {y c} hy => by
    rcases cloFrom_mem hy with z | ⟨h1, h2⟩
    · cases z
    · obtain ⟨c2, e2⟩ := l.has I.ok _ h1 rfl
      have e2 : X.env.cells.lookup y = some c2 := e2
      rw [e2] at h2
      cases h2
      exact ⟨e2, l.all y h1⟩
  have cell : ∀ (i : Nat) (y : Str), N[i]? = some y → ∃ c u o v d, X.env.cells.lookup y = some c ∧ (cloFrom X.env.cells ld.scope.names []).lookup y = some c ∧ s.heap.get? c = some o ∧ o.data = .cell (some u) ∧ RelV v u ∧ ds[i]? = some d ∧ Rep F r v d := fun i y hi => by
    obtain ⟨j, h1, h2, h3, h4⟩ := l.slot i y hi
    obtain ⟨d, e1, e2⟩ := da i j h1
    obtain ⟨v, e3, k3⟩ := hE.at_ j d e2
    obtain ⟨mm, hn, hl⟩ := I.loc
    obtain ⟨u, ru, lk⟩ := hl j y v h2 e3 (.inr (.inl h3))
    have hcl := mem_lookup (cloFrom_has (cells := X.env.cells) (acc := []) h4)
    obtain ⟨c1, ec1⟩ := hcl
    obtain ⟨ec2, _⟩ := inCl (PySem.mem_of_lookup ec1)
    rcases lk with ⟨z, _⟩ | ⟨_, c2, ec3, o, ho, hd⟩
    · have z : X.env.scope.names.lookup y = some .local := z
      rw [h3] at z; cases z
    · rw [ec2] at ec3
      cases ec3
      exact ⟨c1, u, o, v, d, ec2, ec1, ho, hd, ru, e1, k3⟩
  -- values of the cells, in turn
  have vals : ∀ (n : Nat), n ≤ N.length → ∃ (us : List Value) (vs : List V), us.length = n ∧ Vals vs us ∧ Reps F r vs (ds.take n) ∧ ∀ (i : Nat) (y : Str), i < n → N[i]? = some y → ∃ c u o, (cloFrom X.env.cells ld.scope.names []).lookup y = some c ∧ us[i]? = some u ∧ s.heap.get? c = some o ∧ o.data = .cell (some u) ∧ X.env.cells.lookup y = some c := by
    intro n
    induction n with
    | zero => exact fun _ => ⟨[], [], rfl, .nil, .nil, fun i y h => absurd h (Nat.not_lt_zero _)⟩
    | succ n ih =>
      intro hn
      obtain ⟨us, vs, h1, h2, h3, h4⟩ := ih (by omega)
      obtain ⟨c, u, o, v, d, a1, a2, a3, a4, a5, a6, a7⟩ := cell n N[n] (by simp [show n < N.length by omega])
      have ld' : n < ds.length := (List.getElem?_eq_some_iff.mp a6).1
      refine ⟨us ++ [u], vs ++ [v], by simp [h1], h2.append (.cons a5 .nil), ?_, fun i y hi hy => ?_⟩
      · rw [List.take_succ_eq_append_getElem ld', show ds[n] = d from by rw [List.getElem?_eq_getElem ld'] at a6; exact Option.some.inj a6]
        exact h3.snoc a7
      · by_cases e : i < n
        · obtain ⟨c2, u2, o2, b1, b2, b3⟩ := h4 i y e hy
          exact ⟨c2, u2, o2, b1, by rw [List.getElem?_append_left (by omega)]; exact b2, b3⟩
        · have : i = n := by omega
          subst this
          rw [List.getElem?_eq_getElem (by omega)] at hy
          cases hy
          exact ⟨c, u, o, a2, by rw [List.getElem?_append_right (by omega), h1]; simp, a3, a4, a1⟩
  obtain ⟨us, vs, v1, v2, v3, v4⟩ := vals N.length (Nat.le_refl _)
  have hdl : ds.length = N.length := by rw [dl, l.len]
  rw [List.take_of_length_le (by omega)] at v3
  refine ⟨ld, N, cloFrom X.env.cells ld.scope.names [], c', us, vs, l.body, l.free0, l.stat, m1.same (fun _ _ e => by rw [froC_out (nR e)]; exact e), m2.imp (fun e => by rw [froC_out (nR e)]; exact e) id, ⟨fun i y hi => ?_, fun y c e => (inCl (PySem.mem_of_lookup e)).2, fun y c hy => ?_, fun y z c e1 e2 => ?_, v1⟩, v2, v3⟩
  · obtain ⟨c, u, o, b1, b2, b3, b4, b5⟩ := v4 i y (List.getElem?_eq_some_iff.mp hi).1 hi
    exact ⟨c, u, o, b1, b2, froC_in (ownC_in b5) b3, b4⟩
  · obtain ⟨e1, hy2⟩ := inCl hy
    obtain ⟨i, hi⟩ := List.getElem?_of_mem hy2
    obtain ⟨c2, u, o, b1, b2, b3, b4, b5⟩ := v4 i y (List.getElem?_eq_some_iff.mp hi).1 hi
    rw [e1] at b5
    cases b5
    exact b1
  · exact I.ok.inj y z c (inCl (PySem.mem_of_lookup e1)).1 (inCl (PySem.mem_of_lookup e2)).1
end
end Dl
/-! ## DlLamC -/
/-! _law_all([lambda: ..], ..), _law_told(lambda: ..). -/
namespace Dl
open PySem PySem.Spec L2
/-- a lambda as it's written, and its meaning -/
structure LamW where
  ld : LamD
  pos : Pos
  N : List Str
  sl : List Nat
  fb : EV
def LamW.ex (l : LamW) : PySem.Expr := .Lambda l.ld.params l.ld.body l.ld.scope l.pos
/-- the lambdas' meanings with what they keep -/
def capsAll (env : Env) : List (List Nat × EV) → Option (List (EV × List D))
  | [] => some []
  | l :: ls => match capsD env l.1 with
    | some ds => (capsAll env ls).map ((l.2, ds) :: ·)
    | none => none
@[simp] theorem capsAll_nil (env : Env) : capsAll env [] = some [] := (rfl)
@[simp] theorem capsAll_cons (env : Env) (l : List Nat × EV) (ls : List (List Nat × EV)) : capsAll env (l :: ls) = match capsD env l.1 with
    | some ds => (capsAll env ls).map ((l.2, ds) :: ·)
    | none => none := (rfl)
theorem capsAll_at {env : Env} : ∀ {ls : List (List Nat × EV)} {ws : List (EV × List D)}, capsAll env ls = some ws → ws.length = ls.length ∧ ∀ (i : Nat) (l : List Nat × EV) (x : EV × List D), ls[i]? = some l → ws[i]? = some x → x.1 = l.2 ∧ capsD env l.1 = some x.2
  | [], ws, h => by cases h; exact ⟨rfl, fun i l x e => by simp at e⟩
  | l :: ls, ws, h => by
    rw [capsAll_cons] at h
    split at h
    · rename_i ds e
      obtain ⟨ws', h', rfl⟩ := Option.map_eq_some_iff.mp h
      obtain ⟨h1, h2⟩ := capsAll_at h'
      refine ⟨by simp [h1], fun i l' x e1 e2 => ?_⟩
      cases i with
      | zero => cases e1; cases e2; exact ⟨rfl, e⟩
      | succ i => exact h2 i l' x (by simpa using e1) (by simpa using e2)
    · cases h
def eAll (ga : FV) (cs : List Nat) (hm : Nat → Option D → Store → R (D × Store)) (ls : List (List Nat × EV)) (f2 : EV) : EV := fun env st => (f2 env st).bind fun a => match capsAll env ls with
  | some ws => allR ga cs hm a.1 ws a.2
  | none => .bad
@[simp] theorem r_eAll (ga : FV) (cs : List Nat) (hm : Nat → Option D → Store → R (D × Store)) (ls : List (List Nat × EV)) (f2 : EV) (env : Env) (st : Store) : eAll ga cs hm ls f2 env st = (f2 env st).bind fun a => match capsAll env ls with
  | some ws => allR ga cs hm a.1 ws a.2
  | none => .bad := (rfl)
def eTold (cs : List Nat) (hm : Nat → Option D → Store → R (D × Store)) (sl : List Nat) (fb : EV) : EV := fun env st => match capsD env sl with
  | some ds => noX (toldR cs hm (fb (ds.map some) st))
  | none => .bad
@[simp] theorem r_eTold (cs : List Nat) (hm : Nat → Option D → Store → R (D × Store)) (sl : List Nat) (fb : EV) (env : Env) (st : Store) : eTold cs hm sl fb env st = match capsD env sl with
  | some ds => noX (toldR cs hm (fb (ds.map some) st))
  | none => .bad := (rfl)
theorem allR_noexc {ga : FV} {cs : List Nat} {hm : Nat → Option D → Store → R (D × Store)} {due : D} {c : Nat} {p : Option D} {s : Store} : ∀ (ws : List (EV × List D)) (st : Store), allR ga cs hm due ws st ≠ .exc c p s
  | [], st, h => by cases h
  | x :: ws, st, h => by
    rw [allR_cons] at h
    cases e1 : toldR cs hm (x.1 (x.2.map some) st) with
    | bad => rw [e1] at h; cases h
    | exc c p s => rw [e1] at h; cases h
    | ok a =>
      rw [e1] at h
      simp only [noX_ok, R.bind_ok] at h
      cases e2 : ga [a.1, due] a.2 with
      | bad => rw [e2] at h; cases h
      | exc c p s => rw [e2] at h; cases h
      | ok b =>
        rw [e2] at h
        simp only [noX_ok, R.bind_ok] at h
        split at h
        · exact allR_noexc ws _ h
        · cases h
theorem PostX.moreR {A : Type} {W : Wd} {Rs Rs' F : Hp} {r : List Addr} {res : R A} {K : A → Prop} {E : XK} (s : Same Rs Rs') (h : PostX W Rs F r res K E) : PostX W Rs' F r res K E := by
  cases res with
  | ok a => exact h
  | bad => exact h
  | exc c p st => exact fun F' H' r' od s1 x1 h1 k1 => h F' H' r' od s1 x1 (h1.lessR s) k1
section
variable {W : Wd} {X : Cx} {E : XK}
theorem PA.imp {es : List PySem.Expr} {t t' : TA} (h : PA X es t) (k : ∀ σ H Q, t' σ H Q → t σ H Q) : PA X es t' := ⟨fun pos pins s σ H Q I q => h.run pos pins s σ H Q I (k _ _ _ q)⟩
def tMades (W : Wd) (X : Cx) (ls : List LamW) : TA := fun _ H Q => ∃ (Rs F : Hp) (r : List Addr) (st : Store), Holds W Rs F H r st ∧ ∀ (Rs' H' : Hp) (fs : List Addr), Same Rs Rs' → Holds W Rs' F H' r st → fs.length = ls.length → (∀ (i : Nat) (l : LamW) (f : Addr), ls[i]? = some l → fs[i]? = some f → MadeAt Rs' F l.ld (cloFrom X.env.cells l.ld.scope.names []) f) → Q (fs.map V.ref) H'
theorem pa_mades {k : Nat} (ok : X.Ok) : ∀ (ls : List LamW), (∀ l ∈ ls, LamIn W X k l.ld l.N l.sl l.fb) → PA X (ls.map LamW.ex) (tMades W X ls)
  | [], _ => PA.imp pa_nil fun σ H Q ⟨Rs, F, r, st, hH, hQ⟩ => hQ Rs H [] (Same.refl _) hH rfl fun i l f e => by simp at e
  | l :: ls, hl => by
    have h1 := hl l (by simp)
    refine PA.imp (pa_cons (pe_made (pos := l.pos) h1.maker h1.qu (h1.has ok) h1.df) (pa_mades ok ls fun x hx => hl x (by simp [hx])) (hs := by rfl)) fun σ H Q ⟨Rs, F, r, st, hH, hQ⟩ => ?_
    refine ⟨Rs, F, r, st, hH, fun Rs1 H1 f s1 h1 m1 => ⟨Rs1, F, r, st, h1, fun Rs2 H2 fs s2 h2 e2 m2 => ?_⟩⟩
    refine hQ Rs2 H2 (f :: fs) (fun q z e => s2 _ _ (s1 _ _ e)) h2 (by simp [e2]) fun i l' f' e3 e4 => ?_
    cases i with
    | zero => cases e3; cases e4; exact m1.mono s2 (Same.refl _)
    | succ i => exact m2 i l' f' (by simpa using e3) (by simpa using e4)
/-- g([lambda: .., ..], e) -/
theorem de_all {k n j : Nat} {g x0 x1 : Str} {f : Addr} {fd : FuncData} {ga : FV} {cs : List Nat} {hm : Nat → Option D → Store → R (D × Store)} {ls : List LamW} {e2 : PySem.Expr} {f2 : EV} {p lp pos : Pos} (hK : X.K = W.K) (hfn : ∀ y, X.fn y = true)
    (F : FnOk X.prog X.w X.K X.mg X.base (L2.CX X.prog X.w) n f fd [x0, x1] (spAll X.prog X.w W X.mg X.base k ga cs hm)) (hr : Room j X.A) (hj : n ≤ j) (hg : Gl X g) (hm' : X.mg g = some (.ref f)) (hk : PySem.W.keepIn X.K (.ref f) = true) (hb : Binds X.K fd [x0, x1] []) (hls : X.Ok → ∀ l ∈ ls, LamIn W X k l.ld l.N l.sl l.fb) (hn : ls.length ≤ 1000) (h2 : DE W X E e2 f2)
    (hdb : (g == ("__debug__" : Str)) = false := by decide) (hs2 : starEach [e2] X.env = (false, eval e2 X.env) :: starEach [] X.env := by rfl) (hs1 : starEach [.List (ls.map LamW.ex) lp, e2] X.env = (false, eval (.List (ls.map LamW.ex) lp) X.env) :: starEach [e2] X.env := by rfl) (hpl : (backTo pos (starEach [e2] X.env)).any (·.1) = false := by rfl) :
    DE W X E (.Call (.Name g p) [.List (ls.map LamW.ex) lp, e2] [] pos) (eAll ga cs hm (ls.map fun l => (l.sl, l.fb)) f2) := by
  obtain ⟨t2, p2, q2⟩ := h2.ex
  refine ⟨fun pins s σ H Q I h => ?_⟩
  obtain ⟨Rs, F0, r, env, st, hH, hE, hP⟩ := h
  have ok := I.ok
  refine wpAny_Call_Name_kw (ld_glob I hg hm' ?_ hdb)
  have pa := pa_cons (pe_lst (pos := lp) (pa_mades (k := k) ok ls (hls ok))) (pa_cons p2 pa_nil (hs := hs2)) (hs := hs1)
  refine PySem.W.callWith_K (h₀ := X.base) I.ok.mod.kin hk (thn (pa.run pos pins s σ H (fun vs H1 => ∃ (Rs2 F2 : Hp) (r2 : List Addr) (st2 : Store) (l : Addr) (fs : List Addr) (v2 : V) (d2 : D), vs = [.ref l, v2] ∧ Same Rs Rs2 ∧ Same F0 F2 ∧ Ext r r2 ∧ Holds W Rs2 F2 H1 r2 st2 ∧ Rs2 l = some (.lst (fs.map V.ref)) ∧
      fs.length = ls.length ∧ (∀ (i : Nat) (l : LamW) (f : Addr), ls[i]? = some l → fs[i]? = some f → MadeAt Rs2 F2 l.ld (cloFrom X.env.cells l.ld.scope.names []) f) ∧ Rep F2 r2 v2 d2 ∧
      Post W Rs F2 r2 (match capsAll env (ls.map fun l => (l.sl, l.fb)) with | some ws => allR ga cs hm d2 ws st2 | none => .bad) Q E) I ?_) fun us s1 hh => ⟨?_, ?_⟩) hs1 hpl
  · refine ⟨Rs, F0, r, st, hH, fun Rs1 H1 fs s1 h1 e1 m1 => ⟨?_, fun l hl => ?_⟩⟩
    · rw [List.length_map, e1, sizeLine_eq]; omega
    · have g1 := h1.guard (o := .lst (fs.map V.ref)) hl
      have up : Same Rs1 (upd Rs1 l (.lst (fs.map V.ref))) := fun b o e => by
        rw [upd_ne (fun z => by rw [z, h1.freeR hl] at e; cases e)]; exact e
      refine q2 _ F0 _ r σ env st _ g1 hE (PostX.moreR (fun b o e => up _ _ (s1 _ _ e)) (bindX hP fun a ea z => ?_))
      exact fun F2 H2 r2 v2 s2 x2 h2 k2 => ⟨_, F2, r2, a.2, l, fs, v2, a.1, rfl, fun b o e => up _ _ (s1 _ _ e), s2, x2, h2, upd_same, e1, fun i l' f' e3 e4 => (m1 i l' f' e3 e4).mono up s2, k2, Post.later s2 x2 z⟩
  · obtain ⟨vs, H1, I1, rv, hq⟩ := hh
    exact I1.kIn
  · obtain ⟨vs, H1, I1, rv, Rs2, F2, r2, st2, l, fs, v2, d2, rfl, sR, sF, xF, h2, hl, e1, m1, k2, hP2⟩ := hh
    cases ec : capsAll env (ls.map fun l => (l.sl, l.fb)) with
    | none => rw [ec] at hP2; exact hP2.elim
    | some ws =>
      rw [ec] at hP2
      obtain ⟨c1, c2⟩ := capsAll_at ec
      rw [List.length_map] at c1
      refine run_froz (k := j) I1 hfn (F.mono hj) hr hb rv ?_
      have nl : l ∉ ownC X := fun m => by
        have := h2.sR _ _ hl
        rw [own_none I1 l m] at this; cases this
      have hH3 := h2.froze (cs := ownC X) (hp := s1.heap) (own_none I1) (own_some I1)
      refine ⟨froC (ownC X) s1.heap Rs2, F2, r2, st2, ws, fs, l, v2, d2, rfl, by rw [froC_out nl]; exact hl, by rw [e1, c1], by omega, fun i x f e3 e4 => ?_, hH3, k2, ?_⟩
      · have hi : i < ls.length := by rw [← c1]; exact (List.getElem?_eq_some_iff.mp e3).1
        obtain ⟨q1, q3⟩ := c2 i (ls[i].sl, ls[i].fb) x (by rw [List.getElem?_map, List.getElem?_eq_getElem hi]; rfl) e3
        have lm := hls ok ls[i] (List.getElem_mem hi)
        have := lm.clos I1 h2 (hE.mono sF xF) (m1 i ls[i] f (List.getElem?_eq_getElem hi) e4) q3
        rw [q1]
        exact this
      · simp only at hP2
        cases ea : allR ga cs hm d2 ws st2 with
        | bad => rw [ea] at hP2; exact hP2.elim
        | exc c p s => exact absurd ea (allR_noexc ws st2)
        | ok b =>
          rw [ea] at hP2
          have nR2 : ∀ a ∈ ownC X, Rs2 a = none := fun a m => h2.freeR (own_none I1 a m)
          exact fun F' H' r' v s' x' h' k' => hP2 F' _ r' v s' x' (((by have := h'.hide (known_froC (own_some I1)); rw [hide_froC nR2] at this; exact this : Holds W Rs2 F' (hideC (ownC X) H') r' b.2)).lessR sR) k'
/-- g(lambda: ..) -/
theorem de_told {k n j : Nat} {g x0 : Str} {f : Addr} {fd : FuncData} {cs : List Nat} {hm : Nat → Option D → Store → R (D × Store)} {l : LamW} {p pos : Pos} (hK : X.K = W.K) (hfn : ∀ y, X.fn y = true)
    (F : FnOk X.prog X.w X.K X.mg X.base (L2.CX X.prog X.w) n f fd [x0] (spTold X.prog X.w W X.mg X.base k cs hm)) (hr : Room j X.A) (hj : n ≤ j) (hg : Gl X g) (hm' : X.mg g = some (.ref f)) (hk : PySem.W.keepIn X.K (.ref f) = true) (hb : Binds X.K fd [x0] []) (hl : X.Ok → LamIn W X k l.ld l.N l.sl l.fb)
    (hdb : (g == ("__debug__" : Str)) = false := by decide) (hs1 : starEach [l.ex] X.env = (false, eval l.ex X.env) :: starEach [] X.env := by rfl) (hpl : (backTo pos (starEach [] X.env)).any (·.1) = false := by rfl) :
    DE W X E (.Call (.Name g p) [l.ex] [] pos) (eTold cs hm l.sl l.fb) := by
  refine ⟨fun pins s σ H Q I h => ?_⟩
  obtain ⟨Rs, F0, r, env, st, hH, hE, hP⟩ := h
  have ok := I.ok
  refine wpAny_Call_Name_kw (ld_glob I hg hm' ?_ hdb)
  have pa := pa_mades (k := k) ok [l] (fun x hx => by rw [List.mem_singleton.mp hx]; exact hl ok)
  refine PySem.W.callWith_K (h₀ := X.base) I.ok.mod.kin hk (thn (pa.run pos pins s σ H (fun vs H1 => ∃ (Rs2 : Hp) (fl : Addr), vs = [.ref fl] ∧ Same Rs Rs2 ∧ Holds W Rs2 F0 H1 r st ∧ MadeAt Rs2 F0 l.ld (cloFrom X.env.cells l.ld.scope.names []) fl) I ?_) fun us s1 hh => ⟨?_, ?_⟩) hs1 hpl
  · refine ⟨Rs, F0, r, st, hH, fun Rs1 H1 fs s1 h1 e1 m1 => ?_⟩
    match fs, e1 with
    | [fl], _ => exact ⟨Rs1, fl, rfl, s1, h1, m1 0 l fl rfl rfl⟩
  · obtain ⟨vs, H1, I1, rv, hq⟩ := hh
    exact I1.kIn
  · obtain ⟨vs, H1, I1, rv, Rs2, fl, rfl, sR, h2, m1⟩ := hh
    unfold eTold at hP
    cases ec : capsD env l.sl with
    | none => rw [ec] at hP; exact hP.elim
    | some ds =>
      rw [ec] at hP
      refine run_froz (k := j) I1 hfn (F.mono hj) hr hb rv ?_
      have hH3 := h2.froze (cs := ownC X) (hp := s1.heap) (own_none I1) (own_some I1)
      refine ⟨froC (ownC X) s1.heap Rs2, F0, r, st, l.fb, ds, fl, rfl, (hl ok).clos I1 h2 hE m1 ec, hH3, ?_⟩
      simp only at hP
      cases ea : toldR cs hm (l.fb (ds.map some) st) with
      | bad => rw [ea] at hP; exact hP.elim
      | exc c p s => rw [ea] at hP; exact hP.elim
      | ok b =>
        rw [ea] at hP
        have nR2 : ∀ a ∈ ownC X, Rs2 a = none := fun a m => h2.freeR (own_none I1 a m)
        exact fun F' H' r' v s' x' h' k' => hP F' _ r' v s' x' (((by have := h'.hide (known_froC (own_some I1)); rw [hide_froC nR2] at this; exact this : Holds W Rs2 F' (hideC (ownC X) H') r' b.2)).lessR sR) k'
end
end Dl
/-! ## DlLamG -/
/-! What printed derivations with lambdas lean on. -/
namespace Dl
open PySem PySem.Spec L2
section
variable {P : Program} {w : World} {W : Wd} {mg : Str → Option Value} {base : Heap} {X : Cx} {E : XK}
/-- a def of the text that keeps sp -/
structure FnT (P : Program) (w : World) (W : Wd) (mg : Str → Option Value) (base : Heap) (x : Str) (k : Nat) (ps : List Str) (sp : Sp) : Prop where
  ex : ∃ f fd, FnOk P w W.K mg base (L2.CX P w) k f fd ps sp ∧ mg x = some (.ref f) ∧ PySem.W.keepIn W.K (.ref f) = true ∧ Binds W.K fd ps []
/-- the class x, made with a number -/
structure IniX (P : Program) (w : World) (W : Wd) (mg : Str → Option Value) (base : Heap) (x : Str) (c : Nat) (f : Str) : Prop where
  ex : ∃ fI fd, PayEx W.K mg x (W.cls c) fI f ∧ FnOk P w W.K mg base (L2.CX P w) 1 fI fd ["self", f] (spInit W.K (W.cls c) f) ∧ Binds W.K fd ["self", f] [] ∧ W.pay c = some f
theorem passX {A : Around} {stack : List PySem.Env} {N : List Str} {ld : LamD} {cl : List (Str × Addr)} {f c' : Addr} {s : Shared} {H : Hp} {K : PySem.W.Frag} : Passes (L2.CX P w) (LX P w K mg base A stack N ld cl f c' s H E) E :=
  passes_call (X := LX P w K mg base A stack N ld cl f c' s H E) (takes_of rfl rfl rfl rfl) fun _ _ _ _ h => h
/-- whether a lambda's names are those, at these slots -/
def lamB (XN : List Str) (xsc : Scope) (N : List Str) (sl : List Nat) (sc : Scope) : Bool :=
  (match sc.kind with | .function => true | _ => false) && !sc.isCoroutine && !sc.isGenerator && (sc.names.all fun y => match y.2 with | .local => !N.contains y.1 | .cell => false | .free => N.contains y.1 | _ => true) && decide N.Nodup && decide (sl.length = N.length) &&
    ((N.zip sl).all fun p => decide (XN[p.2]? = some p.1) && decide (xsc.names.lookup p.1 = some .cell) && decide ((p.1, NameKind.free) ∈ sc.names))
theorem lamIn_by {k : Nat} {q : Str} {params : Arguments} {bd : PySem.Expr} {scope : Scope} {N XN : List Str} {xsc : Scope} {sl : List Nat} {fb : EV} (hXN : X.N = XN) (hXs : X.env.scope = xsc) (body : BodyOk X.prog X.w W X.mg X.base k ⟨q, params, bd, scope⟩ N fb) (free0 : Free0 ⟨q, params, bd, scope⟩) (h : lamB XN xsc N sl scope = true) (mk : Maker W X q) (qu : X.env.qual ++ "<lambda>" = q) (df : DfOk X ⟨q, params, bd, scope⟩) : LamIn W X k ⟨q, params, bd, scope⟩ N sl fb := by
  subst hXN hXs
  unfold lamB at h
  simp only [Bool.and_eq_true, Bool.not_eq_true', decide_eq_true_eq, List.all_eq_true] at h
  obtain ⟨⟨⟨⟨⟨⟨h1, h2⟩, h3⟩, h4⟩, h5⟩, h6⟩, h7⟩ := h
  have inN : ∀ y, (y, NameKind.free) ∈ scope.names → y ∈ N := fun y hy => by
    have := h4 _ hy
    simpa using this
  refine ⟨body, free0, ⟨?_, h2, h3, fun y hy => ?_, fun y hy => inN y (PySem.mem_of_lookup hy), h5⟩, fun i y hi => ?_, inN, h6, mk, qu, df⟩
  · split at h1
    · rename_i e; exact e
    · cases h1
  · have := h4 y hy
    constructor
    · intro z; rw [z] at this; cases this
    · intro z; rw [z] at this; simpa using this
  · have hl : i < N.length := (List.getElem?_eq_some_iff.mp hi).1
    have hs : i < sl.length := by omega
    have e1 : N[i] = y := (List.getElem?_eq_some_iff.mp hi).2
    have m : (N[i], sl[i]) ∈ N.zip sl := by
      refine List.mem_of_getElem? (i := i) ?_
      rw [List.getElem?_eq_getElem (by rw [List.length_zip]; omega), List.getElem_zip]
    obtain ⟨⟨q1, q2⟩, q3⟩ := h7 _ m
    rw [e1] at q1 q2 q3
    exact ⟨sl[i], List.getElem?_eq_getElem hs, q1, q2, q3⟩
theorem dall {k n j : Nat} {g x0 x1 : Str} {ga : FV} {cs : List Nat} {hm : Nat → Option D → Store → R (D × Store)} {params : Arguments} {bd : PySem.Expr} {scope : Scope} {lpos : Pos} {q : Str} {N : List Str} {sl : List Nat} {fb : EV} {e2 : PySem.Expr} {f2 : EV} {p lp pos : Pos}
    (c : FnT X.prog X.w W X.mg X.base g n [x0, x1] (spAll X.prog X.w W X.mg X.base k ga cs hm)) (hr : Room j X.A) (hl : LamIn W X k ⟨q, params, bd, scope⟩ N sl fb) (h2 : DE W X E e2 f2) (hK : X.K = W.K := by rfl) (hfn : ∀ y, X.fn y = true := by intro _; rfl) (hj : n ≤ j := by decide) (hg : Gl X g := by rfl)
    (hdb : (g == ("__debug__" : Str)) = false := by decide) (hs2 : starEach [e2] X.env = (false, eval e2 X.env) :: starEach [] X.env := by rfl) (hs1 : starEach [.List [.Lambda params bd scope lpos] lp, e2] X.env = (false, eval (.List [.Lambda params bd scope lpos] lp) X.env) :: starEach [e2] X.env := by rfl) (hpl : (backTo pos (starEach [e2] X.env)).any (·.1) = false := by rfl) :
    DE W X E (.Call (.Name g p) [.List [.Lambda params bd scope lpos] lp, e2] [] pos) (eAll ga cs hm [(sl, fb)] f2) := by
  obtain ⟨f, fd, F, hm', hk, hb⟩ := c.ex
  exact de_all (ls := [⟨⟨q, params, bd, scope⟩, lpos, N, sl, fb⟩]) hK hfn (by rw [hK]; exact F) hr hj hg hm' (by rw [hK]; exact hk) (by rw [hK]; exact hb) (fun _ l hl' => by rw [List.mem_singleton.mp hl']; exact hl) (by simp) h2 hdb hs2 hs1 hpl
theorem dtold {k n j : Nat} {g x0 : Str} {cs : List Nat} {hm : Nat → Option D → Store → R (D × Store)} {params : Arguments} {bd : PySem.Expr} {scope : Scope} {lpos : Pos} {q : Str} {N : List Str} {sl : List Nat} {fb : EV} {p pos : Pos}
    (c : FnT X.prog X.w W X.mg X.base g n [x0] (spTold X.prog X.w W X.mg X.base k cs hm)) (hr : Room j X.A) (hl : LamIn W X k ⟨q, params, bd, scope⟩ N sl fb) (hK : X.K = W.K := by rfl) (hfn : ∀ y, X.fn y = true := by intro _; rfl) (hj : n ≤ j := by decide) (hg : Gl X g := by rfl)
    (hdb : (g == ("__debug__" : Str)) = false := by decide) (hs1 : starEach [.Lambda params bd scope lpos] X.env = (false, eval (.Lambda params bd scope lpos) X.env) :: starEach [] X.env := by rfl) (hpl : (backTo pos (starEach [] X.env)).any (·.1) = false := by rfl) :
    DE W X E (.Call (.Name g p) [.Lambda params bd scope lpos] [] pos) (eTold cs hm sl fb) := by
  obtain ⟨f, fd, F, hm', hk, hb⟩ := c.ex
  exact de_told (l := ⟨⟨q, params, bd, scope⟩, lpos, N, sl, fb⟩) hK hfn (by rw [hK]; exact F) hr hj hg hm' (by rw [hK]; exact hk) (by rw [hK]; exact hb) (fun _ => hl) hdb hs1 hpl
theorem draiseP {x f : Str} {c j : Nat} {e : PySem.Expr} {fe : EV} {p pos pos2 : Pos} (i : IniX X.prog X.w W X.mg X.base x c f) (hr : Room j X.A) (he : DE W X E e fe) (tk : Takes X fun cls d _ H => E cls d H) (hK : X.K = W.K := by rfl) (hc : X.calm = true := by rfl) (hj : 2 ≤ j := by decide) (hg : Gl X x := by rfl) (hdb : (x == ("__debug__" : Str)) = false := by decide)
    (hst : starEach [e] X.env = (false, eval e X.env) :: starEach [] X.env := by rfl) (hpl : (backTo pos (starEach [] X.env)).any (·.1) = false := by rfl) :
    DS W X E (.Raise (some (.Call (.Name x p) [e] [] pos)) none pos2) (sRaiseP c fe) := by
  obtain ⟨fI, fd, px, F, hb, hp⟩ := i.ex
  exact ds_raiseP hK hc tk px F hb hp (hr.mono hj) he hg hdb hst hpl
/-- isinstance(e, y): y an own class, or ValueError -/
theorem dIsO {a : Addr} {oe : Obj} {pn : List (Addr × Obj)} {c Y i : Nat} {o : Option (Nat × Str × Int)} {x y : Str} {b : Bool} {p p1 p2 pos : Pos} (C : L2.ExcC W.K (W.cls c)) (hz : Zc (.ref (W.cls c)) (o.map (·.1)) oe) (hf : ∃ vs, oe.data = .fields vs) (hmi : X.mg "isinstance" = none) (hg : X.mg y = some (.ref Y)) (hk : PySem.W.kitOne W.K (.ref (W.cls c)) (.ref Y) = some b)
    (hK : X.K = W.K := by rfl) (hN : X.N[i]? = some x := by rfl) (hv : Vis X.env.scope x := by first | exact Or.inl rfl | exact Or.inr (Or.inl rfl) | exact Or.inr (Or.inr rfl)) (hgi : Gl X "isinstance" := by rfl) (hgy : Gl (X.suite a ((a, oe) :: pn)) y := by rfl) (hdb : (y == ("__debug__" : Str)) = false := by decide) (hd : (x == ("__debug__" : Str)) = false := by decide) (hcd : (x == ("__classdict__" : Str)) = false := by decide) :
    DE W (X.suite a ((a, oe) :: pn)) E (.Call (.Name "isinstance" p) [.Name x p1, .Name y p2] [] pos) (eIsX a o i b) :=
  de_isX (v := .ref Y) hK C hz hf hN hv hgi hmi (pe_glob hgy hg rfl hdb) (fun u e => e) hk hd hcd
theorem dIsV {a : Addr} {oe : Obj} {pn : List (Addr × Obj)} {c i : Nat} {o : Option (Nat × Str × Int)} {x : Str} {b : Bool} {p p1 p2 pos : Pos} (C : L2.ExcC W.K (W.cls c)) (hz : Zc (.ref (W.cls c)) (o.map (·.1)) oe) (hf : ∃ vs, oe.data = .fields vs) (hmi : X.mg "isinstance" = none) (hg : X.mg "ValueError" = none) (hk : PySem.W.kitOne W.K (.ref (W.cls c)) (.type "ValueError") = some b)
    (hK : X.K = W.K := by rfl) (hN : X.N[i]? = some x := by rfl) (hv : Vis X.env.scope x := by first | exact Or.inl rfl | exact Or.inr (Or.inl rfl) | exact Or.inr (Or.inr rfl)) (hgi : Gl X "isinstance" := by rfl) (hgy : Gl (X.suite a ((a, oe) :: pn)) "ValueError" := by rfl) (hd : (x == ("__debug__" : Str)) = false := by decide) (hcd : (x == ("__classdict__" : Str)) = false := by decide) :
    DE W (X.suite a ((a, oe) :: pn)) E (.Call (.Name "isinstance" p) [.Name x p1, .Name "ValueError" p2] [] pos) (eIsX a o i b) :=
  de_isX (v := .ty "ValueError") hK C hz hf hN hv hgi hmi (pe_bltn hgy hg (by decide +kernel) rfl) (fun u e => e) hk hd hcd
theorem dXf {a : Addr} {oe : Obj} {pn : List (Addr × Obj)} {c i : Nat} {o : Option (Nat × Str × Int)} {x f : Str} {p1 pos : Pos} (C : L2.ExcC W.K (W.cls c)) (hz : Zc (.ref (W.cls c)) (o.map (·.1)) oe) (hf : ∃ vs, oe.data = .fields vs) (hno : PySem.W.findIn W.K (.ref (W.cls c)) f = some none)
    (hK : X.K = W.K := by rfl) (hN : X.N[i]? = some x := by rfl) (hv : Vis X.env.scope x := by first | exact Or.inl rfl | exact Or.inr (Or.inl rfl) | exact Or.inr (Or.inr rfl)) (hb : attributeBase (.Name x p1) f X.env (eval (.Name x p1) X.env) = eval (.Name x p1) X.env := by rfl) (hd : (x == ("__debug__" : Str)) = false := by decide) (hcd : (x == ("__classdict__" : Str)) = false := by decide) :
    DE W (X.suite a ((a, oe) :: pn)) E (.Attribute (.Name x p1) f pos) (eXf a o i f) := de_xf hK C hno hz hf hN hv hb hd hcd
/-- fnE, the def's code object known -/
theorem fnEC {x qual : Str} {s : Stmt} {f c : Addr} {fd : FuncData} {N ps : List Str} {k n q : Nat} {b : SV} (F : Fun W.K x qual s f fd) (hcd : fd.code = .ref c) (S : FnScope N ps (defScope s)) (hn : ps.length = n) (hq : N.length = q)
    (hbody : ∀ (A : Around) (outer : List PySem.Env) (sh : Shared) (H : Hp) (E : XK), Room k (A.deeper (PyProof.Rows.envOfC qual (defScope s) sh.heap.objs.size f (.ref c))) →
      DB W (cxOf (L2.CX P w) P w W.K mg base N qual (defScope s) f (.ref c) A outer sh H E) E (defBody s) b) : FnOk P w W.K mg base (L2.CX P w) (k + 1) f fd ps (spD W n (funD q b)) := by
  subst hq
  obtain ⟨oc, od, kV, doc, pm, an, cdv, ct, osl, rfl, lk, hcode⟩ := F.ex
  have e : cdv = .ref c := hcd
  subst e
  refine fn_of lk hcode S (fun vs H Q E h => ?_) fun A outer sh H vs Q E hr h => ?_
  · obtain ⟨Rs, F, r, st, ds, _, h, hl, _⟩ := h
    rw [h.length, hl, hn]
  · obtain ⟨Rs, F, r, st, ds, hH, hk, hl, hP⟩ := h
    obtain ⟨t, p, q⟩ := (hbody A outer sh H E hr).ex
    refine ⟨t, p, q Rs F H r _ _ st _ hH (EnvOk.start hk) ?_⟩
    unfold funD at hP
    cases eb : b (List.map some ds ++ List.replicate (N.length - ds.length) none) st with
    | nx e s' => rw [eb] at hP; exact fun F' H' r' sg' s1 x1 h1 k1 => hP F' H' r' .non s1 x1 h1 .non
    | rt d s' => rw [eb] at hP; exact hP
    | bk e s' => rw [eb] at hP; exact hP.elim
    | ct e s' => rw [eb] at hP; exact hP.elim
    | exc c p s' => rw [eb] at hP; exact hP
    | bad => rw [eb] at hP; exact hP.elim
theorem maker_of {N : List Str} {qual : Str} {sc : Scope} {f c P' : Addr} {A : Around} {outer : List PySem.Env} {sh : Shared} {H : Hp} {q : Str} (TB : LamX.TabB base mg c P') (hW : W.tabs = [(P', q)]) : Maker W (cxOf (L2.CX P w) P w W.K mg base N qual sc f (.ref c) A outer sh H E) q :=
  ⟨c, P', TB, rfl, by rw [hW]; exact List.mem_singleton.mpr rfl, fun p hp _ => by rw [hW] at hp; rw [List.mem_singleton.mp hp]⟩
end
theorem kit_own {K : PySem.W.Frag} {D C : Addr} {b : Bool} (h1 : PySem.W.isClsIn K C = true) (h2 : PySem.W.typeIn K (.ref C) = some (.type "type")) (h3 : PySem.W.subIn K (.ref D) (.ref C) = some b) (h4 : PySem.W.subIn K (.ref C) (.ref C) = some true) : PySem.W.kitOne K (.ref D) (.ref C) = some b := by
  unfold PySem.W.kitOne
  split
  · rename_i e
    have e' : D = C := Value.ref.inj (beq_iff_eq.mp e)
    rw [e', h4] at h3
    exact h3
  · have h1' : (PySem.W.clsIn K C).isSome = true := h1
    show (if ((PySem.W.clsIn K C).isSome && PySem.W.typeIn K (.ref C) == some (.type "type")) = true then PySem.W.subIn K (.ref D) (.ref C) else none) = some b
    rw [if_pos (by rw [h1', h2]; rfl)]
    exact h3
theorem kit_val {K : PySem.W.Frag} {D : Addr} {b : Bool} (h3 : PySem.W.subIn K (.ref D) (.type "ValueError") = some b) : PySem.W.kitOne K (.ref D) (.type "ValueError") = some b := by
  unfold PySem.W.kitOne
  rw [if_neg (by intro z; have := beq_iff_eq.mp z; cases this)]
  show (if PySem.W.kitMeta "ValueError" = true then PySem.W.subIn K (.ref D) (.type "ValueError") else none) = some b
  rw [if_pos (by decide +kernel)]
  exact h3
/-- the end of a law whose own def makes lambdas -/
theorem law_walkT {l : PySem.W.OpenLaw} {n k : Nat} {q : Program} {loose : List Str} {XP : (Str → Option Value) → Heap → Prop} {YP : World → Heap → Prop} {d : DefRec} {K : Params → PySem.W.Frag} {x : Str} (hn : l.most = some n) (hn2 : n ≤ sizeLine) (hdf : d.params.defaults = []) (hr : Room k callerA)
    (hrec : ((PyProof.Rows.recsOf q).any fun e => e.name == d.name) = true) (hL : ∀ w : World, noList (K w.params)) (hY : ∀ (w : World) (h : Heap), YP w h → (K w.params).In h)
    (F : ∀ (w : World) (mg : Str → Option Value) (fa : Addr) (h : Heap), (K w.params).In h → h.Ns mainGlobals mg → mg d.name = some (.ref fa) → LamX.OwnTab (K w.params) fa h →
      ∃ (fd : FuncData) (c P : Addr), h.get? P = some { cls := .none, data := .fields #[] } ∧ (K w.params).lookup P = none ∧ PySem.W.CodeHd h c P ∧ (∀ (s : Shared) (u : Value), BindsTo s fd ⟨[u], []⟩ [(x, u)]) ∧
        ∀ base : Heap, (K w.params).In base → base.Ns mainGlobals mg → LamX.TabB base mg c P → FnOk l.prog w (K w.params) mg base (L2.CX l.prog w) k fa fd [x] (spLawT [P] n)) :
    PySem.W.WalkO q loose XP YP l.row.toRowW d [] (fun f vs => PySem.call f vs) := by
  refine LamX.walk_ofOwn (n := n) (k := k) (x := x) (CX := fun w => L2.CX l.prog w) hn hn2 hdf hr hrec hY (fun w mg fa h Y KX G hmg OT => ?_) fun w H s e s1 h => by
    obtain ⟨_, _, _, _, _, _, _, _, _, _, _, z⟩ := h
    exact z.2
  obtain ⟨fd, c, P, h1, h2, h3, h4, h5⟩ := F w mg fa h KX G hmg OT
  refine ⟨fd, [(c, P)], spLawT [P] n, ?_, ?_, ?_, h4, fun H a ns hl hbits hT hS => ?_, fun base a b hTB => h5 base a b (hTB (c, P) (List.mem_singleton.mpr rfl))⟩
  · intro p hp; rw [List.mem_singleton.mp hp]; exact h1
  · intro p hp; rw [List.mem_singleton.mp hp]; exact h2
  · intro p hp; rw [List.mem_singleton.mp hp]; exact h3
  · rcases hS with hS | ⟨o, its, m, e1, e2, _⟩
    · have hN : ScrAt H a ns := by
        rcases hS with hS | ⟨o, hS⟩
        · exact .inr hS
        · exact .inl ⟨o, hS⟩
      exact ⟨a, ns, rfl, hN, fun P' hP => by rw [List.mem_singleton.mp hP]; exact hT (c, P) (List.mem_singleton.mpr rfl), hl, fun _ => rfl⟩
    · exact absurd e2 (hL w a o e1)
end Dl
/-! ## DlSeq -/
/-! l.index(x). -/
namespace Dl
open PySem L2
def indexG : GM := fun st o ds => match ds with
  | [d] => match toP st 40 o, toP st 40 d with
    | some (.list ps), some q => match ps.findIdx? fun z => PyData.eqv z q with
      | some j => .ok (.int (j : Nat), st)
      | none => .bad
    | _, _ => .bad
  | _ => .bad
section
variable {W : Wd} {X : Cx} {E : XK}
theorem dm_index (hK : X.K = W.K) (hu : X.A.units + 65 < cLine) : DM W X "list.index" indexG := ⟨_, mt_indexD hu, fun Rs F H rr st v d vs ds Q E h ko k hP => by
  unfold indexG at hP
  split at hP
  · rename_i d0
    split at hP
    · rename_i ps q e1 e2
      split at hP
      · rename_i j ej
        cases k with
        | cons k kn =>
          rename_i v0 vs0
          cases kn
          obtain ⟨a1, a2, a3⟩ := toP_ok h _ _ _ _ ko e1
          obtain ⟨b1, b2, b3⟩ := toP_ok h _ _ _ _ k e2
          have hj := List.findIdx?_eq_some_iff_getElem.mp ej
          obtain ⟨hl, hq, hn⟩ := hj
          have hv : ∃ a, v = V.ref a := by
            cases a1 with
            | lst _ _ => exact ⟨_, rfl⟩
          obtain ⟨a, rfl⟩ := hv
          rw [hK]
          refine ⟨a, _, q, ps, j, ps[j], rfl, rfl, a1, b1, shaped_of a2 a3, shaped_of b2 b3, by simp [hl], hq, fun m z' hm hz => ?_, onE_here h (.int _) hP⟩
          have hml : m < ps.length := by omega
          have := hn m hm
          rw [List.getElem?_eq_getElem hml] at hz
          cases hz
          simpa using this
      · exact hP.elim
    · exact hP.elim
  · exact hP.elim⟩
theorem hu65 {j : Nat} {A : Around} (hr : Room j A) : A.units + 65 < cLine := by
  have := hr.un
  omega
end
end Dl
/-! ## DlCnt -/
/-! l.count(x) over data. -/
namespace Dl
open PySem PySem.Spec PyProof.Rows L2
def countG : GM := fun st o ds => match ds with
  | [d] => match toP st 40 o, toP st 40 d with
    | some (.list ps), some q => .ok (.int ((ps.countP fun z => PyData.eqv z q : Nat) : Int), st)
    | _, _ => .bad
  | _ => .bad
section
variable {W : Wd} {X : Cx} {E : XK}
def rCountD (K : PySem.W.Frag) : V → List V → Hp → VK → Prop := fun x xs H Q => ∃ (a : Addr) (y : V) (d : PyData) (ds : List PyData), x = V.ref a ∧ xs = [y] ∧ Dp K H (V.ref a) (.list ds) ∧ Dp K H y d ∧ SeqAt.shaped (.list ds) = true ∧ SeqAt.shaped d = true ∧ Q (.int ((ds.countP fun z => PyData.eqv z d : Nat) : Int)) H
theorem list_obj {h : Heap} {a : Addr} {items : Array Value} (p : PlainL h a items) : ∃ d n sl, h.get? a = some ⟨.type "list", d, .seq items n, sl⟩ :=
  have ⟨o, n, e, c, _, k⟩ := p
  ⟨o.dict, n, o.slots, e.trans (by rw [← c, ← k])⟩
theorem count_read {h : Heap} {d : PyData} {ds : List PyData} {us : List Value} (e : us.map (SeqAt.readOf h) = ds) : us.toArray.toList.countP (fun u => PyData.eqv (SeqAt.readOf h u) d) = ds.countP fun z => PyData.eqv z d :=
  e ▸ (show us.countP (fun u => PyData.eqv (SeqAt.readOf h u) d) = _ from (List.countP_map (p := fun z => PyData.eqv z d) (f := SeqAt.readOf h) (l := us)).symm)
theorem mt_countD (hu : X.A.units + 65 < cLine) : MtR X "list.count" (rCountD X.K) := fun pins s σ H x xs v us Q I rx rxs ⟨a, y, d, ds, ex, exs, hl, hy, sl, sd, q⟩ => by
  subst ex exs
  match us, rxs, hl with
  | [uy], .cons ry .nil, .lst hs ha =>
    have ⟨its, rv, L, _⟩ := I.list hs
    have ⟨_, all⟩ := Dp.readsAll I ds _ its ha rv
    have ⟨_, one⟩ := Dp.reads I d y uy hy ry
    have ⟨_, _, _, ho⟩ := list_obj L
    have c1 := SeqAt.canLay_of_shaped sl
    have eq_ := SeqAt.items_eqAt (vs := its.toArray) all one c1 (SeqAt.canLay_of_shaped sd) (A := X.A) (room_in_shaped sd hu)
    cases (show v = Value.ref a from rx)
    refine call_meets PySem.F.slot_list_count ⟨_, ho, rfl⟩ PySem.F.entry_list_count (PySem.F.args_list_count_2 _ _) (SeqAt.list_countAt a its.toArray _ _ _ uy fun u => PyData.eqv (SeqAt.readOf s.heap u) d) ⟨ho, eq_, ?_⟩
    rw [count_read (SeqAt.readsAll_map ds its _ c1 all)]
    exact ⟨.int _, H, I.tok _, ⟨_, rfl⟩, q⟩
theorem dm_count (hK : X.K = W.K) (hu : X.A.units + 65 < cLine) : DM W X "list.count" countG := ⟨_, mt_countD hu, fun Rs F H rr st v d vs ds Q E h ko k hP => by
  unfold countG at hP
  split at hP
  · split at hP
    · rename_i ps q e1 e2
      match k with
      | .cons k .nil =>
        obtain ⟨a1, a2, a3⟩ := toP_ok h _ _ _ _ ko e1
        obtain ⟨b1, b2, b3⟩ := toP_ok h _ _ _ _ k e2
        cases a1 with
        | lst q1 q2 =>
          rw [hK]
          exact ⟨_, _, q, ps, rfl, rfl, .lst q1 q2, b1, shaped_of a2 a3, shaped_of b2 b3, onE_here h (.int _) hP⟩
    · exact hP.elim
  · exact hP.elim⟩
end
end Dl
/-! ## DlHm -/
/-! What _law_told answers for an exception (d_law_told_h printed by told.py). -/
namespace Dl
open PySem L2
/-- the suite of _law_told: 5 slots, e the second -/
def d_law_told_h (a : Addr) (c : Nat) (o : Option (Nat × Str × Int)) : SV := sCons (sAsg (eLst true (aCons (eIsX a o 1 (c == 1)) (aCons (eIsX a o 1 (c == 2)) (aCons (eIsX a o 1 (c == 3)) (aCons (eIsX a o 1 (c == 4)) (aNil)))))) (gN 2)) (sCons (sAsg (eOp (addG true) (eV 2) (eLst false (aCons (eIsX a o 1 (c == 5)) (aCons (eIsX a o 1 (c == 8)) (aCons (eIsX a o 1 (c == 9)) (aNil)))))) (gN 2)) (sCons (sAsg (eOp (addG true) (eV 2) (eLst false (aCons (eIsX a o 1 (c == 10)) (aCons (eIsX a o 1 (c == 11)) (aCons (eIsX a o 1 (c == 6)) (aNil)))))) (gN 2)) (sCons (sExpr (eMt "list" (appendG) (eV 2) (aCons (eIsX a o 1 (c == 7)) (aNil)))) (sCons (sIf (tOrD (tv (eOp (eqG true) (eMt "list" (countG) (eV 2) (aCons (eC (.bl true)) (aNil))) (eC (.int 1)))) (tNotD (tv (eIsX a o 1 true)))) (sRet (eTup (aCons (eC (.str [111, 116, 104, 101, 114])) (aCons (eC (.int 0)) (aNil))))) (sNext)) (sCons (sAsg (eLst false (aCons (eC (.str [66, 97, 100, 80, 97, 103, 101])) (aCons (eC (.str [66, 97, 100, 83, 116, 121, 108, 101])) (aCons (eC (.str [66, 97, 100, 82, 111, 119])) (aCons (eC (.str [66, 97, 100, 67, 101, 108, 108])) (aCons (eC (.str [66, 97, 100, 67, 111, 117, 110, 116])) (aCons (eC (.str [66, 97, 100, 76, 105, 110, 101, 115])) (aCons (eC (.str [66, 97, 100, 83, 116, 101, 112])) (aCons (eC (.str [66, 97, 100, 83, 116, 114, 111, 107, 101])) (aCons (eC (.str [66, 97, 100, 84, 101, 120, 116])) (aNil))))))))))) (gN 3)) (sCons (sAsg (eOp ixG (eOp (addG false) (eV 3) (eLst false (aCons (eC (.str [66, 97, 100, 72, 97, 110, 100])) (aCons (eC (.str [84, 111, 111, 77, 117, 99, 104])) (aNil))))) (eMt "list" (indexG) (eV 2) (aCons (eC (.bl true)) (aNil)))) (gN 4)) (sCons (sIf (tv (eOp (inG false) (eV 4) (eTup (aCons (eC (.str [66, 97, 100, 80, 97, 103, 101])) (aCons (eC (.str [66, 97, 100, 84, 101, 120, 116])) (aNil)))))) (sRet (eTup (aCons (eV 4) (aCons (eXf a o 1 "row") (aNil))))) (sNext)) (sCons (sIf (tv (eOp (eqG false) (eV 4) (eC (.str [66, 97, 100, 76, 105, 110, 101, 115])))) (sRet (eTup (aCons (eV 4) (aCons (eXf a o 1 "line") (aNil))))) (sNext)) (sRet (eTup (aCons (eV 4) (aCons (eIf (tv (eOp (inG false) (eV 4) (eTup (aCons (eC (.str [66, 97, 100, 83, 116, 101, 112])) (aCons (eC (.str [66, 97, 100, 83, 116, 114, 111, 107, 101])) (aNil)))))) (eXf a o 1 "number") (eC (.int 0))) (aNil)))))))))))))
/-- the class's name -/
def nameC : Nat → List Nat
  | 0 => [71, 114, 111, 119, 69, 114, 114, 111, 114]
  | 1 => [66, 97, 100, 80, 97, 103, 101]
  | 2 => [66, 97, 100, 83, 116, 121, 108, 101]
  | 3 => [66, 97, 100, 82, 111, 119]
  | 4 => [66, 97, 100, 67, 101, 108, 108]
  | 5 => [66, 97, 100, 67, 111, 117, 110, 116]
  | 6 => [66, 97, 100, 72, 97, 110, 100]
  | 7 => [84, 111, 111, 77, 117, 99, 104]
  | 8 => [66, 97, 100, 76, 105, 110, 101, 115]
  | 9 => [66, 97, 100, 83, 116, 101, 112]
  | 10 => [66, 97, 100, 83, 116, 114, 111, 107, 101]
  | 11 => [66, 97, 100, 84, 101, 120, 116]
  | _ => []
/-- the class's field -/
def payOf : Nat → Option Str
  | 1 => some "row" | 8 => some "line" | 9 => some "number" | 10 => some "number" | 11 => some "row" | _ => none
def kinds4 (c : Nat) : List D := [.bl (c == 1), .bl (c == 2), .bl (c == 3), .bl (c == 4)]
def kinds7 (c : Nat) : List D := kinds4 c ++ [.bl (c == 5), .bl (c == 8), .bl (c == 9)]
def kinds11 (c : Nat) : List D := kinds7 c ++ [.bl (c == 10), .bl (c == 11), .bl (c == 6), .bl (c == 7)]
def hmT : Nat → Option D → Store → R (D × Store) := fun c p st => match payOf c, p with
  | some _, some (.int j) => .ok (.tup [.str (nameC c), .int j], st ++ [.lst (kinds4 c), .lst (kinds7 c), .lst (kinds11 c)])
  | none, none => .ok (.tup [.str (nameC c), .int 0], st ++ [.lst (kinds4 c), .lst (kinds7 c), .lst (kinds11 c)])
  | _, _ => .bad
def bs11 (c : Nat) : List Bool := [c == 1, c == 2, c == 3, c == 4, c == 5, c == 8, c == 9, c == 10, c == 11, c == 6, c == 7]
theorem hIx (ds : List D) (i : Int) (st : Store) : ixG st (.lst ds) (.int i) = R.of ((atI ds i).map fun x => (x, st)) := (rfl)
theorem optB (S : Store) (n : Nat) : ∀ bs : List Bool, optAll ((bs.map D.bl).map (toP S (n + 1))) = some (bs.map PyData.bool)
  | [] => rfl
  | b :: bs => by
    have h := optB S n bs
    have e : toP S (n + 1) (.bl b) = some (.bool b) := by simp [toP]
    rw [List.map_cons, List.map_cons, e]
    simp only [optAll, h]
    rfl
theorem toB {S : Store} {n : Nat} {bs : List Bool} (h : S[n]? = some (.lst (bs.map D.bl))) : toP S 40 (.ref n) = some (.list (bs.map .bool)) := by
  show (match S[n]? with
    | some (.lst ds) => (match optAll (ds.map (toP S 39)) with | some ps => some (PyData.list ps) | none => none)
    | _ => _) = _
  rw [h]
  show (match optAll ((bs.map D.bl).map (toP S 39)) with | some ps => some (PyData.list ps) | none => none) = _
  rw [optB S 38 bs]
theorem eqvB (b : Bool) : PyData.eqv (.bool b) (.bool true) = b := by cases b <;> rfl
theorem cntB {S : Store} {n : Nat} {bs : List Bool} (h : S[n]? = some (.lst (bs.map D.bl))) : countG S (.ref n) [.bl true] = .ok (.int ((bs.countP id : Nat) : Int), S) := by
  show (match toP S 40 (.ref n), toP S 40 (.bl true) with
    | some (.list ps), some q => (.ok (.int ((ps.countP fun z => PyData.eqv z q : Nat) : Int), S) : R (D × Store))
    | _, _ => .bad) = _
  rw [toB h]
  show (R.ok (D.int ((bs.map PyData.bool).countP (fun z => PyData.eqv z (.bool true)) : Nat), S) : R (D × Store)) = _
  rw [List.countP_map]
  have : ((fun z => PyData.eqv z (.bool true)) ∘ PyData.bool) = id := funext fun b => eqvB b
  rw [this]
theorem idxB {S : Store} {n j : Nat} {bs : List Bool} (h : S[n]? = some (.lst (bs.map D.bl))) (hj : bs.findIdx? id = some j) : indexG S (.ref n) [.bl true] = .ok (.int j, S) := by
  show (match toP S 40 (.ref n), toP S 40 (.bl true) with
    | some (.list ps), some q => (match ps.findIdx? fun z => PyData.eqv z q with
      | some j => (.ok (.int (j : Nat), S) : R (D × Store))
      | none => .bad)
    | _, _ => .bad) = _
  rw [toB h]
  show (match (bs.map PyData.bool).findIdx? (fun z => PyData.eqv z (.bool true)) with
      | some j => (.ok (.int (j : Nat), S) : R (D × Store))
      | none => .bad) = _
  rw [List.findIdx?_map]
  have : ((fun z => PyData.eqv z (.bool true)) ∘ PyData.bool) = id := funext fun b => eqvB b
  rw [this, hj]
theorem hmT_ok {W : Wd} (c : Nat) (hc : c ∈ [1, 2, 3, 4, 5, 6, 7, 8, 9, 10, 11]) (hp : W.pay c = payOf c) (a : Addr) (o : Option (Nat × Str × Int)) (p : Option D) (st : Store) (hr : PayRel W c p o) :
    hmT c p st = .bad ∨ ∃ d st', hmT c p st = .ok (d, st') ∧ d_law_told_h a c o ((List.replicate 5 none).set 1 (some (.exn a o))) st = .rt d st' := by
  have key : (p = none ∧ o = none) ∨ ∃ dd f j, p = some (.int j) ∧ o = some (dd, f, j) ∧ payOf c = some f := by
    match p, o, hr with
    | none, none, _ => exact .inl ⟨rfl, rfl⟩
    | some (.int j), some (dd, f, _), ⟨rfl, e⟩ => exact .inr ⟨dd, f, j, rfl, rfl, by rw [← hp]; exact e⟩
  simp only [List.mem_cons, List.not_mem_nil, or_false] at hc
  rcases key with ⟨rfl, rfl⟩ | ⟨dd, f, j, rfl, rfl, ef⟩
  · rcases hc with rfl | rfl | rfl | rfl | rfl | rfl | rfl | rfl | rfl | rfl | rfl
    · exact .inl rfl
    · refine .inr ⟨_, _, rfl, ?_⟩
      have cn := cntB (S := st ++ [.lst (kinds4 2), .lst (kinds7 2), .lst (kinds11 2)]) (n := st.length + 2) (bs := bs11 2) (by simp [kinds4, kinds7, kinds11, bs11])
      have ix := idxB (S := st ++ [.lst (kinds4 2), .lst (kinds7 2), .lst (kinds11 2)]) (n := st.length + 2) (j := 1) (bs := bs11 2) (by simp [kinds4, kinds7, kinds11, bs11]) (by decide +kernel)
      simp [kinds4, kinds7, kinds11, bs11] at cn ix
      rw [d_law_told_h]
      simp [kinds4, kinds7, kinds11, nameC, LIM, tyM, addG, newL, lstOf, appendG, cn, ix, hIx, atI, ixN, inG, seqOf, flatD, eqFl, List.getElem?_append]
    · refine .inr ⟨_, _, rfl, ?_⟩
      have cn := cntB (S := st ++ [.lst (kinds4 3), .lst (kinds7 3), .lst (kinds11 3)]) (n := st.length + 2) (bs := bs11 3) (by simp [kinds4, kinds7, kinds11, bs11])
      have ix := idxB (S := st ++ [.lst (kinds4 3), .lst (kinds7 3), .lst (kinds11 3)]) (n := st.length + 2) (j := 2) (bs := bs11 3) (by simp [kinds4, kinds7, kinds11, bs11]) (by decide +kernel)
      simp [kinds4, kinds7, kinds11, bs11] at cn ix
      rw [d_law_told_h]
      simp [kinds4, kinds7, kinds11, nameC, LIM, tyM, addG, newL, lstOf, appendG, cn, ix, hIx, atI, ixN, inG, seqOf, flatD, eqFl, List.getElem?_append]
    · refine .inr ⟨_, _, rfl, ?_⟩
      have cn := cntB (S := st ++ [.lst (kinds4 4), .lst (kinds7 4), .lst (kinds11 4)]) (n := st.length + 2) (bs := bs11 4) (by simp [kinds4, kinds7, kinds11, bs11])
      have ix := idxB (S := st ++ [.lst (kinds4 4), .lst (kinds7 4), .lst (kinds11 4)]) (n := st.length + 2) (j := 3) (bs := bs11 4) (by simp [kinds4, kinds7, kinds11, bs11]) (by decide +kernel)
      simp [kinds4, kinds7, kinds11, bs11] at cn ix
      rw [d_law_told_h]
      simp [kinds4, kinds7, kinds11, nameC, LIM, tyM, addG, newL, lstOf, appendG, cn, ix, hIx, atI, ixN, inG, seqOf, flatD, eqFl, List.getElem?_append]
    · refine .inr ⟨_, _, rfl, ?_⟩
      have cn := cntB (S := st ++ [.lst (kinds4 5), .lst (kinds7 5), .lst (kinds11 5)]) (n := st.length + 2) (bs := bs11 5) (by simp [kinds4, kinds7, kinds11, bs11])
      have ix := idxB (S := st ++ [.lst (kinds4 5), .lst (kinds7 5), .lst (kinds11 5)]) (n := st.length + 2) (j := 4) (bs := bs11 5) (by simp [kinds4, kinds7, kinds11, bs11]) (by decide +kernel)
      simp [kinds4, kinds7, kinds11, bs11] at cn ix
      rw [d_law_told_h]
      simp [kinds4, kinds7, kinds11, nameC, LIM, tyM, addG, newL, lstOf, appendG, cn, ix, hIx, atI, ixN, inG, seqOf, flatD, eqFl, List.getElem?_append]
    · refine .inr ⟨_, _, rfl, ?_⟩
      have cn := cntB (S := st ++ [.lst (kinds4 6), .lst (kinds7 6), .lst (kinds11 6)]) (n := st.length + 2) (bs := bs11 6) (by simp [kinds4, kinds7, kinds11, bs11])
      have ix := idxB (S := st ++ [.lst (kinds4 6), .lst (kinds7 6), .lst (kinds11 6)]) (n := st.length + 2) (j := 9) (bs := bs11 6) (by simp [kinds4, kinds7, kinds11, bs11]) (by decide +kernel)
      simp [kinds4, kinds7, kinds11, bs11] at cn ix
      rw [d_law_told_h]
      simp [kinds4, kinds7, kinds11, nameC, LIM, tyM, addG, newL, lstOf, appendG, cn, ix, hIx, atI, ixN, inG, seqOf, flatD, eqFl, List.getElem?_append]
    · refine .inr ⟨_, _, rfl, ?_⟩
      have cn := cntB (S := st ++ [.lst (kinds4 7), .lst (kinds7 7), .lst (kinds11 7)]) (n := st.length + 2) (bs := bs11 7) (by simp [kinds4, kinds7, kinds11, bs11])
      have ix := idxB (S := st ++ [.lst (kinds4 7), .lst (kinds7 7), .lst (kinds11 7)]) (n := st.length + 2) (j := 10) (bs := bs11 7) (by simp [kinds4, kinds7, kinds11, bs11]) (by decide +kernel)
      simp [kinds4, kinds7, kinds11, bs11] at cn ix
      rw [d_law_told_h]
      simp [kinds4, kinds7, kinds11, nameC, LIM, tyM, addG, newL, lstOf, appendG, cn, ix, hIx, atI, ixN, inG, seqOf, flatD, eqFl, List.getElem?_append]
    · exact .inl rfl
    · exact .inl rfl
    · exact .inl rfl
    · exact .inl rfl
  · rcases hc with rfl | rfl | rfl | rfl | rfl | rfl | rfl | rfl | rfl | rfl | rfl
    · cases ef
      refine .inr ⟨_, _, rfl, ?_⟩
      have cn := cntB (S := st ++ [.lst (kinds4 1), .lst (kinds7 1), .lst (kinds11 1)]) (n := st.length + 2) (bs := bs11 1) (by simp [kinds4, kinds7, kinds11, bs11])
      have ix := idxB (S := st ++ [.lst (kinds4 1), .lst (kinds7 1), .lst (kinds11 1)]) (n := st.length + 2) (j := 0) (bs := bs11 1) (by simp [kinds4, kinds7, kinds11, bs11]) (by decide +kernel)
      simp [kinds4, kinds7, kinds11, bs11] at cn ix
      rw [d_law_told_h]
      simp [kinds4, kinds7, kinds11, nameC, LIM, tyM, addG, newL, lstOf, appendG, cn, ix, hIx, atI, ixN, inG, seqOf, flatD, eqFl, List.getElem?_append]
    · exact .inl rfl
    · exact .inl rfl
    · exact .inl rfl
    · exact .inl rfl
    · exact .inl rfl
    · exact .inl rfl
    · cases ef
      refine .inr ⟨_, _, rfl, ?_⟩
      have cn := cntB (S := st ++ [.lst (kinds4 8), .lst (kinds7 8), .lst (kinds11 8)]) (n := st.length + 2) (bs := bs11 8) (by simp [kinds4, kinds7, kinds11, bs11])
      have ix := idxB (S := st ++ [.lst (kinds4 8), .lst (kinds7 8), .lst (kinds11 8)]) (n := st.length + 2) (j := 5) (bs := bs11 8) (by simp [kinds4, kinds7, kinds11, bs11]) (by decide +kernel)
      simp [kinds4, kinds7, kinds11, bs11] at cn ix
      rw [d_law_told_h]
      simp [kinds4, kinds7, kinds11, nameC, LIM, tyM, addG, newL, lstOf, appendG, cn, ix, hIx, atI, ixN, inG, seqOf, flatD, eqFl, List.getElem?_append]
    · cases ef
      refine .inr ⟨_, _, rfl, ?_⟩
      have cn := cntB (S := st ++ [.lst (kinds4 9), .lst (kinds7 9), .lst (kinds11 9)]) (n := st.length + 2) (bs := bs11 9) (by simp [kinds4, kinds7, kinds11, bs11])
      have ix := idxB (S := st ++ [.lst (kinds4 9), .lst (kinds7 9), .lst (kinds11 9)]) (n := st.length + 2) (j := 6) (bs := bs11 9) (by simp [kinds4, kinds7, kinds11, bs11]) (by decide +kernel)
      simp [kinds4, kinds7, kinds11, bs11] at cn ix
      rw [d_law_told_h]
      simp [kinds4, kinds7, kinds11, nameC, LIM, tyM, addG, newL, lstOf, appendG, cn, ix, hIx, atI, ixN, inG, seqOf, flatD, eqFl, List.getElem?_append]
    · cases ef
      refine .inr ⟨_, _, rfl, ?_⟩
      have cn := cntB (S := st ++ [.lst (kinds4 10), .lst (kinds7 10), .lst (kinds11 10)]) (n := st.length + 2) (bs := bs11 10) (by simp [kinds4, kinds7, kinds11, bs11])
      have ix := idxB (S := st ++ [.lst (kinds4 10), .lst (kinds7 10), .lst (kinds11 10)]) (n := st.length + 2) (j := 7) (bs := bs11 10) (by simp [kinds4, kinds7, kinds11, bs11]) (by decide +kernel)
      simp [kinds4, kinds7, kinds11, bs11] at cn ix
      rw [d_law_told_h]
      simp [kinds4, kinds7, kinds11, nameC, LIM, tyM, addG, newL, lstOf, appendG, cn, ix, hIx, atI, ixN, inG, seqOf, flatD, eqFl, List.getElem?_append]
    · cases ef
      refine .inr ⟨_, _, rfl, ?_⟩
      have cn := cntB (S := st ++ [.lst (kinds4 11), .lst (kinds7 11), .lst (kinds11 11)]) (n := st.length + 2) (bs := bs11 11) (by simp [kinds4, kinds7, kinds11, bs11])
      have ix := idxB (S := st ++ [.lst (kinds4 11), .lst (kinds7 11), .lst (kinds11 11)]) (n := st.length + 2) (j := 8) (bs := bs11 11) (by simp [kinds4, kinds7, kinds11, bs11]) (by decide +kernel)
      simp [kinds4, kinds7, kinds11, bs11] at cn ix
      rw [d_law_told_h]
      simp [kinds4, kinds7, kinds11, nameC, LIM, tyM, addG, newL, lstOf, appendG, cn, ix, hIx, atI, ixN, inG, seqOf, flatD, eqFl, List.getElem?_append]
end Dl
/-! ## DlTxt -/
/-! More of texts: ljust. -/
namespace Dl
open PySem L2
def ljustL (s : List Nat) (i : Int) : List Nat := s ++ List.replicate (i.toNat - s.length) 32
def ljustG : GM := fun st o ds => match o, ds with
  | .str s, [.int i] => if -1000000 ≤ i ∧ i ≤ 1000000 then .ok (.str (ljustL s i), st) else .bad
  | _, _ => .bad
theorem ljust_mk (s : List Nat) (i : Int) : Txt.ljust ⟨s.toArray⟩ i = ⟨(ljustL s i).toArray⟩ := by
  have hl : (⟨s.toArray⟩ : Str).length = s.length := by simp [Str.length]
  unfold Txt.ljust ljustL
  rw [hl]
  by_cases h : i ≤ s.length
  · rw [if_pos h, show i.toNat - s.length = 0 by omega]
    simp
  · rw [if_neg h]
    unfold Builtin.Str.padded
    congr 1
    apply Array.ext'
    simp
section
variable {W : Wd} {X : Cx} {E : XK}
theorem dm_ljust : DM W X "str.ljust" ljustG := ⟨_, mt_ljust, fun Rs F H rr st v d vs ds Q E h ko k hP => by
  unfold ljustG at hP
  split at hP
  · rename_i s i
    match k with
    | .cons k .nil =>
      cases k
      split at hP
      · rename_i hi
        cases ko with
        | str s hs hsl =>
          have ok : PadOk i = true := by
            unfold PadOk fitsSsize Builtin.Str.tooLong
            have h1 : ¬ i < -(2 ^ 63 : Int) := by omega
            have h2 : ¬ i ≥ (2 ^ 63 : Int) := by omega
            have h3 : ¬ i.toNat > sizeLine := by rw [sizeLine_eq]; omega
            simp [h1, h2, h3]
            omega
          refine ⟨_, i, rfl, rfl, ok, ?_⟩
          rw [ljust_mk]
          refine onE_here h (.str _ ?_ ?_) hP
          · unfold ljustL
            rw [List.all_append, hs, Bool.true_and, List.all_eq_true]
            intro c hc
            rw [(List.mem_replicate.mp hc).2]; decide
          · unfold ljustL LIM at *
            rw [List.length_append, List.length_replicate]
            omega
      · exact hP.elim
  · exact hP.elim⟩
end
end Dl
/-! ## DlStrip -/
/-! s.strip(t), s.rstrip(t). -/
namespace Dl
open PySem PySem.Spec PySem.Builtin.Str L2
/-- what stands behind the first signs of p -/
def lcut (p : Nat → Bool) (s : List Nat) : List Nat := s.drop (s.takeWhile p).length
def rcut (p : Nat → Bool) (s : List Nat) : List Nat := s.take (s.length - (s.reverse.takeWhile p).length)
def stripL (t s : List Nat) : List Nat := rcut (fun c => t.contains c) (lcut (fun c => t.contains c) s)
def rstripL (t s : List Nat) : List Nat := rcut (fun c => t.contains c) s
def stripG : GM := fun st o ds => match o, ds with
  | .str s, [.str t] => .ok (.str (stripL t s), st)
  | _, _ => .bad
def rstripG : GM := fun st o ds => match o, ds with
  | .str s, [.str t] => .ok (.str (rstripL t s), st)
  | _, _ => .bad
theorem has_mk (t : List Nat) : (⟨t.toArray⟩ : Str).cps.contains = fun c => t.contains c := by
  funext c
  simp
theorem sub_mk (s : List Nat) (i j : Nat) : strSub ⟨s.toArray⟩ i j = ⟨((s.drop i).take (j - i)).toArray⟩ := TL.ext_tl (by
  show (strSub ⟨s.toArray⟩ i j).cps.toList = _
  simp [strSub, TL.tl])
theorem strip_mk (s t : List Nat) : Txt.stripChars ⟨s.toArray⟩ ⟨t.toArray⟩ = ⟨(stripL t s).toArray⟩ := by
  unfold Txt.stripChars
  rw [PyProof.Rows.stripBy_eq, has_mk, sub_mk]
  unfold stripLo stripHi stripL rcut lcut
  rw [if_pos rfl, if_pos rfl, len_mk]
  show (⟨((s.drop (s.takeWhile _).length).take (s.length - ((s.drop (s.takeWhile _).length).reverse.takeWhile _).length - (s.takeWhile _).length)).toArray⟩ : Str) = _
  rw [List.length_drop]
  congr 3
  omega
theorem rstrip_mk (s t : List Nat) : Txt.rstripChars ⟨s.toArray⟩ ⟨t.toArray⟩ = ⟨(rstripL t s).toArray⟩ := by
  unfold Txt.rstripChars
  rw [PyProof.Rows.stripBy_eq, has_mk, sub_mk]
  unfold stripLo stripHi rstripL rcut
  rw [len_mk]
  rfl
theorem lcut_sub (p : Nat → Bool) (s : List Nat) : ∀ c ∈ lcut p s, c ∈ s := fun c h => List.mem_of_mem_drop h
theorem rcut_sub (p : Nat → Bool) (s : List Nat) : ∀ c ∈ rcut p s, c ∈ s := fun c h => List.mem_of_mem_take h
theorem lcut_len (p : Nat → Bool) (s : List Nat) : (lcut p s).length ≤ s.length := by unfold lcut; rw [List.length_drop]; omega
theorem rcut_len (p : Nat → Bool) (s : List Nat) : (rcut p s).length ≤ s.length := by unfold rcut; rw [List.length_take]; omega
section
variable {W : Wd} {X : Cx} {E : XK}
theorem dm_strip : DM W X "str.strip" stripG := ⟨_, mt_stripChars, fun Rs F H rr st v d vs ds Q E h ko k hP => by
  unfold stripG at hP
  split at hP
  · rename_i s t
    match k with
    | .cons (.str _ _ _) .nil =>
      cases ko with
      | str s hs hsl =>
        refine ⟨_, _, rfl, rfl, by rw [len_mk]; exact lim_line hsl, ?_⟩
        rw [strip_mk]
        refine onE_here h (.str _ ?_ ?_) hP
        · exact List.all_eq_true.mpr fun c hc => List.all_eq_true.mp hs c (lcut_sub _ _ c (rcut_sub _ _ c hc))
        · exact Nat.le_trans (Nat.le_trans (rcut_len _ _) (lcut_len _ _)) hsl
  · exact hP.elim⟩
theorem dm_rstrip : DM W X "str.rstrip" rstripG := ⟨_, mt_rstripChars, fun Rs F H rr st v d vs ds Q E h ko k hP => by
  unfold rstripG at hP
  split at hP
  · rename_i s t
    match k with
    | .cons (.str _ _ _) .nil =>
      cases ko with
      | str s hs hsl =>
        refine ⟨_, _, rfl, rfl, by rw [len_mk]; exact lim_line hsl, ?_⟩
        rw [rstrip_mk]
        refine onE_here h (.str _ ?_ ?_) hP
        · exact List.all_eq_true.mpr fun c hc => List.all_eq_true.mp hs c (rcut_sub _ _ c hc)
        · exact Nat.le_trans (rcut_len _ _) hsl
  · exact hP.elim⟩
end
end Dl
/-! ## DLN -/
/-! The meanings of some defs (printed by pick.py). -/
namespace Dl
open PySem L2
/-- is_line: 2 slots, 1 parameters -/
def d_is_line (m_is_sign : FV) : SV := sRet (eAnd (eIs "str" (eV 0)) (eAnd (eOp leG (eB lenG (aCons (eV 0) (aNil))) (eC (.int 200))) (eOp (eqG false) (eLc false (iSeq (eV 0)) [1] (.one 1) (tNotD (tv (eCall 1 m_is_sign (aCons (eV 1) (aNil))))) (eV 1)) (eLst false (aNil)))))
/-- need_lines: 3 slots, 1 parameters -/
def d_need_lines (m_is_line : FV) : SV := sFor (iEn (aCons (eV 0) (aNil))) (gTp 2 (gsCons (gN 1) (gsCons (gN 2) (gsNil)))) (sIf (tOrD (tv (eOp geG (eV 1) (eC (.int 30)))) (tNotD (tv (eCall 1 m_is_line (aCons (eV 2) (aNil)))))) (sRaiseP 8 (eV 1)) (sNext))
end Dl
/-! ## B5 -/
/-! Runs of rows; objects in the store; while; data read through references. -/
namespace Dl
open PySem L2

/-! ### while -/
theorem while_at {t : TV} {b : SV} (I : Nat → Env → Store → Prop) (Q : Env → Store → Prop)
    (turn : ∀ n env st, I n env st → (t env st).to fun c st1 => if c = true then (b env st1).turn fun e s => ∃ m, m < n ∧ I m e s else Q env st1) :
    ∀ fuel n env st, n < fuel → I n env st → ∃ e s, whileGo t b fuel env st = .nx e s ∧ Q e s := by
  intro fuel
  induction fuel with
  | zero => intro n env st h; omega
  | succ fuel ih =>
    intro n env st h hI
    have z := turn n env st hI
    unfold whileGo
    cases q : t env st with
    | ok a =>
      obtain ⟨c, st1⟩ := a
      rw [q] at z
      simp only [to_ok] at z
      simp only [sOf_ok]
      cases c with
      | true =>
        simp only [if_true] at z ⊢
        obtain ⟨e, s, h1, m, h2, h3⟩ := turn_ex z
        obtain ⟨e', s', r1, r2⟩ := ih m e s (by omega) h3
        rcases h1 with h1 | h1 <;> rw [h1] <;> exact ⟨e', s', r1, r2⟩
      | false => exact ⟨env, st1, rfl, by simpa using z⟩
    | exc c p s => rw [q] at z; exact z.elim
    | bad => rw [q] at z; exact z.elim
theorem while_go {t : TV} {b : SV} {fuel n : Nat} {env : Env} {st : Store} {r : SR} (hw : whileGo t b fuel env st = r) (I : Nat → Env → Store → Prop) (Q : Env → Store → Prop) (hn : n < fuel) (h0 : I n env st)
    (turn : ∀ n env st, I n env st → (t env st).to fun c st1 => if c = true then (b env st1).turn fun e s => ∃ m, m < n ∧ I m e s else Q env st1) : ∃ e s, r = .nx e s ∧ Q e s := by
  subst hw; exact while_at I Q turn fuel n env st hn h0

/-! ### two lists, item by item -/
def All2 {A B : Type} (R : A → B → Prop) : List A → List B → Prop
  | [], [] => True
  | a :: as, b :: bs => R a b ∧ All2 R as bs
  | _, _ => False
theorem All2.len {A B : Type} {R : A → B → Prop} : ∀ {as : List A} {bs : List B}, All2 R as bs → as.length = bs.length
  | [], [], _ => rfl
  | a :: as, b :: bs, h => by simp [All2.len h.2]
  | [], _ :: _, h => h.elim
  | _ :: _, [], h => h.elim
theorem All2.imp {A B : Type} {R S : A → B → Prop} (k : ∀ a b, R a b → S a b) : ∀ {as : List A} {bs : List B}, All2 R as bs → All2 S as bs
  | [], [], _ => trivial
  | a :: as, b :: bs, h => ⟨k _ _ h.1, All2.imp k h.2⟩
  | [], _ :: _, h => h.elim
  | _ :: _, [], h => h.elim
theorem All2.app {A B : Type} {R : A → B → Prop} : ∀ {as as' : List A} {bs bs' : List B}, All2 R as bs → All2 R as' bs' → All2 R (as ++ as') (bs ++ bs')
  | [], _, [], _, _, k => k
  | a :: as, _, b :: bs, _, h, k => ⟨h.1, All2.app h.2 k⟩
  | [], _, _ :: _, _, h, _ => h.elim
  | _ :: _, _, [], _, h, _ => h.elim
theorem All2.get {A B : Type} {R : A → B → Prop} : ∀ {as : List A} {bs : List B} {i : Nat} {a : A}, All2 R as bs → as[i]? = some a → ∃ b, bs[i]? = some b ∧ R a b
  | a :: as, b :: bs, 0, x, h, e => by simp at e; subst e; exact ⟨b, rfl, h.1⟩
  | a :: as, b :: bs, i + 1, x, h, e => by simpa using All2.get h.2 (by simpa using e)
  | [], [], _, _, _, e => by simp at e
  | [], _ :: _, _, _, h, _ => h.elim
  | _ :: _, [], _, _, h, _ => h.elim
theorem All2.mapL {A B C : Type} {R : C → B → Prop} {f : A → C} : ∀ {as : List A} {bs : List B}, All2 (fun a b => R (f a) b) as bs → All2 R (as.map f) bs
  | [], [], _ => trivial
  | a :: as, b :: bs, h => ⟨h.1, All2.mapL h.2⟩
  | [], _ :: _, h => h.elim
  | _ :: _, [], h => h.elim

/-! ### data read through references -/
mutual
/-- d reads as the plain x -/
def Rd (st : Store) : D → D → Prop
  | d, .tup xs => ∃ ds, d = .tup ds ∧ Rds st ds xs
  | d, .lst xs => ∃ ds w, listOf st d = some (ds, w) ∧ Rds st ds xs
  | d, .non => d = .non
  | d, .bl b => d = .bl b
  | d, .int i => d = .int i
  | d, .str s => d = .str s
  | _, .ref _ => False
  | _, .scr _ => False
  | _, .exn _ _ => False
def Rds (st : Store) : List D → List D → Prop
  | [], [] => True
  | d :: ds, x :: xs => Rd st d x ∧ Rds st ds xs
  | _, _ => False
end
theorem rds_len {st : Store} : ∀ {ds xs : List D}, Rds st ds xs → ds.length = xs.length
  | [], [], _ => rfl
  | d :: ds, x :: xs, h => by
    rw [Rds] at h
    simp [rds_len h.2]
  | [], _ :: _, h => by simp [Rds] at h
  | _ :: _, [], h => by simp [Rds] at h
theorem rds_get {st : Store} : ∀ {ds xs : List D} {i : Nat} {x : D}, Rds st ds xs → xs[i]? = some x → ∃ d, ds[i]? = some d ∧ Rd st d x
  | d :: ds, x :: xs, 0, y, h, e => by
    rw [Rds] at h
    simp at e; subst e; exact ⟨d, rfl, h.1⟩
  | d :: ds, x :: xs, i + 1, y, h, e => by
    rw [Rds] at h
    simpa using rds_get h.2 (by simpa using e)
  | [], [], _, _, _, e => by simp at e
  | [], _ :: _, _, _, h, _ => by simp [Rds] at h
  | _ :: _, [], _, _, h, _ => by simp [Rds] at h
theorem rds_app {st : Store} : ∀ {ds ds' xs xs' : List D}, Rds st ds xs → Rds st ds' xs' → Rds st (ds ++ ds') (xs ++ xs')
  | [], _, [], _, _, k => k
  | d :: ds, _, x :: xs, _, h, k => by
    rw [Rds] at h
    simp only [List.cons_append]
    rw [Rds]
    exact ⟨h.1, rds_app h.2 k⟩
  | [], _, _ :: _, _, h, _ => by simp [Rds] at h
  | _ :: _, _, [], _, h, _ => by simp [Rds] at h
/-- what stays of the store -/
def Stays (st st' : Store) : Prop := ∀ (k : Nat) (ds : List D), st[k]? = some (.lst ds) → st'[k]? = some (.lst ds)
theorem listOf_stays {st st' : Store} (s : Stays st st') {d : D} {w : Wk} (h : listOf st d = some w) : listOf st' d = some w := by
  unfold listOf at h
  split at h
  · exact h
  · split at h
    · rename_i n ds e
      cases h
      have e' := s _ _ e
      simp [listOf, e']
    · cases h
  · cases h
mutual
theorem Rd.stays {st st' : Store} (s : Stays st st') : ∀ {x d : D}, Rd st d x → Rd st' d x
  | .tup xs, d, h => by
    rw [Rd] at h ⊢
    obtain ⟨ds, e, k⟩ := h
    exact ⟨ds, e, Rds.stays s k⟩
  | .lst xs, d, h => by
    rw [Rd] at h ⊢
    obtain ⟨ds, w, e, k⟩ := h
    exact ⟨ds, w, listOf_stays s e, Rds.stays s k⟩
  | .non, d, h => by rw [Rd] at h ⊢; exact h
  | .bl _, d, h => by rw [Rd] at h ⊢; exact h
  | .int _, d, h => by rw [Rd] at h ⊢; exact h
  | .str _, d, h => by rw [Rd] at h ⊢; exact h
  | .ref _, d, h => by rw [Rd] at h; exact h.elim
  | .scr _, d, h => by rw [Rd] at h; exact h.elim
  | .exn _ _, d, h => by rw [Rd] at h; exact h.elim
theorem Rds.stays {st st' : Store} (s : Stays st st') : ∀ {xs ds : List D}, Rds st ds xs → Rds st' ds xs
  | [], [], h => by rw [Rds] at h ⊢; trivial
  | x :: xs, d :: ds, h => by
    rw [Rds] at h ⊢
    exact ⟨Rd.stays s h.1, Rds.stays s h.2⟩
  | [], _ :: _, h => by simp [Rds] at h
  | _ :: _, [], h => by simp [Rds] at h
end
theorem Stays.app (st more : Store) : Stays st (st ++ more) := fun k ds e => by
  have h := (List.getElem?_eq_some_iff.mp e).1
  rw [List.getElem?_append_left h]; exact e
theorem Stays.refl (st : Store) : Stays st st := fun _ _ e => e
theorem Stays.trans {a b c : Store} (x : Stays a b) (y : Stays b c) : Stays a c := fun k ds e => y k ds (x k ds e)
mutual
/-- plain, truth values too -/
def D.pk : D → Bool
  | .tup ds => D.pks ds
  | .lst ds => D.pks ds
  | .ref _ => false
  | .scr _ => false
  | .exn _ _ => false
  | _ => true
def D.pks : List D → Bool
  | [] => true
  | d :: ds => D.pk d && D.pks ds
end
mutual
theorem rd_self {st : Store} : ∀ {x : D}, D.pk x = true → Rd st x x
  | .tup xs, h => by
    rw [D.pk] at h
    rw [Rd]; exact ⟨xs, rfl, rds_self h⟩
  | .lst xs, h => by
    rw [D.pk] at h
    rw [Rd]; exact ⟨xs, [], rfl, rds_self h⟩
  | .non, _ => by rw [Rd]
  | .bl _, _ => by rw [Rd]
  | .int _, _ => by rw [Rd]
  | .str _, _ => by rw [Rd]
  | .ref _, h => by simp [D.pk] at h
  | .scr _, h => by simp [D.pk] at h
  | .exn _ _, h => by simp [D.pk] at h
theorem rds_self {st : Store} : ∀ {xs : List D}, D.pks xs = true → Rds st xs xs
  | [], _ => by rw [Rds]; trivial
  | x :: xs, h => by
    simp only [D.pks, Bool.and_eq_true] at h
    rw [Rds]
    exact ⟨rd_self h.1, rds_self h.2⟩
end

/-! ### alike, by what is read -/
theorem alike_list2 {n : Nat} {f g : D} {ds es : List D} {w w' : List (Nat × List D)} {st : Store} (hf : listOf st f = some (ds, w)) (hg : listOf st g = some (es, w')) (hl : es.length ≤ 1000000) (he : ds.length = es.length)
    (h : ∀ (i : Nat) (d e : D), ds[i]? = some d → es[i]? = some e → l_law_alike n [d, e] st = .ok (.bl true, st)) : l_law_alike (n + 1) [f, g] st = .ok (.bl true, st) := by
  rw [l_law_alike]
  unfold funD d_law_alike
  have m1 : -1000000 ≤ (es.length : Int) ∧ (es.length : Int) ≤ 1000000 := by omega
  simp [is_list hg, ty_list hg, ty_list hf, subTy, len_list hf, len_list hg, m1, he]
  generalize q : forGo _ _ _ _ _ _ = r
  obtain ⟨e, s, rfl, rfl, a, rfl⟩ := for_at q (fun i env st' => st' = st ∧ ∃ a, env = [some f, some g, a]) ⟨rfl, _, rfl⟩ (fun _ _ _ _ _ => rfl) (fun i x env st' hi ⟨e1, a, e2⟩ => by
    subst e1 e2
    obtain ⟨hi, rfl⟩ := ints_get hi
    have hd : ds[i]? = some ds[i] := by simp
    have hee : es[i]? = some es[i] := by simp
    have z := h i _ _ hd hee
    simp [ix_list hf, ix_list hg, atI_nat, hd, hee, z])
  simp
theorem alike_tup2 {n : Nat} {ds es : List D} {st : Store} (hl : es.length ≤ 1000000) (he : ds.length = es.length)
    (h : ∀ (i : Nat) (d e : D), ds[i]? = some d → es[i]? = some e → l_law_alike n [d, e] st = .ok (.bl true, st)) : l_law_alike (n + 1) [.tup ds, .tup es] st = .ok (.bl true, st) := by
  rw [l_law_alike]
  unfold funD d_law_alike
  have m1 : -1000000 ≤ (es.length : Int) ∧ (es.length : Int) ≤ 1000000 := by omega
  simp [isG, tyOf, subTy, lenG, m1, he]
  generalize q : forGo _ _ _ _ _ _ = r
  obtain ⟨e, s, rfl, rfl, a, rfl⟩ := for_at q (fun i env st' => st' = st ∧ ∃ a, env = [some (.tup ds), some (.tup es), a]) ⟨rfl, _, rfl⟩ (fun _ _ _ _ _ => rfl) (fun i x env st' hi ⟨e1, a, e2⟩ => by
    subst e1 e2
    obtain ⟨hi, rfl⟩ := ints_get hi
    have hd : ds[i]? = some ds[i] := by simp
    have hee : es[i]? = some es[i] := by simp
    have z := h i _ _ hd hee
    simp [ixG, atI_nat, hd, hee, z])
  simp
mutual
/-- no list of it is too long -/
def D.sm : D → Bool
  | .tup ds => decide (ds.length ≤ 1000000) && D.sms ds
  | .lst ds => decide (ds.length ≤ 1000000) && D.sms ds
  | _ => true
def D.sms : List D → Bool
  | [] => true
  | d :: ds => D.sm d && D.sms ds
end
theorem sms_get : ∀ {ds : List D} {i : Nat} {d : D}, D.sms ds = true → ds[i]? = some d → D.sm d = true
  | d :: ds, 0, x, h, e => by
    simp only [D.sms, Bool.and_eq_true] at h
    simp at e; subst e; exact h.1
  | d :: ds, i + 1, x, h, e => by
    simp only [D.sms, Bool.and_eq_true] at h
    exact sms_get (i := i) h.2 (by simpa using e)
  | [], _, _, _, e => by simp at e
theorem dps_get : ∀ {ds : List D} {i : Nat} {d : D}, ds[i]? = some d → D.dp d ≤ D.dps ds := fun {ds i d} e => dps_le.mp (Nat.le_refl _) d (List.mem_of_getElem? e)
theorem alike_rd {st : Store} : ∀ (n : Nat) (x f g : D), Rd st f x → Rd st g x → D.sm x = true → D.dp x ≤ n → l_law_alike n [f, g] st = .ok (.bl true, st)
  | 0, x, _, _, _, _, _, h => by cases x <;> simp [D.dp] at h
  | n + 1, .non, f, g, hf, hg, _, _ => by
    rw [Rd] at hf hg
    subst hf hg
    rw [l_law_alike]
    unfold funD d_law_alike
    simp [isG]
  | n + 1, .bl b, f, g, hf, hg, _, _ => by
    rw [Rd] at hf hg
    subst hf hg
    rw [l_law_alike]
    unfold funD d_law_alike
    simp [isG, tyOf, subTy]
  | n + 1, .int i, f, g, hf, hg, _, _ => by
    rw [Rd] at hf hg
    subst hf hg
    rw [alike_int]; simp
  | n + 1, .str s, f, g, hf, hg, _, _ => by
    rw [Rd] at hf hg
    subst hf hg
    rw [alike_str]; simp
  | n + 1, .tup xs, f, g, hf, hg, hs, hd => by
    rw [Rd] at hf hg
    obtain ⟨ds, rfl, kf⟩ := hf
    obtain ⟨es, rfl, kg⟩ := hg
    simp only [D.sm, Bool.and_eq_true, decide_eq_true_eq] at hs
    rw [D.dp] at hd
    have l1 := rds_len kf
    have l2 := rds_len kg
    refine alike_tup2 (by omega) (by omega) fun i d e e1 e2 => ?_
    have hi : i < xs.length := by
      have := (List.getElem?_eq_some_iff.mp e1).1
      omega
    have ex : xs[i]? = some xs[i] := by simp
    obtain ⟨d', q1, r1⟩ := rds_get kf ex
    obtain ⟨e', q2, r2⟩ := rds_get kg ex
    rw [q1] at e1; cases e1
    rw [q2] at e2; cases e2
    have := dps_get ex
    exact alike_rd n _ _ _ r1 r2 (sms_get hs.2 ex) (by omega)
  | n + 1, .lst xs, f, g, hf, hg, hs, hd => by
    rw [Rd] at hf hg
    obtain ⟨ds, w, hf, kf⟩ := hf
    obtain ⟨es, w', hg, kg⟩ := hg
    simp only [D.sm, Bool.and_eq_true, decide_eq_true_eq] at hs
    rw [D.dp] at hd
    have l1 := rds_len kf
    have l2 := rds_len kg
    refine alike_list2 hf hg (by omega) (by omega) fun i d e e1 e2 => ?_
    have hi : i < xs.length := by
      have := (List.getElem?_eq_some_iff.mp e1).1
      omega
    have ex : xs[i]? = some xs[i] := by simp
    obtain ⟨d', q1, r1⟩ := rds_get kf ex
    obtain ⟨e', q2, r2⟩ := rds_get kg ex
    rw [q1] at e1; cases e1
    rw [q2] at e2; cases e2
    have := dps_get ex
    exact alike_rd n _ _ _ r1 r2 (sms_get hs.2 ex) (by omega)
  | n + 1, .ref _, f, g, hf, _, _, _ => by rw [Rd] at hf; exact hf.elim
  | n + 1, .scr _, f, g, hf, _, _, _ => by rw [Rd] at hf; exact hf.elim
  | n + 1, .exn _ _, f, g, hf, _, _, _ => by rw [Rd] at hf; exact hf.elim
end Dl
/-! ## D2 -/
/-! The meanings of some defs (printed by pick.py). -/
namespace Dl
open PySem L2
/-- law_mates: 5 slots, 3 parameters -/
def d_law_mates : SV := sCons (sPar 3 4 (aCons (eV 1) (aCons (eOp (addG false) (eV 1) (eC (.int 1))) (aNil)))) (sCons (whileGo (tAndD (tv (eOp gtG (eV 3) (eC (.int 0)))) (tv (eOp gtG (eB lenG (aCons (eOp ixG (eV 0) (eOp subG (eV 3) (eC (.int 1)))) (aNil))) (eOp (addG false) (eV 2) (eC (.int 1)))))) (sAsg (eOp subG (eV 3) (eC (.int 1))) (gN 3)) 100000) (sCons (whileGo (tAndD (tv (eOp ltG (eV 4) (eB lenG (aCons (eV 0) (aNil))))) (tv (eOp gtG (eB lenG (aCons (eOp ixG (eV 0) (eV 4)) (aNil))) (eOp (addG false) (eV 2) (eC (.int 1)))))) (sAsg (eOp (addG false) (eV 4) (eC (.int 1))) (gN 4)) 100000) (sRet (eTup (aCons (eV 3) (aCons (eV 4) (aNil)))))))
/-- law_wide: 7 slots, 4 parameters -/
def d_law_wide (m_law_mates : FV) : SV := sCons (sAsg (eCall 3 m_law_mates (aCons (eV 0) (aCons (eV 2) (aCons (eV 3) (aNil))))) (gTp 2 (gsCons (gN 4) (gsCons (gN 5) (gsNil))))) (sRet (eB maxG (aCons (eOp (addG false) (eLst false (aCons (eOp ixG (eV 1) (eC (.int 1))) (aNil))) (eLc false (iR2 (aCons (eV 4) (aCons (eV 5) (aNil)))) [6] (.one 6) (tYesD) (eOp (addG false) (eB lenG (aCons (eOp ixG (eOp ixG (eV 0) (eV 6)) (eV 3)) (aNil))) (eOp ixG (eV 1) (eC (.int 0)))))) (aNil))))
/-- law_figures: 3 slots, 1 parameters -/
def d_law_figures : SV := sCons (sAsg (eIf (tv (eOp (eqG false) (eSl false (eV 0) (poNone) (poSome (eC (.int 1)))) (eC (.str [45])))) (eSl false (eV 0) (poSome (eC (.int 1))) (poNone)) (eV 0)) (gN 1)) (sRet (eAnd (eOp (eqG true) (eV 1) (eC (.str []))) (eOp (eqG false) (eLc false (iSeq (eV 1)) [2] (.one 2) (tv (eOp (inG true) (eV 2) (eC (.str [48, 49, 50, 51, 52, 53, 54, 55, 56, 57])))) (eV 2)) (eLst false (aNil)))))
/-- law_turned: 8 slots, 3 parameters -/
def d_law_turned (m_law_mates : FV) (m_law_figures : FV) : SV := sCons (sAsg (eCall 3 m_law_mates (aCons (eV 0) (aCons (eV 1) (aCons (eV 2) (aNil))))) (gTp 2 (gsCons (gN 3) (gsCons (gN 4) (gsNil))))) (sCons (sAsg (eLc false (iR2 (aCons (eV 3) (aCons (eV 4) (aNil)))) [6] (.one 6) (tv (eOp (eqG true) (eOp ixG (eOp ixG (eV 0) (eV 6)) (eV 2)) (eC (.str [])))) (eOp ixG (eOp ixG (eV 0) (eV 6)) (eV 2))) (gN 5)) (sRet (eAnd (eOp (eqG true) (eV 5) (eLst false (aNil))) (eOp (eqG false) (eLc false (iSeq (eV 5)) [7] (.one 7) (tNotD (tv (eCall 1 m_law_figures (aCons (eV 7) (aNil))))) (eV 7)) (eLst false (aNil))))))
/-- law_due: 10 slots, 2 parameters -/
def d_law_due (m_law_mates : FV) (m_law_wide : FV) (m_law_turned : FV) : SV := sCons (sAsg (eLst true (aNil)) (gN 2)) (sCons (sFor (iR1 (aCons (eC (.int 5)) (aNil))) (gN 3) (sFor (iR1 (aCons (eB lenG (aCons (eV 0) (aNil))) (aNil))) (gN 4) (sIf (tAndD (tv (eOp gtG (eB lenG (aCons (eOp ixG (eV 0) (eV 4)) (aNil))) (eOp (addG false) (eV 3) (eC (.int 1))))) (tv (eOp (eqG false) (eOp ixG (eCall 3 m_law_mates (aCons (eV 0) (aCons (eV 4) (aCons (eV 3) (aNil))))) (eC (.int 0))) (eV 4)))) (sCons (sAsg (eOp ixG (eCall 3 m_law_mates (aCons (eV 0) (aCons (eV 4) (aCons (eV 3) (aNil))))) (eC (.int 1))) (gN 5)) (sCons (sAsg (eB maxG (aCons (eLc false (iR2 (aCons (eV 4) (aCons (eV 5) (aNil)))) [9] (.one 9) (tYesD) (eB lenG (aCons (eOp ixG (eOp ixG (eV 0) (eV 9)) (eV 3)) (aNil)))) (aNil))) (gN 6)) (sCons (sAsg (eLc false (iR2 (aCons (eV 4) (aCons (eV 5) (aNil)))) [9] (.one 9) (tAndD (tv (eOp (eqG false) (eB lenG (aCons (eOp ixG (eOp ixG (eV 0) (eV 9)) (eV 3)) (aNil))) (eV 6))) (tv (eOp gtG (eOp (addG false) (eV 6) (eOp ixG (eV 1) (eC (.int 0)))) (eOp ixG (eV 1) (eC (.int 1)))))) (eV 9)) (gN 7)) (sCons (sAsg (eCall 4 m_law_wide (aCons (eV 0) (aCons (eV 1) (aCons (eV 4) (aCons (eV 3) (aNil)))))) (gN 8)) (sExpr (eMt "list" (appendG) (eV 2) (aCons (eTup (aCons (eV 3) (aCons (eV 4) (aCons (eV 5) (aCons (eV 8) (aCons (eCall 3 m_law_turned (aCons (eV 0) (aCons (eV 4) (aCons (eV 3) (aNil))))) (aCons (eV 7) (aNil)))))))) (aNil)))))))) (sNext)))) (sRet (eV 2)))
/-- is_number: 3 slots, 3 parameters -/
def d_is_number : SV := sRet (eAnd (eIs "int" (eV 0)) (eAnd (eNot (eIs "bool" (eV 0))) (eChain leG leG (eV 1) (eV 0) (eV 2))))
/-- need_style: 1 slots, 1 parameters -/
def d_need_style (m_is_number : FV) : SV := sCons (sIf (tOrD (tNotD (tv (eIs "tuple" (eV 0)))) (tv (eOp (eqG true) (eB lenG (aCons (eV 0) (aNil))) (eC (.int 2))))) (sBad) (sNext)) (sIf (tOrD (tNotD (tv (eCall 3 m_is_number (aCons (eOp ixG (eV 0) (eC (.int 0))) (aCons (eC (.int 0)) (aCons (eC (.int 4)) (aNil))))))) (tNotD (tv (eCall 3 m_is_number (aCons (eOp ixG (eV 0) (eC (.int 1))) (aCons (eC (.int 0)) (aCons (eC (.int 12)) (aNil)))))))) (sBad) (sNext))
/-- Stretch_init: 4 slots, 4 parameters -/
def d_Stretch_init : SV := sCons (sFldD 12 "column" (eV 0) (eV 1)) (sCons (sFldD 12 "begin" (eV 0) (eV 2)) (sCons (sFldD 12 "end" (eV 0) (eOp (addG false) (eV 2) (eB lenG (aCons (eV 3) (aNil))))) (sFldD 12 "cells" (eV 0) (eV 3))))
/-- stretches_of: 9 slots, 4 parameters -/
def d_stretches_of (m_Stretch_init : FV) : SV := sCons (sAsg (eLst true (aNil)) (gN 4)) (sCons (sAsg (eC .non) (gN 5)) (sCons (sFor (iR2 (aCons (eV 2) (aCons (eOp (addG false) (eV 3) (eC (.int 1))) (aNil)))) (gN 6) (sCons (sAsg (eAnd (eOp ltG (eV 6) (eV 3)) (eOp gtG (eB lenG (aCons (eOp ixG (eV 0) (eV 6)) (aNil))) (eOp (addG false) (eV 1) (eC (.int 1))))) (gN 7)) (sCons (sIf (tAndD (tv (eV 7)) (tv (eOp (isG false) (eV 5) (eC .non)))) (sAsg (eV 6) (gN 5)) (sNext)) (sIf (tAndD (tNotD (tv (eV 7))) (tv (eOp (isG true) (eV 5) (eC .non)))) (sCons (sExpr (eMt "list" (appendG) (eV 4) (aCons (eMake 12 4 m_Stretch_init (aCons (eV 1) (aCons (eV 5) (aCons (eLc false (iR2 (aCons (eV 5) (aCons (eV 6) (aNil)))) [8] (.one 8) (tYesD) (eOp ixG (eOp ixG (eV 0) (eV 8)) (eV 1))) (aNil))))) (aNil)))) (sAsg (eC .non) (gN 5))) (sNext))))) (sRet (eV 4))))
/-- all_stretches: 3 slots, 1 parameters -/
def d_all_stretches (m_stretches_of : FV) : SV := sCons (sAsg (eLst true (aNil)) (gN 1)) (sCons (sFor (iR1 (aCons (eOp subG (eC (.int 6)) (eC (.int 1))) (aNil))) (gN 2) (sExpr (eMt "list" (extendG) (eV 1) (aCons (eCall 4 m_stretches_of (aCons (eV 0) (aCons (eV 2) (aCons (eC (.int 0)) (aCons (eB lenG (aCons (eV 0) (aNil))) (aNil)))))) (aNil))))) (sRet (eV 1)))
/-- Stretch_holders: 5 slots, 2 parameters -/
def d_Stretch_holders : SV := sCons (sAsg (eB maxG (aCons (eLc false (iSeq (eFld 12 "cells" (eV 0))) [3] (.one 3) (tYesD) (eB lenG (aCons (eV 3) (aNil)))) (aNil))) (gN 2)) (sCons (sIf (tv (eOp leG (eOp (addG false) (eV 2) (eOp ixG (eV 1) (eC (.int 0)))) (eOp ixG (eV 1) (eC (.int 1))))) (sRet (eLst true (aNil))) (sNext)) (sRet (eLc true (iR1 (aCons (eB lenG (aCons (eFld 12 "cells" (eV 0)) (aNil))) (aNil))) [4] (.one 4) (tv (eOp (eqG false) (eB lenG (aCons (eOp ixG (eFld 12 "cells" (eV 0)) (eV 4)) (aNil))) (eV 2))) (eOp (addG false) (eFld 12 "begin" (eV 0)) (eV 4)))))
/-- is_figures: 3 slots, 1 parameters -/
def d_is_figures : SV := sCons (sAsg (eIf (tv (eOp (eqG false) (eSl false (eV 0) (poNone) (poSome (eC (.int 1)))) (eC (.str [45])))) (eSl false (eV 0) (poSome (eC (.int 1))) (poNone)) (eV 0)) (gN 1)) (sRet (eAnd (eOp (eqG true) (eV 1) (eC (.str []))) (eOp (eqG false) (eLc false (iSeq (eV 1)) [2] (.one 2) (tv (eOp (inG true) (eV 2) (eC (.str [48, 49, 50, 51, 52, 53, 54, 55, 56, 57])))) (eV 2)) (eLst false (aNil)))))
/-- Stretch_is_right: 3 slots, 1 parameters -/
def d_Stretch_is_right (m_is_figures : FV) : SV := sCons (sAsg (eLc false (iSeq (eFld 12 "cells" (eV 0))) [2] (.one 2) (tv (eOp (eqG true) (eV 2) (eC (.str [])))) (eV 2)) (gN 1)) (sRet (eAnd (eOp (eqG true) (eV 1) (eLst false (aNil))) (eOp (eqG false) (eLc false (iSeq (eV 1)) [2] (.one 2) (tNotD (tv (eCall 1 m_is_figures (aCons (eV 2) (aNil))))) (eV 2)) (eLst false (aNil)))))
/-- Stretch_width: 3 slots, 2 parameters -/
def d_Stretch_width : SV := sRet (eB maxG (aCons (eOp ixG (eV 1) (eC (.int 1))) (aCons (eOp (addG false) (eB maxG (aCons (eLc false (iSeq (eFld 12 "cells" (eV 0))) [2] (.one 2) (tYesD) (eB lenG (aCons (eV 2) (aNil)))) (aNil))) (eOp ixG (eV 1) (eC (.int 0)))) (aNil))))
/-- stretches: 4 slots, 2 parameters -/
def d_stretches (m_need_page : FV) (m_need_style : FV) (m_all_stretches : FV) (m_Stretch_holders : FV) (m_Stretch_is_right : FV) (m_Stretch_width : FV) : SV := sCons (sExpr (eCall 1 m_need_page (aCons (eV 0) (aNil)))) (sCons (sExpr (eCall 1 m_need_style (aCons (eV 1) (aNil)))) (sCons (sAsg (eLst true (aNil)) (gN 2)) (sCons (sFor (iSeq (eCall 1 m_all_stretches (aCons (eV 0) (aNil)))) (gN 3) (sExpr (eMt "list" (appendG) (eV 2) (aCons (eTup (aCons (eFld 12 "column" (eV 3)) (aCons (eFld 12 "begin" (eV 3)) (aCons (eFld 12 "end" (eV 3)) (aCons (eMeth 12 "width" 2 m_Stretch_width (eV 3) (aCons (eV 1) (aNil))) (aCons (eMeth 12 "is_right" 1 m_Stretch_is_right (eV 3) aNil) (aCons (eMeth 12 "holders" 2 m_Stretch_holders (eV 3) (aCons (eV 1) (aNil))) (aNil)))))))) (aNil))))) (sRet (eV 2)))))
/-- law_k02: 10 slots, 1 parameters -/
def d_law_k02 (m_law_begun : FV) (m_law_page : FV) (m_law_take : FV) (m_law_style : FV) (m_law_due : FV) (m_stretches : FV) (m_law_alike : FV) : SV := sCons (sAsg (eCall 1 m_law_begun (aCons (eV 0) (aNil))) (gN 1)) (sCons (sFor (iR1 (aCons (eC (.int 3)) (aNil))) (gN 2) (sCons (sPar 3 4 (aCons (eCall 2 m_law_page (aCons (eV 1) (aCons (eOp ixG (eLst false (aCons (eC (.int 6)) (aCons (eC (.int 30)) (aNil)))) (eCall 2 m_law_take (aCons (eV 1) (aCons (eC (.int 2)) (aNil))))) (aNil)))) (aCons (eCall 1 m_law_style (aCons (eV 1) (aNil))) (aNil)))) (sCons (sAsg (eCall 2 m_law_due (aCons (eV 3) (aCons (eV 4) (aNil)))) (gN 5)) (sCons (sAsg (eB (listG false) (aCons (eV 3) (aNil))) (gN 6)) (sFor (iR1 (aCons (eC (.int 2)) (aNil))) (gN 7) (sCons (sAsg (eCall 2 m_stretches (aCons (eV 6) (aCons (eV 4) (aNil)))) (gN 8)) (sCons (sIf (tOrD (tNotD (tv (eCall 2 m_law_alike (aCons (eV 8) (aCons (eV 5) (aNil)))))) (tv (eOp (eqG true) (eV 6) (eV 3)))) (sRet (eC (.bl false))) (sNext)) (sCons (sFor (iSeq (eV 8)) (gN 9) (sExpr (eMt "list" (appendG) (eOp ixG (eV 9) (eC (.int 5))) (aCons (eC (.int 99)) (aNil))))) (sExpr (eMt "list" (clearG) (eV 8) aNil)))))))))) (sRet (eC (.bl true))))
end Dl
/-! ## B6 -/
/-! Stretches. -/
namespace Dl
open PySem L2
/-! ### styles -/
def m_is_number : FV := funD 3 d_is_number
@[simp] theorem is_number_int (i lo hi : Int) (st : Store) : m_is_number [.int i, .int lo, .int hi] st = .ok (.bl (decide (lo ≤ i ∧ i ≤ hi)), st) := by
  unfold m_is_number funD d_is_number
  simp [tyOf, subTy, leG]
  by_cases h : lo ≤ i <;> simp [h]
def m_need_style : FV := funD 1 (d_need_style m_is_number)
structure Sty where
  g : Int
  l : Int
def Sty.ok (s : Sty) : Prop := (0 ≤ s.g ∧ s.g ≤ 4) ∧ 0 ≤ s.l ∧ s.l ≤ 12
def Sty.enc (s : Sty) : D := .tup [.int s.g, .int s.l]
theorem need_style_ok {s : Sty} (h : s.ok) (st : Store) : m_need_style [s.enc] st = .ok (.non, st) := by
  unfold m_need_style funD d_need_style Sty.enc
  simp [tyOf, subTy, lenG, ixG, h.1.1, h.1.2, h.2.1, h.2.2]
def m_law_style : FV := funD 2 (d_law_style m_law_take)
theorem style_ok (b : Box) (rest : Store) : ∃ s b', Sty.ok s ∧ m_law_style [.ref 1] (Bx b rest) = .ok (s.enc, Bx b' rest) := by
  unfold m_law_style funD d_law_style
  have a0 := tk_lo b (n := 5) (by decide)
  have a1 := tk_hi b (n := 5) (by decide)
  have b0 := tk_lo (tk b 5).2 (n := 3) (by decide)
  have b1 := tk_hi (tk b 5).2 (n := 3) (by decide)
  obtain ⟨y, ey, my⟩ := atI_mem (l := [D.int (tk b 5).1, D.int 1, D.int 2]) (i := (tk (tk b 5).2 3).1) b0 b1
  have hy : ∃ n : Int, y = .int n ∧ 0 ≤ n ∧ n ≤ 4 := by
    simp at my
    rcases my with rfl | rfl | rfl <;> exact ⟨_, rfl, by omega, by omega⟩
  obtain ⟨g, rfl, g0, g1⟩ := hy
  simp [take_eq, ixG, lstOf, ey]
  generalize (tk (tk b 5).2 3).2 = b
  have a0 := tk_lo b (n := 13) (by decide)
  have a1 := tk_hi b (n := 13) (by decide)
  have c0 := tk_lo (tk b 13).2 (n := 13) (by decide)
  have c1 := tk_hi (tk b 13).2 (n := 13) (by decide)
  have b0 := tk_lo (tk (tk b 13).2 13).2 (n := 3) (by decide)
  have b1 := tk_hi (tk (tk b 13).2 13).2 (n := 3) (by decide)
  obtain ⟨y, ez, my⟩ := atI_mem (l := [D.int 0, D.int (tk b 13).1, D.int (tk (tk b 13).2 13).1]) (i := (tk (tk (tk b 13).2 13).2 3).1) b0 b1
  have hy : ∃ n : Int, y = .int n ∧ 0 ≤ n ∧ n ≤ 12 := by
    simp at my
    rcases my with rfl | rfl | rfl <;> exact ⟨_, rfl, by omega, by omega⟩
  obtain ⟨l, rfl, l0, l1⟩ := hy
  simp [ez]
  exact ⟨⟨g, l⟩, ⟨⟨g0, g1⟩, l0, l1⟩, rfl, _, rfl⟩
/-! ### figures -/
def figs (s : List Nat) : Bool :=
  let rest := if s.take 1 = [45] then s.drop 1 else s
  decide (rest ≠ []) && rest.all fun c => decide (48 ≤ c ∧ c ≤ 57)
theorem cut_to {A : Type} (xs : List A) (k : Nat) : cutD xs none (some (k : Int)) = xs.take k := by
  unfold cutD
  rw [HT.sIx_none, HT.sIx_nat]
  simp
theorem cut_from {A : Type} (xs : List A) (k : Nat) : cutD xs (some (k : Int)) none = xs.drop k := by
  unfold cutD
  rw [HT.sIx_nat, HT.sIx_none]
  by_cases h : k ≤ xs.length
  · rw [Nat.min_eq_left h, List.take_of_length_le (by simp)]
  · rw [Nat.min_eq_right (by omega)]
    simp
    omega
def m_is_figures : FV := funD 3 d_is_figures
theorem is_figures_str (s : List Nat) (h : s.length ≤ 1000000) (st : Store) : m_is_figures [.str s] st = .ok (.bl (figs s), st) := by
  unfold m_is_figures funD d_is_figures
  have c1 : cutD s none (some 1) = s.take 1 := cut_to s 1
  have c2 : cutD s (some 1) none = s.drop 1 := cut_from s 1
  have key : ∀ rest : List Nat, rest.length ≤ 1000000 → ((eAnd (eOp (eqG true) (eV 1) (eC (.str []))) (eOp (eqG false) (eLc false (iSeq (eV 1)) [2] (.one 2) (tv (eOp (inG true) (eV 2) (eC (.str [48, 49, 50, 51, 52, 53, 54, 55, 56, 57])))) (eV 2)) (eLst false (aNil)))) [some (.str s), some (.str rest), none] st)
      = .ok (.bl (decide (rest ≠ []) && rest.all fun c => decide (48 ≤ c ∧ c ≤ 57)), st) := fun rest hr => by
    by_cases h0 : rest = []
    · simp [h0]
    · have hl : rest.length ≤ LIM := le_LIM hr
      simp [h0, itemsOf, hl]
      rw [lc_keep rfl (fun d => match d with | .str [c] => !decide (48 ≤ c ∧ c ≤ 57) | _ => true) _ (fun d hd => ?_) (by simp)]
      · have e : (rest.map fun c => D.str [c]).filter (fun d => match d with | .str [c] => !decide (48 ≤ c ∧ c ≤ 57) | _ => true) = ((rest.filter fun c => !decide (48 ≤ c ∧ c ≤ 57)).map fun c => [c]).map D.str := by
          rw [List.filter_map, List.map_map]; rfl
        simp only [e]
        rw [eq_nilD (pls_strs _) (Nat.le_trans (dps_strs _) (by decide))]
        simp only [List.map_eq_nil_iff]
        congr 3
        rw [Bool.eq_iff_iff]
        simp [List.filter_eq_nil_iff]
      · obtain ⟨c, _, rfl⟩ := List.mem_map.mp hd
        have key : (c ∈ ([48, 49, 50, 51, 52, 53, 54, 55, 56, 57] : List Nat)) ↔ (48 ≤ c ∧ c ≤ 57) := by simp; omega
        simp only [List.set_cons_succ, List.set_cons_zero, r_tv, r_eOp, r_eV, r_eC, bind_m, List.getElem?_cons_succ, List.getElem?_cons_zero, inG, if_true, decide_eq_decide.mpr key]
  by_cases hc : s.take 1 = [45]
  · have k := key (s.drop 1) (by simp; omega)
    simp only [figs, if_pos hc]
    simp [slG, c1, c2, hc, -r_eAnd]
    rw [List.drop_one] at k
    rw [k]
    simp
  · have k := key s h
    simp only [figs, if_neg hc]
    simp [slG, c1, c2, hc, -r_eAnd]
    rw [k]
    simp
/-! ### runs -/
def clo (p : Page) (c k : Nat) : Bool := match p[k]? with
  | some r => decide (c + 1 < r.length)
  | none => false
theorem clo_out {p : Page} {c k : Nat} (h : p.length ≤ k) : clo p c k = false := by
  unfold clo; rw [List.getElem?_eq_none h]
theorem clo_at {p : Page} {c k : Nat} {r : Row} (h : p[k]? = some r) : clo p c k = decide (c + 1 < r.length) := by
  unfold clo; rw [h]
theorem clo_row {p : Page} {c k : Nat} (h : clo p c k = true) : ∃ r, p[k]? = some r ∧ c + 1 < r.length := by
  unfold clo at h
  cases e : p[k]? with
  | none => rw [e] at h; cases h
  | some r => rw [e] at h; exact ⟨r, rfl, of_decide_eq_true h⟩
def rEnd (f : Nat → Bool) : Nat → Nat → Nat
  | 0, k => k
  | n + 1, k => if f k = true then rEnd f n (k + 1) else k
/-- where the run that holds k ends -/
def endOf (p : Page) (c k : Nat) : Nat := rEnd (clo p c) (p.length - k) k
theorem rEnd_eq {f : Nat → Bool} : ∀ {n k e : Nat}, k ≤ e → e ≤ k + n → (∀ j, k ≤ j → j < e → f j = true) → f e = false → rEnd f n k = e
  | 0, k, e, h1, h2, _, _ => by unfold rEnd; omega
  | n + 1, k, e, h1, h2, h3, h4 => by
    unfold rEnd
    by_cases h : k = e
    · subst h; rw [if_neg (by simp [h4])]
    · rw [if_pos (h3 k (Nat.le_refl _) (by omega))]
      exact rEnd_eq (by omega) (by omega) (fun j a b => h3 j (by omega) b) h4
theorem rEnd_ok {f : Nat → Bool} : ∀ {n k : Nat}, f (k + n) = false → k ≤ rEnd f n k ∧ rEnd f n k ≤ k + n ∧ (∀ j, k ≤ j → j < rEnd f n k → f j = true) ∧ f (rEnd f n k) = false
  | 0, k, h => by
    unfold rEnd
    exact ⟨Nat.le_refl _, Nat.le_refl _, fun j a b => by omega, h⟩
  | n + 1, k, h => by
    unfold rEnd
    by_cases hk : f k = true
    · rw [if_pos hk]
      obtain ⟨a, b, c, d⟩ := rEnd_ok (f := f) (n := n) (k := k + 1) (by rw [show k + 1 + n = k + (n + 1) by omega]; exact h)
      refine ⟨by omega, by omega, fun j x y => ?_, d⟩
      by_cases z : j = k
      · subst z; exact hk
      · exact c j (by omega) y
    · rw [if_neg hk]
      exact ⟨Nat.le_refl _, by omega, fun j a b => by omega, by simpa using hk⟩
theorem endOf_ok {p : Page} {c k : Nat} (h : k ≤ p.length) : k ≤ endOf p c k ∧ endOf p c k ≤ p.length ∧ (∀ j, k ≤ j → j < endOf p c k → clo p c j = true) ∧ clo p c (endOf p c k) = false := by
  have := rEnd_ok (f := clo p c) (n := p.length - k) (k := k) (clo_out (by omega))
  rw [show k + (p.length - k) = p.length by omega] at this
  exact this
theorem endOf_eq {p : Page} {c k e : Nat} (h : k ≤ e) (h2 : e ≤ p.length) (h3 : ∀ j, k ≤ j → j < e → clo p c j = true) (h4 : clo p c e = false) : endOf p c k = e := rEnd_eq h (by omega) h3 h4
/-- a run begins at k -/
def isB (p : Page) (c k : Nat) : Bool := clo p c k && (k == 0 || !clo p c (k - 1))
/-- begins ahead of n -/
def begs (p : Page) (c n : Nat) : List Nat := (List.range n).filter (isB p c)
theorem begs_succ (p : Page) (c n : Nat) : begs p c (n + 1) = begs p c n ++ (if isB p c n = true then [n] else []) := by
  unfold begs
  rw [List.range_succ, List.filter_append]
  congr 1
  cases h : isB p c n <;> simp [h]
/-- a stretch: its column, begin, end -/
structure Stt where
  c : Nat
  b : Nat
  e : Nat
def sttOf (p : Page) (c b : Nat) : Stt := ⟨c, b, endOf p c b⟩
def sttsC (p : Page) (c : Nat) : List Stt := (begs p c p.length).map (sttOf p c)
def stts (p : Page) : List Stt := (List.range 5).flatMap (sttsC p)
def cellAt (p : Page) (k c : Nat) : List Nat := (p.getD k []).getD c []
def cellsOf (p : Page) (s : Stt) : List (List Nat) := (List.range (s.e - s.b)).map fun k => cellAt p (s.b + k) s.c
/-- a stretch of the page -/
structure Stt.Of (p : Page) (s : Stt) : Prop where
  c4 : s.c < 5
  lt : s.b < s.e
  le : s.e ≤ p.length
  clo : ∀ j, s.b ≤ j → j < s.e → clo p s.c j = true
  fin : Dl.clo p s.c s.e = false
  beg : isB p s.c s.b = true
theorem begs_mem {p : Page} {c n b : Nat} (h : b ∈ begs p c n) : b < n ∧ isB p c b = true := by
  unfold begs at h
  rw [List.mem_filter, List.mem_range] at h
  exact h
theorem stts_mem {p : Page} {s : Stt} (h : s ∈ stts p) : s.Of p := by
  unfold stts at h
  rw [List.mem_flatMap] at h
  obtain ⟨c, hc, h⟩ := h
  obtain ⟨b, hb, rfl⟩ := List.mem_map.mp h
  obtain ⟨h1, h2⟩ := begs_mem hb
  have e := endOf_ok (p := p) (c := c) (k := b) (by omega)
  have hb : clo p c b = true := by simp only [isB, Bool.and_eq_true] at h2; exact h2.1
  have hne : b ≠ endOf p c b := fun z => by rw [← z, hb] at e; cases e.2.2.2
  exact ⟨List.mem_range.mp hc, by show b < endOf p c b; omega, e.2.1, e.2.2.1, e.2.2.2, h2⟩
end Dl
/-! ## KT -/
/-! Tools: steps by hand, sizes, lists just made, told exceptions. -/
namespace Dl
open PySem L2
section
variable {g : G2} {fa fb : EV} {env : Env} {st sx sy : Store} {x y : D} {r : R (D × Store)}
theorem eOp_at (h1 : fa env st = .ok (x, sx)) (h2 : fb env sx = .ok (y, sy)) (h3 : g sy x y = r) : eOp g fa fb env st = r := by
  rw [r_eOp, h1]
  show (fb env sx).bind _ = r
  rw [h2]
  exact h3
theorem eB1_at {h : GA} (h1 : fa env st = .ok (x, sx)) (h3 : h sx [x] = r) : eB h (aCons fa aNil) env st = r := by
  rw [r_eB, r_aCons, h1]
  exact h3
theorem tv_at {b : Bool} (h1 : fa env st = .ok (.bl b, sx)) : tv fa env st = .ok (b, sx) := by
  rw [r_tv, h1]
  rfl
theorem eV_at {i : Nat} (h : env[i]? = some (some x)) : eV i env st = .ok (x, st) := by
  rw [r_eV, h]
theorem sCons_nx {f h : SV} {e : Env} {s : Store} (h1 : f env st = .nx e s) : sCons f h env st = h e s := by
  rw [r_sCons, h1]
  rfl
theorem sAsgN_at {i : Nat} (h1 : fa env st = .ok (x, sx)) : sAsg fa (gN i) env st = .nx (env.set i (some x)) sx := by
  rw [r_sAsg, h1]
  rfl
theorem sIf_at {t : TV} {f h : SV} {b : Bool} (h1 : t env st = .ok (b, sx)) : sIf t f h env st = if b = true then f env sx else h env sx := by
  rw [r_sIf, h1]
  rfl
theorem tOr_yes {t u : TV} (h1 : t env st = .ok (true, sx)) : tOrD t u env st = .ok (true, sx) := by
  rw [r_tOrD, h1]
  rfl
theorem tOr_no {t u : TV} (h1 : t env st = .ok (false, sx)) : tOrD t u env st = u env sx := by
  rw [r_tOrD, h1]
  rfl
theorem tNot_at {t : TV} {b : Bool} (h1 : t env st = .ok (b, sx)) : tNotD t env st = .ok (!b, sx) := by
  rw [r_tNotD, h1]
  rfl
theorem tAnd_no {t u : TV} (h1 : t env st = .ok (false, sx)) : tAndD t u env st = .ok (false, sx) := by
  rw [r_tAndD, h1]
  rfl
theorem tAnd_yes {t u : TV} {b : Bool} (h1 : t env st = .ok (true, sx)) (h2 : u env sx = .ok (b, sy)) : tAndD t u env st = .ok (b, sy) := by
  rw [r_tAndD, h1]
  exact h2
end
def strsD (l : List (List Nat)) : List D := l.map D.str
theorem mul_sb (st : Store) (k : Nat) (hk : k ≤ 1000) : mulG false st (.str [32]) (.int k) = .ok (.str (List.replicate k 32), st) := by
  have e : (List.replicate k [32]).flatten = List.replicate k 32 := by
    induction k with
    | zero => rfl
    | succ k ih => rw [List.replicate_succ, List.flatten_cons, ih (by omega)]; rfl
  have h : -1000000 ≤ (k : Int) ∧ (k : Int) ≤ 1000000 ∧ ([32] : List Nat).length * (k : Int).toNat ≤ LIM := ⟨by omega, by omega, le_LIM (by simp; omega)⟩
  show (if -1000000 ≤ (k : Int) ∧ (k : Int) ≤ 1000000 ∧ ([32] : List Nat).length * (k : Int).toNat ≤ LIM then (.ok (.str (List.replicate (k : Int).toNat [32]).flatten, st) : R (D × Store)) else .bad) = _
  rw [if_pos h, Int.toNat_natCast, e]
theorem mul_s0 (st : Store) : mulG false st (.str [32]) (.int 0) = .ok (.str [], st) := mul_sb st 0 (by omega)
theorem mul_bi (st : Store) (k : Nat) (hk : k ≤ 1000) (j : Int) : mulG false st (.int k) (.int j) = .ok (.int (k * j), st) := by
  have h : (-(2 ^ 64) < (k : Int) ∧ (k : Int) < 2 ^ 64) ∨ (-(2 ^ 64) < j ∧ j < 2 ^ 64) := .inl ⟨by omega, by omega⟩
  unfold mulG
  exact if_pos h
theorem add_ss (st : Store) (a b : List Nat) (h : a.length + b.length ≤ 1000000) : addG false st (.str a) (.str b) = .ok (.str (a ++ b), st) := by
  unfold addG
  exact if_pos (le_LIM h)
theorem int_b (st : Store) (b : Bool) : intG st [.bl b] = .ok (.int (if b = true then 1 else 0), st) := by
  cases b <;> rfl
theorem ne_str (st : Store) (a b : List Nat) : eqG true st (.str a) (.str b) = .ok (.bl (!decide (a = b)), st) := by rw [eqG_str]; rfl
theorem is_str (st : Store) (a b : List Nat) : eqG false st (.str a) (.str b) = .ok (.bl (decide (a = b)), st) := by rw [eqG_str]; rfl
theorem gt_ii (st : Store) (a b : Int) : gtG st (.int a) (.int b) = .ok (.bl (decide (b < a)), st) := rfl
theorem pks_of : ∀ {ds : List D}, (∀ d ∈ ds, D.pk d = true) → D.pks ds = true
  | [], _ => rfl
  | d :: ds, h => by
    rw [D.pks, h d (by simp), pks_of fun e he => h e (by simp [he])]; rfl
theorem sms_of' : ∀ {ds : List D}, (∀ d ∈ ds, D.sm d = true) → D.sms ds = true
  | [], _ => rfl
  | d :: ds, h => by
    rw [D.sms, h d (by simp), sms_of' fun e he => h e (by simp [he])]; rfl
theorem pks_map' {A : Type} {f : A → D} (h : ∀ a, D.pk (f a) = true) (l : List A) : D.pks (l.map f) = true := pks_of fun d hd => by
  obtain ⟨a, _, rfl⟩ := List.mem_map.mp hd
  exact h a
theorem pk_strs (l : List (List Nat)) : D.pk (.tup (l.map D.str)) = true := by
  rw [D.pk]; exact pks_map' (fun _ => rfl) l
theorem pk_lstrs (l : List (List Nat)) : D.pk (.lst (l.map D.str)) = true := by
  rw [D.pk]; exact pks_map' (fun _ => rfl) l

theorem fr_ty (st : Store) (L : List D) : tyM (st ++ [.lst L]) (.ref st.length) = some "list" := by simp only [tyM, List.getElem?_concat_length]
theorem fr_list (st : Store) (L : List D) : listOf (st ++ [.lst L]) (.ref st.length) = some (L, [(st.length, L)]) := by simp only [listOf, List.getElem?_concat_length]
theorem fr_app (st : Store) {L : List D} (d : D) (h : L.length < 1000000) : appendG (st ++ [.lst L]) (.ref st.length) [d] = .ok (.non, st ++ [.lst (L ++ [d])]) := by
  have hx : st ++ [Ob.lst (L ++ [d])] = List.set (st ++ [Ob.lst L]) st.length (Ob.lst (L ++ [d])) := by
    rw [List.set_append_right _ _ (Nat.le_refl _)]; simp
  rw [hx]
  simp only [appendG, List.getElem?_concat_length]
  rw [if_pos (lt_LIM h)]
theorem cut_at {A : Type} (xs : List A) {i : Int} (h : 0 ≤ i) : cutD xs none (some i) = xs.take i.toNat ∧ cutD xs (some i) none = xs.drop i.toNat := by
  obtain ⟨n, rfl⟩ := Int.eq_ofNat_of_zero_le h
  exact ⟨cut_to xs n, cut_from xs n⟩
theorem alike_self {x : D} (st : Store) (h : D.pk x = true) (hs : D.sm x = true) (hd : D.dp x ≤ 8) : m_law_alike [x, x] st = .ok (.bl true, st) := alike_rd 8 x x x (rd_self h) (rd_self h) hs hd
theorem all_exc {cs : List Nat} {fb : EV} {ds : List D} {ws : List (EV × List D)} {st st' st'' : Store} {c : Nat} {p : Option D} {due : D} (h : fb (ds.map some) st = .exc c p st') (hc : c ∈ cs) (hm : hmT c p st' = .ok (due, st'')) (ha : m_law_alike [due, due] st'' = .ok (.bl true, st'')) :
    allR m_law_alike cs hmT due ((fb, ds) :: ws) st = allR m_law_alike cs hmT due ws st'' := by
  rw [allR_cons]
  simp only [h, told_exc, if_pos hc, hm, noX_ok, R.bind_ok, ha]
theorem hm_8 (k : Int) (st : Store) : hmT 8 (some (.int k)) st = .ok (.tup [.str [66, 97, 100, 76, 105, 110, 101, 115], .int k], st ++ [.lst (kinds4 8), .lst (kinds7 8), .lst (kinds11 8)]) := rfl
theorem alike_wi (s : List Nat) (k : Int) (st : Store) : m_law_alike [.tup [.str s, .int k], .tup [.str s, .int k]] st = .ok (.bl true, st) := alike_self st rfl rfl (by simp)
theorem all_8 {fb : EV} {ds : List D} {st st' : Store} {k : Int} (h : fb (ds.map some) st = .exc 8 (some (.int k)) st') : ∃ more, allR m_law_alike [8] hmT (.tup [.str [66, 97, 100, 76, 105, 110, 101, 115], .int k]) [(fb, ds)] st = .ok (.bl true, st' ++ more) :=
  ⟨_, (all_exc h (by simp) (hm_8 k st') (alike_wi _ _ _)).trans (allR_nil _ _ _ _ _)⟩
theorem add_ll (st : Store) (a b : List D) (h : a.length + b.length ≤ 1000000) : addG false st (.lst a) (.lst b) = .ok (.lst (a ++ b), st) := by
  unfold addG
  simp only [lstOf]
  rw [if_pos (le_LIM h)]
  rfl
theorem add_tt (st : Store) (m : Bool) (a b : List D) (h : a.length + b.length ≤ 1000000) : addG m st (.tup a) (.tup b) = .ok (.tup (a ++ b), st) := by
  unfold addG
  exact if_pos (le_LIM h)
theorem add_ii (st : Store) (m : Bool) (a b : Int) : addG m st (.int a) (.int b) = .ok (.int (a + b), st) := rfl
theorem flat_one {A : Type} (x : A) : ∀ k : Nat, (List.replicate k [x]).flatten = List.replicate k x
  | 0 => rfl
  | k + 1 => by rw [List.replicate_succ, List.flatten_cons, flat_one x k]; rfl
theorem mul_l1 (st : Store) (x : D) (k : Int) (h0 : 0 ≤ k) (h : k ≤ 1000) : mulG false st (.lst [x]) (.int k) = .ok (.lst (List.replicate k.toNat x), st) := by
  have y : -1000000 ≤ k ∧ k ≤ 1000000 ∧ ([x] : List D).length * k.toNat ≤ LIM := ⟨by omega, by omega, le_LIM (by simp; omega)⟩
  show (if -1000000 ≤ k ∧ k ≤ 1000000 ∧ ([x] : List D).length * k.toNat ≤ LIM then newL false (List.replicate k.toNat [x]).flatten st else .bad) = _
  rw [if_pos y, flat_one]
  rfl
theorem sl_l (st : Store) (ds : List D) (lo hi : Option Int) : slG false st (.lst ds) lo hi = .ok (.lst (cutD ds lo hi), st) := by simp [slG, lstOf, newL]
theorem sl_s (m : Bool) (st : Store) (s : List Nat) (lo hi : Option Int) : slG m st (.str s) lo hi = .ok (.str (cutD s lo hi), st) := by simp [slG]
theorem sl_t (m : Bool) (st : Store) (s : List D) (lo hi : Option Int) : slG m st (.tup s) lo hi = .ok (.tup (cutD s lo hi), st) := by simp [slG]
theorem ixL (st : Store) (ds : List D) (i : Int) : ixG st (.lst ds) (.int i) = R.of ((atI ds i).map fun x => (x, st)) := (rfl)
theorem len_l (st : Store) (ds : List D) : lenG st [.lst ds] = .ok (.int ds.length, st) := by simp [lenG, lstOf]
theorem len_s (st : Store) (s : List Nat) : lenG st [.str s] = .ok (.int s.length, st) := by simp [lenG]
theorem len_t (st : Store) (ds : List D) : lenG st [.tup ds] = .ok (.int ds.length, st) := by simp [lenG]
theorem app_at {S : Store} {k : Nat} {L : List D} (d : D) (h : S[k]? = some (.lst L)) (hl : L.length < 1000000) : appendG S (.ref k) [d] = .ok (.non, S.set k (.lst (L ++ [d]))) := by
  simp only [appendG, h]
  rw [if_pos (lt_LIM hl)]
theorem fr_get (B : Store) (L : List D) : (B ++ [Ob.lst L])[B.length]? = some (.lst L) := by simp
theorem fr_set (B : Store) (L M : List D) : (B ++ [Ob.lst L]).set B.length (.lst M) = B ++ [Ob.lst M] := by
  rw [List.set_append_right _ _ (Nat.le_refl _)]; simp
end Dl
/-! ## LN1 -/
/-! Lines: is_line, need_lines. -/
namespace Dl
open PySem L2
def okLine (s : List Nat) : Bool := decide (s.length ≤ 200) && s.all okSign
def lineD : D → Bool
  | .str s => okLine s
  | _ => false
/-- kinds that are handed in as lines -/
def D.knd : D → Bool
  | .non => true
  | .bl _ => true
  | .int _ => true
  | .str _ => true
  | .tup _ => true
  | .lst _ => true
  | _ => false
def m_is_line : FV := funD 2 (d_is_line m_is_sign)
theorem is_line_str (s : List Nat) (hs : s.length ≤ 1000000) (st : Store) : m_is_line [.str s] st = .ok (.bl (okLine s), st) := by
  unfold m_is_line funD d_is_line
  simp [tyOf, subTy, leG, lenG]
  by_cases h : s.length ≤ 200
  · have h' : ((s.length : Int) ≤ 200) := by omega
    have hl : s.length ≤ LIM := le_LIM hs
    simp [h', hl, itemsOf]
    rw [lc_keep rfl (fun d => match d with | .str [c] => !okSign c | _ => true) _ (fun d hd => ?_) (by simp [wipeD])]
    · have e : (s.map fun c => D.str [c]).filter (fun d => match d with | .str [c] => !okSign c | _ => true) = ((s.filter fun c => !okSign c).map fun c => [c]).map D.str := by
        rw [List.filter_map, List.map_map]; rfl
      simp only [R.bind_ok, e]
      rw [eq_nilD (pls_strs _) (Nat.le_trans (dps_strs _) (by decide))]
      simp only [R.bind_ok, sOf_ok, List.map_eq_nil_iff]
      congr 3
      rw [okLine, decide_eq_true h, Bool.true_and, Bool.eq_iff_iff]
      simp [List.filter_eq_nil_iff]
    · obtain ⟨c, _, rfl⟩ := List.mem_map.mp hd
      simp [wipeD, is_sign_str]
  · have h' : ¬ ((s.length : Int) ≤ 200) := by omega
    simp [h', h, okLine]
theorem is_line_d {d : D} (k : D.knd d = true) (hs : D.sm d = true) (hl : ∀ s, d = .str s → s.length ≤ 1000000) (st : Store) : m_is_line [d] st = .ok (.bl (lineD d), st) := by
  cases d with
  | str s => exact is_line_str s (hl s rfl) st
  | non => unfold m_is_line funD d_is_line; simp [tyOf, subTy, lineD]
  | bl b => unfold m_is_line funD d_is_line; simp [tyOf, subTy, lineD]
  | int i => unfold m_is_line funD d_is_line; simp [tyOf, subTy, lineD]
  | tup ds => unfold m_is_line funD d_is_line; simp [tyOf, subTy, lineD]
  | lst ds => unfold m_is_line funD d_is_line; simp [tyOf, subTy, lineD]
  | ref n => cases k
  | scr n => cases k
  | exn a o => cases k
/-- what may be handed in as a line -/
def D.lk (d : D) : Prop := D.knd d = true ∧ D.sm d = true ∧ ∀ s, d = .str s → s.length ≤ 1000000
theorem is_line_k {d : D} (k : D.lk d) (st : Store) : m_is_line [d] st = .ok (.bl (lineD d), st) := is_line_d k.1 k.2.1 k.2.2 st
theorem okLine_parts {s : List Nat} (h : okLine s = true) : s.length ≤ 200 ∧ ∀ c ∈ s, okSign c = true := by
  simp only [okLine, Bool.and_eq_true, decide_eq_true_eq, List.all_eq_true] at h
  exact h
theorem lk_line {d : D} (h : lineD d = true) : D.lk d := by
  cases d with
  | str s => exact ⟨rfl, rfl, fun t e => by cases e; have := (okLine_parts h).1; omega⟩
  | _ => cases h
def m_need_lines : FV := funD 3 (d_need_lines m_is_line)
theorem need_lines_ok {ds : List D} {d : D} {w : List (Nat × List D)} {st : Store} (h : listOf st d = some (ds, w)) (hl : ds.length ≤ 30) (ha : ∀ x ∈ ds, lineD x = true) : m_need_lines [d] st = .ok (.non, st) := by
  unfold m_need_lines funD d_need_lines
  simp [h]
  generalize hf : forGo _ _ _ _ _ _ = r
  obtain ⟨e, s, rfl, rfl, e2⟩ := for_at hf (fun i env st' => st' = st ∧ ∃ a b, env = [some d, a, b]) ⟨rfl, _, _, rfl⟩ (fun i env st' _ hI => by rw [hI.1]; exact still_list h) (fun i x env st' hi hI => by
      obtain ⟨rfl, a, b, rfl⟩ := hI
      obtain ⟨y, hy, rfl⟩ := pairUp_at hi
      have hr := ha y (List.mem_of_getElem? hy)
      have hi := (List.getElem?_eq_some_iff.mp hy).1
      have hi2 : ¬ (30 : Int) ≤ i := by omega
      simp [geG, hi2, is_line_k (lk_line hr), hr])
  rfl
theorem need_lines_bad {ds : List D} {d x : D} {k : Nat} {w : List (Nat × List D)} {st : Store} (h : listOf st d = some (ds, w)) (hx : ds[k]? = some x) (hk : k ≤ 30) (ha : ∀ (j : Nat) (y : D), j < k → ds[j]? = some y → lineD y = true) (hb : k = 30 ∨ lineD x = false) (hn : D.lk x) : m_need_lines [d] st = .exc 8 (some (.int k)) st := by
  unfold m_need_lines funD d_need_lines
  simp [h]
  generalize hf : forGo _ _ _ _ _ _ = r
  have hlt := (List.getElem?_eq_some_iff.mp hx).1
  have := for_atE hf (fun i env st' => st' = st ∧ i ≤ k ∧ ∃ a b, env = [some d, a, b]) (fun r => r = .exc 8 (some (.int k)) st) ⟨rfl, Nat.zero_le _, _, _, rfl⟩ (fun i env st' _ hI => by rw [hI.1]; exact still_list h) (fun i y env st' hi hI => by
      obtain ⟨rfl, hik, a, b, rfl⟩ := hI
      obtain ⟨y, hy, rfl⟩ := pairUp_at hi
      refine ⟨[some d, some (.int i), some y], st', by simp, ?_⟩
      by_cases e : i = k
      · subst e
        rw [hx] at hy
        cases hy
        rcases hb with rfl | hb
        · simp [geG]
        · by_cases h30 : (30 : Int) ≤ i
          · simp [geG, h30]
          · simp [geG, h30, is_line_k hn, hb]
      · have hr := ha i y (by omega) hy
        have hi2 : ¬ (30 : Int) ≤ i := by omega
        simp [geG, hi2, is_line_k (lk_line hr), hr]
        omega) (fun e s hI => by
      obtain ⟨_, hle, _⟩ := hI
      rw [pairUp_len] at hle
      omega)
  rw [this]
end Dl
/-! ## LN2 -/
/-! Signs drawn for a line. -/
namespace Dl
open PySem L2
theorem sgn_lst {j : Nat} (hj : j ≠ 0) {rest : Store} {n : Nat} {t : Tg1} {env : Env} {r : R (List D × Store)} {ds : List D} {b : Box} (hlen : ds.length ≤ n) (ht : ∀ d e, t.put d e = some (e.set j (some d))) (h0 : env[0]? = some (some (.ref 1)))
    (hf : lcGo [] t tYesD (eCall 1 m_law_sign (aCons (eV 0) (aNil))) env ds [] (Bx b rest) = r) : ∃ (cs : List Nat) (b' : Box), cs.length = ds.length ∧ (∀ c ∈ cs, okSign c = true) ∧ r = .ok ((cs.map fun c => [c]).map D.str, Bx b' rest) := by
  obtain ⟨acc, s, rfl, cs, b', h1, h2, rfl, rfl⟩ := lc_at hf (fun i acc st' => ∃ (cs : List Nat) (b' : Box), cs.length = i ∧ (∀ c ∈ cs, okSign c = true) ∧ acc = (cs.map fun c => [c]).map D.str ∧ st' = Bx b' rest) ⟨[], b, rfl, by simp, rfl, rfl⟩ (fun _ _ _ _ _ => rfl) (fun i x acc st' hi ⟨cs, b', e1, e2, e3, e4⟩ => by
    subst e3 e4
    obtain ⟨c, b2, hc, ec⟩ := sign_ok b' rest
    refine ⟨_, ht _ _, ?_⟩
    have h0' : (env.set j (some x))[0]? = some (some (.ref 1)) := by rw [List.getElem?_set_ne hj]; exact h0
    simp [h0', ec]
    exact ⟨cs ++ [c], by simp [e1], fun x hx => by simp at hx; rcases hx with hx | rfl <;> first | exact e2 _ hx | exact hc, by simp, _, rfl⟩)
  exact ⟨cs, b', h1, h2, rfl⟩
theorem cut_le {s : List Nat} {n : Nat} (h : ∀ c ∈ s, okSign c = true) (hn : n ≤ 200) : okLine (s.take n) = true := by
  simp only [okLine, Bool.and_eq_true, decide_eq_true_eq, List.all_eq_true]
  exact ⟨by rw [List.length_take]; omega, fun c hc => h c (List.mem_of_mem_take hc)⟩
theorem ok_blank : okSign 32 = true := by decide
theorem ok_reps {n c : Nat} (h : c ∈ List.replicate n 32) : okSign c = true := by rw [(List.mem_replicate.mp h).2]; exact ok_blank
/-- 0 to k-1, drawn by way of a list of numbers -/
theorem pick3 {b : Box} {ls : List Int} {m : Int} (hm : m = ls.length) (h0 : 0 < m) (P : Int → Prop) (hP : ∀ n ∈ ls, P n) : ∃ n, atI (ls.map D.int) (tk b m).1 = some (.int n) ∧ P n := by
  obtain ⟨y, ey, my⟩ := atI_mem (l := ls.map D.int) (tk_lo b h0) (by rw [List.length_map, ← hm]; exact tk_hi b h0)
  obtain ⟨n, hn, rfl⟩ := List.mem_map.mp my
  exact ⟨n, ey, hP n hn⟩
theorem odd_in {y : D} (m : y ∈ [D.non, D.str [97, 10, 98], D.str [9], D.tup [D.str [97]], D.str ((List.replicate 101 [97, 98]).flatten), D.int 5]) : lineD y = false ∧ D.lk y := by
  simp only [List.mem_cons, List.not_mem_nil, or_false] at m
  rcases m with rfl | rfl | rfl | rfl | rfl | rfl
  · exact ⟨rfl, rfl, rfl, fun s e => by cases e⟩
  · exact ⟨by decide, rfl, rfl, fun s e => by cases e; decide⟩
  · exact ⟨by decide, rfl, rfl, fun s e => by cases e; decide⟩
  · exact ⟨rfl, rfl, rfl, fun s e => by cases e⟩
  · exact ⟨by decide, rfl, rfl, fun s e => by cases e; decide⟩
  · exact ⟨rfl, rfl, rfl, fun s e => by cases e⟩
theorem mul_ab (st : Store) : mulG false st (.str [97, 98]) (.int 101) = .ok (.str (List.replicate 101 [97, 98]).flatten, st) := by
  have h : -1000000 ≤ (101 : Int) ∧ (101 : Int) ≤ 1000000 ∧ ([97, 98] : List Nat).length * (101 : Int).toNat ≤ LIM := ⟨by decide, by decide, le_LIM (by decide)⟩
  show (if -1000000 ≤ (101 : Int) ∧ (101 : Int) ≤ 1000000 ∧ ([97, 98] : List Nat).length * (101 : Int).toNat ≤ LIM then (.ok (.str (List.replicate (101 : Int).toNat [97, 98]).flatten, st) : R (D × Store)) else .bad) = _
  rw [if_pos h]
  rfl
theorem mul_ll (st : Store) (ds : List D) (k : Int) (h0 : 0 ≤ k) (h : k ≤ 1000) (h2 : ds.length * k.toNat ≤ 1000000) : mulG false st (.lst ds) (.int k) = .ok (.lst (List.replicate k.toNat ds).flatten, st) := by
  have y : -1000000 ≤ k ∧ k ≤ 1000000 ∧ ds.length * k.toNat ≤ LIM := ⟨by omega, by omega, le_LIM h2⟩
  show (if -1000000 ≤ k ∧ k ≤ 1000000 ∧ ds.length * k.toNat ≤ LIM then newL false (List.replicate k.toNat ds).flatten st else .bad) = _
  rw [if_pos y]
  rfl
end Dl
/-! ## D20 -/
/-! The meanings of some defs (printed by pick.py). -/
namespace Dl
open PySem L2
/-- law_line_k20: 5 slots, 1 parameters -/
def d_law_line_k20 (m_law_take : FV) (m_law_sign : FV) : SV := sCons (sAsg (eC (.str [])) (gN 1)) (sCons (sFor (iR1 (aCons (eCall 2 m_law_take (aCons (eV 0) (aCons (eOp ixG (eLst false (aCons (eC (.int 4)) (aCons (eC (.int 9)) (aCons (eC (.int 30)) (aNil))))) (eCall 2 m_law_take (aCons (eV 0) (aCons (eC (.int 3)) (aNil))))) (aNil)))) (aNil))) (gN 2) (sCons (sAsg (eMt "str" (joinG) (eC (.str [])) (aCons (eLc false (iR1 (aCons (eCall 2 m_law_take (aCons (eV 0) (aCons (eC (.int 8)) (aNil)))) (aNil))) [4] (.one 4) (tYesD) (eCall 1 m_law_sign (aCons (eV 0) (aNil)))) (aNil))) (gN 3)) (sAsg (eOp (addG false) (eOp (addG false) (eV 1) (eV 3)) (eOp (mulG false) (eC (.str [32])) (eCall 2 m_law_take (aCons (eV 0) (aCons (eOp ixG (eLst false (aCons (eC (.int 2)) (aCons (eC (.int 6)) (aCons (eC (.int 40)) (aNil))))) (eCall 2 m_law_take (aCons (eV 0) (aCons (eC (.int 3)) (aNil))))) (aNil)))))) (gN 1)))) (sRet (eSl false (eV 1) (poNone) (poSome (eC (.int 200))))))
/-- law_odd_lines: 4 slots, 2 parameters -/
def d_law_odd_lines (m_law_take : FV) : SV := sCons (sAsg (eCall 2 m_law_take (aCons (eV 0) (aCons (eOp (addG false) (eB lenG (aCons (eV 1) (aNil))) (eC (.int 1))) (aNil)))) (gN 2)) (sCons (sAsg (eOp ixG (eLst false (aCons (eC .non) (aCons (eC (.str [97, 10, 98])) (aCons (eC (.str [9])) (aCons (eTup (aCons (eC (.str [97])) (aNil))) (aCons (eOp (mulG false) (eC (.str [97, 98])) (eC (.int 101))) (aCons (eC (.int 5)) (aNil)))))))) (eCall 2 m_law_take (aCons (eV 0) (aCons (eC (.int 6)) (aNil))))) (gN 3)) (sCons (sIf (tv (eOp (eqG false) (eCall 2 m_law_take (aCons (eV 0) (aCons (eC (.int 5)) (aNil)))) (eC (.int 0)))) (sRet (eTup (aCons (eOp (addG false) (eSl false (eOp (addG false) (eV 1) (eOp (mulG false) (eLst false (aCons (eC (.str [97])) (aNil))) (eC (.int 31)))) (poNone) (poSome (eOp (addG false) (eC (.int 31)) (eCall 2 m_law_take (aCons (eV 0) (aCons (eC (.int 3)) (aNil))))))) (eLst false (aCons (eC (.str [])) (aCons (eC (.str [])) (aNil))))) (aCons (eC (.int 30)) (aNil))))) (sNext)) (sRet (eTup (aCons (eOp (addG false) (eOp (addG false) (eOp (addG false) (eSl false (eV 1) (poNone) (poSome (eV 2))) (eLst false (aCons (eV 3) (aNil)))) (eSl false (eV 1) (poSome (eV 2)) (poNone))) (eOp (mulG false) (eLst false (aCons (eC .non) (aNil))) (eCall 2 m_law_take (aCons (eV 0) (aCons (eC (.int 2)) (aNil)))))) (aCons (eB minG (aCons (eV 2) (aCons (eC (.int 30)) (aNil)))) (aNil)))))))
end Dl
/-! ## LNO -/
/-! Laws k20, k21: lines drawn; lines that can't be. -/
namespace Dl
open PySem L2
def m_law_line_k20 : FV := funD 5 (d_law_line_k20 m_law_take m_law_sign)
theorem line20_ok (b : Box) (rest : Store) : ∃ s b', okLine s = true ∧ m_law_line_k20 [.ref 1] (Bx b rest) = .ok (.str s, Bx b' rest) := by
  unfold m_law_line_k20 funD d_law_line_k20
  obtain ⟨n, en, n0, n9⟩ := pick3 (b := b) (ls := [4, 9, 30]) (m := 3) rfl (by decide) (fun n => 0 < n ∧ n ≤ 30) (by decide)
  simp only [List.map_cons, List.map_nil] at en
  have n64 : n < 18446744073709551616 := by omega
  have t2 := take_eq b rest 3 (by decide) (by decide)
  generalize (tk b 3).2 = b2 at t2
  generalize (tk b 3).1 = i2 at t2 en
  have z0 := tk_lo b2 n0
  have z1 := tk_hi b2 n0
  have t3 := take_eq b2 rest n n0 n64
  generalize tk b2 n = p at z0 z1 t3
  obtain ⟨t, b3⟩ := p
  simp only at z0 z1 t3
  have m1 : -1000000 ≤ t ∧ t ≤ 1000000 := by omega
  simp [t2, ixL, en, t3, m1]
  generalize hf : forGo _ _ _ _ _ _ = r
  obtain ⟨e, st, rfl, s, b', a2, a3, a4, rfl, h1, h2, rfl⟩ := for_at hf (fun i env st' => ∃ (s : List Nat) (b' : Box) (a2 a3 a4 : Option D), st' = Bx b' rest ∧ (∀ c ∈ s, okSign c = true) ∧ s.length ≤ 50 * i ∧ env = [some (.ref 1), some (.str s), a2, a3, a4]) ⟨[], b3, _, _, _, rfl, by simp, by simp, rfl⟩ (fun _ _ _ _ _ => rfl) (fun i x env st' hi ⟨s, b, a2, a3, a4, e1, e2, e3, e4⟩ => by
    subst e1 e4
    obtain ⟨hi, rfl⟩ := ints_get hi
    have w0 := tk_lo b (n := 8) (by decide)
    have w1 := tk_hi b (n := 8) (by decide)
    have tE := take_eq b rest 8 (by decide) (by decide)
    generalize tk b 8 = p at w0 w1 tE
    obtain ⟨q, b⟩ := p
    simp only at w0 w1 tE
    have m1 : -1000000 ≤ q ∧ q ≤ 1000000 := by omega
    have m2 : q.toNat ≤ LIM := le_LIM (by omega)
    simp [tE, m1, m2]
    generalize hf : lcGo _ _ _ _ _ _ _ _ = r
    obtain ⟨cs, b3, c1, c2, rfl⟩ := sgn_lst (j := 4) (by decide) (n := 8) (by rw [intsD_len]; omega) (fun _ _ => rfl) rfl hf
    rw [intsD_len] at c1
    have jo := join_ones' cs (Bx b3 rest) (le_LIM (by omega))
    obtain ⟨n, en, n0, n9⟩ := pick3 (b := b3) (ls := [2, 6, 40]) (m := 3) rfl (by decide) (fun n => 0 < n ∧ n ≤ 40) (by decide)
    have n64 : n < 18446744073709551616 := by omega
    have t2 := take_eq b3 rest 3 (by decide) (by decide)
    generalize (tk b3 3).2 = b4 at t2
    generalize (tk b3 3).1 = i3 at t2 en
    have v0 := tk_lo b4 n0
    have v1 := tk_hi b4 n0
    have t3 := take_eq b4 rest n n0 n64
    generalize tk b4 n = p at v0 v1 t3
    obtain ⟨u, b5⟩ := p
    simp only at v0 v1 t3
    obtain ⟨u, rfl⟩ := Int.eq_ofNat_of_zero_le v0
    have hm := mul_sb (Bx b5 rest) u (by omega)
    simp only [List.map_cons, List.map_nil] at en
    have y1 : s.length + cs.length ≤ LIM := le_LIM (by omega)
    have y2 : s.length + cs.length + u ≤ LIM := le_LIM (by omega)
    have y3 : s.length + (cs.length + u) ≤ LIM := le_LIM (by omega)
    simp [tyM, jo, addG, y1, t2, ixL, en, t3, hm, y2, y3]
    refine ⟨⟨_, rfl⟩, fun c hc => ?_, by omega⟩
    rcases hc with hc | hc | hc
    · exact e2 c hc
    · exact c2 c hc
    · rw [hc.2]; exact ok_blank)
  rw [intsD_len] at h2
  simp [slG]
  refine ⟨_, ?_, rfl, _, rfl⟩
  have := cut_to s 200
  rw [show ((200 : Nat) : Int) = 200 from rfl] at this
  rw [this]
  exact cut_le h1 (by omega)
/-- lines of which one can't be: k is the first -/
def BadL (ds : List D) (k : Nat) : Prop := k ≤ 30 ∧ ∃ x, ds[k]? = some x ∧ (∀ (j : Nat) (y : D), j < k → ds[j]? = some y → lineD y = true) ∧ (k = 30 ∨ lineD x = false) ∧ D.lk x
theorem BadL.exc {ds : List D} {k : Nat} (h : BadL ds k) (st : Store) : m_need_lines [.lst ds] st = .exc 8 (some (.int k)) st := by
  obtain ⟨h1, x, h2, h3, h4, h5⟩ := h
  exact need_lines_bad (d := .lst ds) (w := []) rfl h2 h1 h3 h4 h5
theorem strs_lines {ls : List (List Nat)} (h : ∀ s ∈ ls, okLine s = true) : ∀ x ∈ strsD ls, lineD x = true := fun x hx => by
  obtain ⟨s, hs, rfl⟩ := List.mem_map.mp hx
  exact h s hs
@[simp] theorem strsD_len (nss : List (List Nat)) : (strsD nss).length = nss.length := by simp [strsD]
theorem strsD_get {nss : List (List Nat)} {i : Nat} {ns : List Nat} (h : nss[i]? = some ns) : (strsD nss)[i]? = some (.str ns) := by unfold strsD; rw [List.getElem?_map, h]; rfl
def m_law_odd_lines : FV := funD 4 (d_law_odd_lines m_law_take)
theorem odd_lines_ok (b : Box) (rest : Store) {ls : List (List Nat)} (hl : ls.length ≤ 30) (hok : ∀ s ∈ ls, okLine s = true) : ∃ ds k b', BadL ds k ∧ m_law_odd_lines [.ref 1, .lst (strsD ls)] (Bx b rest) = .ok (.tup [.lst ds, .int k], Bx b' rest) := by
  unfold m_law_odd_lines funD d_law_odd_lines
  have n0 : (0 : Int) < (ls.length : Int) + 1 := by omega
  have t1 := take_eq b rest _ n0 (by omega)
  have v0 := tk_lo b n0
  have v1 := tk_hi b n0
  generalize tk b ((ls.length : Int) + 1) = p at v0 v1 t1
  obtain ⟨at', b1⟩ := p
  simp only at v0 v1 t1
  obtain ⟨at', rfl⟩ := Int.eq_ofNat_of_zero_le v0
  obtain ⟨y, ey, my⟩ := atI_mem (l := [D.non, D.str [97, 10, 98], D.str [9], D.tup [D.str [97]], D.str ((List.replicate 101 [97, 98]).flatten), D.int 5]) (i := (tk b1 6).1) (tk_lo _ (by decide)) (tk_hi _ (by decide))
  have hy := odd_in my
  generalize hF : (List.replicate 101 [97, 98]).flatten = FF at ey
  have mab := fun st => mul_ab st
  rw [hF] at mab
  have t2 := take_eq b1 rest 6 (by decide) (by decide)
  generalize (tk b1 6).2 = b2 at t2
  generalize (tk b1 6).1 = i6 at t2 ey
  have t3 := take_eq b2 rest 5 (by decide) (by decide)
  generalize tk b2 5 = p at t3
  obtain ⟨w, b3⟩ := p
  simp only at t3
  simp [len_l, add_ii, t1, mab, t2, ixL, ey, t3]
  by_cases hw : w = 0
  · have t4 := take_eq b3 rest 3 (by decide) (by decide)
    have u0 := tk_lo b3 (n := 3) (by decide)
    have u1 := tk_hi b3 (n := 3) (by decide)
    generalize tk b3 3 = p at u0 u1 t4
    obtain ⟨u, b4⟩ := p
    simp only at u0 u1 t4
    have mn : ((31 : Int) + u) = ((31 + u.toNat : Nat) : Int) := by omega
    have ml := mul_l1 (Bx b3 rest) (.str [97]) 31 (by decide) (by decide)
    generalize hR : List.replicate (31 : Int).toNat (D.str [97]) = R31 at ml
    have lR : R31.length = 31 := by rw [← hR]; rfl
    have iR : ∀ z ∈ R31, lineD z = true := fun z hz => by
      rw [← hR] at hz
      rw [(List.mem_replicate.mp hz).2]; decide
    have ad := add_ll (Bx b3 rest) (strsD ls) R31 (by simp; omega)
    generalize hA : strsD ls ++ R31 = A at ad
    have lA : 31 ≤ A.length := by rw [← hA]; simp; omega
    have iA : ∀ z ∈ A, lineD z = true := fun z hz => by
      rw [← hA] at hz
      rcases List.mem_append.mp hz with h | h
      · exact strs_lines hok z h
      · exact iR z h
    have cA : cutD A none (some ((31 : Int) + u)) = A.take (31 + u.toNat) := by rw [mn, cut_to]
    have ad2 := add_ll (Bx b4 rest) (A.take (31 + u.toNat)) [.str [], .str []] (by rw [List.length_take]; simp; omega)
    simp [hw, ml, ad, t4, add_ii, sl_l, cA, ad2]
    refine ⟨A.take (31 + u.toNat) ++ [D.str [], D.str []], 30, ?_, by first | exact ⟨b4, ⟨rfl, rfl⟩, rfl⟩ | exact ⟨⟨rfl, rfl⟩, b4, rfl⟩ | exact ⟨b4, rfl, rfl⟩ | exact ⟨rfl, b4, rfl⟩ | exact ⟨rfl, rfl⟩ | exact ⟨b4, rfl⟩ | exact ⟨rfl, _, rfl⟩⟩
    have l30 : 30 < (A.take (31 + u.toNat)).length := by rw [List.length_take]; omega
    have g30 : (A.take (31 + u.toNat) ++ [D.str [], D.str []])[30]? = some (A.take (31 + u.toNat))[30] := by
      rw [List.getElem?_append_left l30, List.getElem?_eq_getElem l30]
    have m30 := iA _ (List.mem_of_mem_take (List.getElem_mem l30))
    refine ⟨by omega, _, g30, fun j z hj hz => ?_, .inl rfl, lk_line m30⟩
    rw [List.getElem?_append_left (by omega)] at hz
    exact iA z (List.mem_of_mem_take (List.mem_of_getElem? hz))
  · have t4 := take_eq b3 rest 2 (by decide) (by decide)
    have u0 := tk_lo b3 (n := 2) (by decide)
    have u1 := tk_hi b3 (n := 2) (by decide)
    generalize tk b3 2 = p at u0 u1 t4
    obtain ⟨u, b4⟩ := p
    simp only at u0 u1 t4
    obtain ⟨A, hA⟩ : ∃ A, A = (strsD ls).take at' := ⟨_, rfl⟩
    obtain ⟨C, hC⟩ : ∃ C, C = (strsD ls).drop at' := ⟨_, rfl⟩
    have lA : A.length = at' := by rw [hA, List.length_take, strsD_len]; omega
    have lC : C.length ≤ 30 := by rw [hC, List.length_drop, strsD_len]; omega
    have cA : cutD (strsD ls) none (some (at' : Int)) = A := by rw [hA, cut_to]
    have cC : cutD (strsD ls) (some (at' : Int)) none = C := by rw [hC, cut_from]
    have mn : ∀ st, minG st [.int (at' : Int), .int 30] = .ok (.int (at' : Int), st) := fun st => by
      show R.ok (D.int (min (at' : Int) 30), st) = _
      congr 3; omega
    simp (disch := (first | assumption | omega | decide | (simp only [List.length_append, List.length_cons, List.length_nil, List.length_replicate, List.length_map, List.length_take, List.length_drop]; omega) | (simp; done) | (simp; omega))) [hw, sl_l, cA, cC, t4, add_ll, mul_l1, mn]
    refine ⟨A ++ y :: (C ++ List.replicate u.toNat D.non), at', ?_, by first | exact ⟨b4, ⟨rfl, rfl⟩, rfl⟩ | exact ⟨⟨rfl, rfl⟩, b4, rfl⟩ | exact ⟨b4, rfl, rfl⟩ | exact ⟨rfl, b4, rfl⟩ | exact ⟨rfl, rfl⟩ | exact ⟨b4, rfl⟩ | exact ⟨rfl, _, rfl⟩⟩
    refine ⟨by omega, y, by rw [← lA]; simp, fun j z hj hz => ?_, .inr hy.1, hy.2⟩
    rw [List.getElem?_append_left (by omega)] at hz
    have := List.mem_of_getElem? hz
    rw [hA] at this
    exact strs_lines hok z (List.mem_of_mem_take this)
/-- the i-th line, or none -/
def lineAt (F : List (List Nat)) (i : Nat) : List Nat := F[i]?.getD []
theorem lineAt_ok {ls : List (List Nat)} (h : ∀ s ∈ ls, okLine s = true) (i : Nat) : (lineAt ls i).length ≤ 200 ∧ ∀ c ∈ lineAt ls i, okSign c = true := by
  unfold lineAt
  cases q : ls[i]? with
  | none => simp
  | some l => exact okLine_parts (h l (List.mem_of_getElem? q))
end Dl
/-! ## DlLamL -/
/-! Several lambdas in a list; a list of them kept in a name until it is handed to a def. -/
namespace Dl
open PySem PySem.Spec L2
section
variable {W : Wd} {X : Cx} {E : XK}
/-- lambdas, as they are written, and their meanings -/
def LamsIn (W : Wd) (X : Cx) (k : Nat) (es : List PySem.Expr) (ds : List (List Nat × EV)) : Prop := ∃ ls : List LamW, es = ls.map LamW.ex ∧ ds = ls.map (fun l => (l.sl, l.fb)) ∧ ∀ l ∈ ls, LamIn W X k l.ld l.N l.sl l.fb
theorem lams_nil {k : Nat} : LamsIn W X k [] [] := ⟨[], rfl, rfl, fun l h => by cases h⟩
theorem lams_cons {k : Nat} {q : Str} {params : Arguments} {bd : PySem.Expr} {scope : Scope} {lpos : Pos} {N : List Str} {sl : List Nat} {fb : EV} {es : List PySem.Expr} {ds : List (List Nat × EV)} (h : LamIn W X k ⟨q, params, bd, scope⟩ N sl fb) (t : LamsIn W X k es ds) :
    LamsIn W X k (.Lambda params bd scope lpos :: es) ((sl, fb) :: ds) := by
  obtain ⟨ls, rfl, rfl, h3⟩ := t
  refine ⟨⟨⟨q, params, bd, scope⟩, lpos, N, sl, fb⟩ :: ls, rfl, rfl, fun l hl => ?_⟩
  rcases List.mem_cons.mp hl with rfl | hl
  · exact h
  · exact h3 l hl
theorem dallN {k n j : Nat} {g x0 x1 : Str} {ga : FV} {cs : List Nat} {hm : Nat → Option D → Store → R (D × Store)} {es : List PySem.Expr} {ds : List (List Nat × EV)} {e2 : PySem.Expr} {f2 : EV} {p lp pos : Pos}
    (c : FnT X.prog X.w W X.mg X.base g n [x0, x1] (spAll X.prog X.w W X.mg X.base k ga cs hm)) (hr : Room j X.A) (hl : LamsIn W X k es ds) (h2 : DE W X E e2 f2) (hn : es.length ≤ 1000 := by decide) (hK : X.K = W.K := by rfl) (hfn : ∀ y, X.fn y = true := by intro _; rfl) (hj : n ≤ j := by decide) (hg : Gl X g := by rfl)
    (hdb : (g == ("__debug__" : Str)) = false := by decide) (hs2 : starEach [e2] X.env = (false, eval e2 X.env) :: starEach [] X.env := by rfl) (hs1 : starEach [.List es lp, e2] X.env = (false, eval (.List es lp) X.env) :: starEach [e2] X.env := by rfl) (hpl : (backTo pos (starEach [e2] X.env)).any (·.1) = false := by rfl) :
    DE W X E (.Call (.Name g p) [.List es lp, e2] [] pos) (eAll ga cs hm ds f2) := by
  obtain ⟨ls, rfl, rfl, h3⟩ := hl
  obtain ⟨f, fd, F, hm', hk, hb⟩ := c.ex
  rw [List.length_map] at hn
  exact de_all hK hfn (by rw [hK]; exact F) hr hj hg hm' (by rw [hK]; exact hk) (by rw [hK]; exact hb) (fun _ => h3) hn h2 hdb hs2 hs1 hpl
/-- lambdas at these places -/
def MadesAt (X : Cx) (Rs F : Hp) (ls : List LamW) (fs : List Addr) : Prop := fs.length = ls.length ∧ ∀ (i : Nat) (l : LamW) (f : Addr), ls[i]? = some l → fs[i]? = some f → MadeAt Rs F l.ld (cloFrom X.env.cells l.ld.scope.names []) f
theorem MadesAt.mono {Rs Rs' F F' : Hp} {ls : List LamW} {fs : List Addr} (s : Same Rs Rs') (s' : Same F F') (m : MadesAt X Rs F ls fs) : MadesAt X Rs' F' ls fs := ⟨m.1, fun i l f e1 e2 => (m.2 i l f e1 e2).mono s s'⟩
theorem MadesAt.app {Rs F : Hp} {ls ls' : List LamW} {fs fs' : List Addr} (m : MadesAt X Rs F ls fs) (m' : MadesAt X Rs F ls' fs') : MadesAt X Rs F (ls ++ ls') (fs ++ fs') := by
  refine ⟨by simp [m.1, m'.1], fun i l f e1 e2 => ?_⟩
  by_cases h : i < ls.length
  · rw [List.getElem?_append_left h] at e1
    rw [List.getElem?_append_left (by rw [m.1]; exact h)] at e2
    exact m.2 i l f e1 e2
  · rw [List.getElem?_append_right (by omega)] at e1
    rw [List.getElem?_append_right (by rw [m.1]; omega), m.1] at e2
    exact m'.2 _ l f e1 e2
/-- an argument that tells a list of lambdas, one of which stands in slot i -/
def ArgL (W : Wd) (X : Cx) (i : Nat) (ls1 ls : List LamW) (a : PySem.Expr) : Prop := ∃ t, PE X a t ∧ ∀ (Rs F H : Hp) (r : List Addr) (st : Store) (σ : St) (Q : VK) (l : Addr) (fs : List Addr), Holds W Rs F H r st → σ[i]? = some (some (.ref l)) → Rs l = some (.lst (fs.map V.ref)) → MadesAt X Rs F ls1 fs → fs.length ≤ 1000 →
  (∀ Rs' H' l' fs', Same Rs Rs' → Holds W Rs' F H' r st → Rs' l' = some (.lst (fs'.map V.ref)) → MadesAt X Rs' F ls fs' → Q (.ref l') H') → t σ H Q
theorem argL_var {i : Nat} {x : Str} {ls : List LamW} {p : Pos} (hN : X.N[i]? = some x := by rfl) (hv : Vis X.env.scope x := by first | exact Or.inl rfl | exact Or.inr (Or.inl rfl) | exact Or.inr (Or.inr rfl)) (hd : (x == ("__debug__" : Str)) = false := by decide) (hcd : (x == ("__classdict__" : Str)) = false := by decide) : ArgL W X i ls ls (.Name x p) :=
  ⟨_, pe_var hN hv hd hcd, fun Rs F H r st σ Q l fs hH hs hl hm _ hQ => ⟨.ref l, hs, hQ Rs H l fs (Same.refl _) hH hl hm⟩⟩
theorem argL_add {k i : Nat} {x : Str} {ls ls2 : List LamW} {p lp pos : Pos} (hl2 : ∀ l ∈ ls2, LamIn W X k l.ld l.N l.sl l.fb) (hn : ls2.length ≤ 1000) (hN : X.N[i]? = some x := by rfl) (hv : Vis X.env.scope x := by first | exact Or.inl rfl | exact Or.inr (Or.inl rfl) | exact Or.inr (Or.inr rfl)) (hd : (x == ("__debug__" : Str)) = false := by decide) (hcd : (x == ("__classdict__" : Str)) = false := by decide) :
    ArgL W X i ls (ls ++ ls2) (.BinOp (.Name x p) .Add (.List (ls2.map LamW.ex) lp) pos) := by
  refine ⟨tOp rCat (tVar i) (tLst (tMades W X ls2)), ⟨fun pins s σ H Q I h => (pe_op op_cat (pe_var hN hv hd hcd) (pe_lst (pos := lp) (pa_mades (k := k) I.ok ls2 hl2))).run pins s σ H Q I h⟩, fun Rs F H r st σ Q l fs hH hs hl hm hfs hQ => ?_⟩
  refine ⟨.ref l, hs, ⟨Rs, F, r, st, hH, fun Rs1 H1 fs1 s1 h1 e1 m1 => ⟨?_, fun p2 hp2 => ?_⟩⟩⟩
  · rw [List.length_map, e1, sizeLine_eq]; omega
  · have g1 := h1.guard (o := .lst (fs1.map V.ref)) hp2
    have up : Same Rs1 (upd Rs1 p2 (.lst (fs1.map V.ref))) := fun b o e => by
      rw [upd_ne (fun z => by rw [z, h1.freeR hp2] at e; cases e)]; exact e
    have sR : Same Rs (upd Rs1 p2 (.lst (fs1.map V.ref))) := fun b o e => up _ _ (s1 _ _ e)
    refine ⟨l, p2, fs.map V.ref, fs1.map V.ref, rfl, rfl, g1.sR _ _ (sR _ _ hl), upd_same, ?_, fun p3 hp3 => ?_⟩
    · rw [List.length_map, List.length_map, e1, sizeLine_eq]; omega
    · have g2 := g1.guard (o := .lst (fs.map V.ref ++ fs1.map V.ref)) hp3
      have up2 : Same (upd Rs1 p2 (.lst (fs1.map V.ref))) (upd (upd Rs1 p2 (.lst (fs1.map V.ref))) p3 (.lst (fs.map V.ref ++ fs1.map V.ref))) := fun b o e => by
        rw [upd_ne (fun z => by rw [z, g1.freeR hp3] at e; cases e)]; exact e
      refine hQ _ _ p3 (fs ++ fs1) (fun b o e => up2 _ _ (sR _ _ e)) g2 (by rw [upd_same, List.map_append]) ?_
      exact (hm.mono (fun b o e => up2 _ _ (sR _ _ e)) (Same.refl _)).app (MadesAt.mono (fun b o e => up2 _ _ (up _ _ e)) (Same.refl _) ⟨e1, m1⟩)
/-- g(a, e), a as ArgL tells -/
def tAllV (W : Wd) (X : Cx) (E : XK) (i : Nat) (ls1 ls : List LamW) (ga : FV) (cs : List Nat) (hm : Nat → Option D → Store → R (D × Store)) (f2 : EV) : TE := fun σ H Q => ∃ (Rs F : Hp) (r : List Addr) (env : Env) (st : Store) (l : Addr) (fs : List Addr), Holds W Rs F H r st ∧ EnvOk F r σ env ∧ σ[i]? = some (some (.ref l)) ∧ Rs l = some (.lst (fs.map V.ref)) ∧ MadesAt X Rs F ls1 fs ∧ fs.length ≤ 1000 ∧
  Post W Rs F r (eAll ga cs hm (ls.map fun l => (l.sl, l.fb)) f2 env st) Q E
theorem pe_allV {k n j i : Nat} {g x0 x1 : Str} {f : Addr} {fd : FuncData} {ga : FV} {cs : List Nat} {hm : Nat → Option D → Store → R (D × Store)} {ls1 ls : List LamW} {a1 e2 : PySem.Expr} {f2 : EV} {p pos : Pos} (hK : X.K = W.K) (hfn : ∀ y, X.fn y = true)
    (F : FnOk X.prog X.w X.K X.mg X.base (L2.CX X.prog X.w) n f fd [x0, x1] (spAll X.prog X.w W X.mg X.base k ga cs hm)) (hr : Room j X.A) (hj : n ≤ j) (hg : Gl X g) (hm' : X.mg g = some (.ref f)) (hk : PySem.W.keepIn X.K (.ref f) = true) (hb : Binds X.K fd [x0, x1] []) (hls : ∀ l ∈ ls, LamIn W X k l.ld l.N l.sl l.fb) (hn : ls.length ≤ 1000) (ha : ArgL W X i ls1 ls a1) (h2 : DE W X E e2 f2)
    (hdb : (g == ("__debug__" : Str)) = false := by decide) (hs2 : starEach [e2] X.env = (false, eval e2 X.env) :: starEach [] X.env := by rfl) (hs1 : starEach [a1, e2] X.env = (false, eval a1 X.env) :: starEach [e2] X.env := by rfl) (hpl : (backTo pos (starEach [e2] X.env)).any (·.1) = false := by rfl) :
    PE X (.Call (.Name g p) [a1, e2] [] pos) (tAllV W X E i ls1 ls ga cs hm f2) := by
  obtain ⟨t2, p2, q2⟩ := h2.ex
  obtain ⟨t1, p1, q1⟩ := ha
  refine ⟨fun pins s σ H Q I h => ?_⟩
  obtain ⟨Rs, F0, r, env, st, l0, fs0, hH, hE, hs0, hl0, hm0, hf0, hP⟩ := h
  refine wpAny_Call_Name_kw (ld_glob I hg hm' ?_ hdb)
  have pa := pa_cons p1 (pa_cons p2 pa_nil (hs := hs2)) (hs := hs1)
  refine PySem.W.callWith_K (h₀ := X.base) I.ok.mod.kin hk (thn (pa.run pos pins s σ H (fun vs H1 => ∃ (Rs2 F2 : Hp) (r2 : List Addr) (st2 : Store) (l : Addr) (fs : List Addr) (v2 : V) (d2 : D), vs = [.ref l, v2] ∧ Same Rs Rs2 ∧ Same F0 F2 ∧ Ext r r2 ∧ Holds W Rs2 F2 H1 r2 st2 ∧ Rs2 l = some (.lst (fs.map V.ref)) ∧
      fs.length = ls.length ∧ (∀ (i : Nat) (l : LamW) (f : Addr), ls[i]? = some l → fs[i]? = some f → MadeAt Rs2 F2 l.ld (cloFrom X.env.cells l.ld.scope.names []) f) ∧ Rep F2 r2 v2 d2 ∧
      Post W Rs F2 r2 (match capsAll env (ls.map fun l => (l.sl, l.fb)) with | some ws => allR ga cs hm d2 ws st2 | none => .bad) Q E) I ?_) fun us s1 hh => ⟨?_, ?_⟩) hs1 hpl
  · refine q1 Rs F0 H r st σ _ l0 fs0 hH hs0 hl0 hm0 hf0 fun Rs1 H1 l fs s1 h1 hl m1 => ?_
    refine q2 Rs1 F0 H1 r σ env st _ h1 hE (PostX.moreR s1 (bindX hP fun a ea z => ?_))
    exact fun F2 H2 r2 v2 s2 x2 h2 k2 => ⟨Rs1, F2, r2, a.2, l, fs, v2, a.1, rfl, s1, s2, x2, h2, hl, m1.1, fun i l' f' e3 e4 => (m1.2 i l' f' e3 e4).mono (Same.refl _) s2, k2, Post.later s2 x2 z⟩
  · obtain ⟨vs, H1, I1, rv, hq⟩ := hh
    exact I1.kIn
  · obtain ⟨vs, H1, I1, rv, Rs2, F2, r2, st2, l, fs, v2, d2, rfl, sR, sF, xF, h2, hl, e1, m1, k2, hP2⟩ := hh
    cases ec : capsAll env (ls.map fun l => (l.sl, l.fb)) with
    | none => rw [ec] at hP2; exact hP2.elim
    | some ws =>
      rw [ec] at hP2
      obtain ⟨c1, c2⟩ := capsAll_at ec
      rw [List.length_map] at c1
      refine run_froz (k := j) I1 hfn (F.mono hj) hr hb rv ?_
      have nl : l ∉ ownC X := fun m => by
        have := h2.sR _ _ hl
        rw [own_none I1 l m] at this; cases this
      have hH3 := h2.froze (cs := ownC X) (hp := s1.heap) (own_none I1) (own_some I1)
      refine ⟨froC (ownC X) s1.heap Rs2, F2, r2, st2, ws, fs, l, v2, d2, rfl, by rw [froC_out nl]; exact hl, by rw [e1, c1], by omega, fun i x f e3 e4 => ?_, hH3, k2, ?_⟩
      · have hi : i < ls.length := by rw [← c1]; exact (List.getElem?_eq_some_iff.mp e3).1
        obtain ⟨q1, q3⟩ := c2 i (ls[i].sl, ls[i].fb) x (by rw [List.getElem?_map, List.getElem?_eq_getElem hi]; rfl) e3
        have lm := hls ls[i] (List.getElem_mem hi)
        have := lm.clos I1 h2 (hE.mono sF xF) (m1 i ls[i] f (List.getElem?_eq_getElem hi) e4) q3
        rw [q1]
        exact this
      · simp only at hP2
        cases ea : allR ga cs hm d2 ws st2 with
        | bad => rw [ea] at hP2; exact hP2.elim
        | exc c p s => exact absurd ea (allR_noexc ws st2)
        | ok b =>
          rw [ea] at hP2
          have nR2 : ∀ a ∈ ownC X, Rs2 a = none := fun a m => h2.freeR (own_none I1 a m)
          exact fun F' H' r' v s' x' h' k' => hP2 F' _ r' v s' x' (((by have := h'.hide (known_froC (own_some I1)); rw [hide_froC nR2] at this; exact this : Holds W Rs2 F' (hideC (ownC X) H') r' b.2)).lessR sR) k'
/-- x = [lambda: .., ..]; if not g(x .., e): a / else: b; .. -/
def sLams (i : Nat) (f : SV) : SV := fun env st => f (env.set i none) st
@[simp] theorem r_sLams (i : Nat) (f : SV) (env : Env) (st : Store) : sLams i f env st = f (env.set i none) st := (rfl)
theorem EnvOk.wipe {F : Hp} {r : List Addr} {sg : St} {env : Env} (h : EnvOk F r sg env) (i : Nat) (v : Option V) : EnvOk F r (sg.set i v) (env.set i none) := by
  refine ⟨by simp [h.len], fun j d q => ?_⟩
  by_cases hj : i = j
  · subst hj
    by_cases hl : i < env.length
    · rw [List.getElem?_set_self hl] at q; cases q
    · rw [List.getElem?_eq_none (by simp; omega)] at q; cases q
  · rw [List.getElem?_set_ne hj] at q ⊢
    exact h.at_ j d q
theorem PostS.moreRs {Rs Rs' F : Hp} {r : List Addr} {res : SR} {D : Ends} (s : Same Rs Rs') (h : PostS W Rs F r res D E) : PostS W Rs' F r res D E := by
  cases res with
  | nx e t => exact fun F' H' r' sg' s1 x1 h1 k1 => h F' H' r' sg' s1 x1 (h1.lessR s) k1
  | rt d t => exact fun F' H' r' v s1 x1 h1 k1 => h F' H' r' v s1 x1 (h1.lessR s) k1
  | bk e t => exact fun F' H' r' sg' s1 x1 h1 k1 => h F' H' r' sg' s1 x1 (h1.lessR s) k1
  | ct e t => exact fun F' H' r' sg' s1 x1 h1 k1 => h F' H' r' sg' s1 x1 (h1.lessR s) k1
  | exc c p t => exact fun F' H' r' od s1 x1 h1 k1 => h F' H' r' od s1 x1 (h1.lessR s) k1
  | bad => exact h
theorem cons_post {Rs F : Hp} {r : List Addr} {g : SV} {tr : TS} {D : Ends} {res : SR} (q2 : ∀ Rs F H r sg env st D, Holds W Rs F H r st → EnvOk F r sg env → PostS W Rs F r (g env st) D E → tr D sg H) (hP : PostS W Rs F r (res.andThen g) D E) : PostS W Rs F r res { D with nx := tr D } E := by
  cases res with
  | nx e t => exact fun F' H' r' sg' s x h k => q2 Rs F' H' r' sg' e t D h k (PostS.later s x hP)
  | rt d t => exact hP
  | bk e t => exact hP
  | ct e t => exact hP
  | exc c p t => exact hP
  | bad => exact hP
theorem db_lams {k n j i : Nat} {g x x0 x1 : Str} {ga : FV} {cs : List Nat} {hm : Nat → Option D → Store → R (D × Store)} {es1 : List PySem.Expr} {ls1 ls : List LamW} {a1 e2 : PySem.Expr} {f2 : EV} {p pos lp px pos1 pos3 pos4 : Pos} {sa so rest : List Stmt} {fa fo fr : SV}
    (c : FnT X.prog X.w W X.mg X.base g n [x0, x1] (spAll X.prog X.w W X.mg X.base k ga cs hm)) (hr : Room j X.A) (h1 : es1 = ls1.map LamW.ex) (hl1 : ∀ l ∈ ls1, LamIn W X k l.ld l.N l.sl l.fb) (hls : ∀ l ∈ ls, LamIn W X k l.ld l.N l.sl l.fb) (hn1 : ls1.length ≤ 1000) (hn : ls.length ≤ 1000) (ha : ArgL W X i ls1 ls a1) (h2 : DE W X E e2 f2)
    (hA : DB W X E sa fa) (hO : DB W X E so fo) (hR : DB W X E rest fr) (hNd : X.N.Nodup) (hN : X.N[i]? = some x) (hx : Loc X.env.scope x) (hf : X.fn x = true ∨ X.env.scope.names.lookup x = some .local := by first | exact .inl rfl | exact .inr rfl | assumption) (hsw : swapsWith (.List es1 lp) (some (.Name x px)) pos1.line X.env = pure false := by rfl)
    (hK : X.K = W.K := by rfl) (hfn : ∀ y, X.fn y = true := by intro _; rfl) (hj : n ≤ j := by decide) (hg : Gl X g := by rfl)
    (hdb : (g == ("__debug__" : Str)) = false := by decide) (hs2 : starEach [e2] X.env = (false, eval e2 X.env) :: starEach [] X.env := by rfl) (hs1 : starEach [a1, e2] X.env = (false, eval a1 X.env) :: starEach [e2] X.env := by rfl) (hpl : (backTo pos (starEach [e2] X.env)).any (·.1) = false := by rfl)
    (he : ∀ whole, isTrue (.Call (.Name g p) [a1, e2] [] pos) X.env whole = (do let v ← whole; standAt (PySem.Expr.Call (.Name g p) [a1, e2] [] pos).pos; holding [v] (truthy v)) := by intro _; rfl) :
    DB W X E (.Assign [.Name x px] (.List es1 lp) pos1 :: .If (.UnaryOp .Not (.Call (.Name g p) [a1, e2] [] pos) pos3) sa so pos4 :: rest) (sCons (sLams i (sIf (tNotD (tv (eAll ga cs hm (ls.map fun l => (l.sl, l.fb)) f2))) fa fo)) fr) := by
  subst h1
  obtain ⟨f, fd, F, hm', hk, hb⟩ := c.ex
  have pc := pe_allV (p := p) (pos := pos) hK hfn (by rw [hK]; exact F) hr hj hg hm' (by rw [hK]; exact hk) (by rw [hK]; exact hb) hls hn ha h2 hdb hs2 hs1 hpl
  obtain ⟨ta, pa, qa⟩ := hA.ex
  obtain ⟨to, po, qo⟩ := hO.ex
  obtain ⟨tr, pr, qr⟩ := hR.ex
  refine ⟨fun pins s σ H D I hh => ?_⟩
  have P1 := ps_set (pos := pos1) (pos' := px) hNd hN hx (pe_lst (pos := lp) (pa_mades (k := k) I.ok ls1 hl1)) hsw hf
  have P2 := ps_if (pos := pos4) (pt_not (pos := pos3) (pt_val pc he)) pa po
  refine (pss_cons P1 (pss_cons P2 pr)).run pins s σ H D I ?_
  obtain ⟨Rs, F0, r, env, st, hH, hE, hP⟩ := hh
  refine ⟨Rs, F0, r, st, hH, fun Rs1 H1 fs s1 h1 e1 m1 => ⟨?_, fun l hl => ?_⟩⟩
  · rw [List.length_map, e1, sizeLine_eq]; omega
  · have g1 := h1.guard (o := .lst (fs.map V.ref)) hl
    have up : Same Rs1 (upd Rs1 l (.lst (fs.map V.ref))) := fun b o e => by
      rw [upd_ne (fun z => by rw [z, h1.freeR hl] at e; cases e)]; exact e
    have hlt : i < σ.length := by
      rw [I.len]
      exact (List.getElem?_eq_some_iff.mp hN).1
    have hE1 : EnvOk F0 r (σ.set i (some (.ref l))) (env.set i none) := hE.wipe i _
    have hP1 := PostS.moreRs (Rs' := upd Rs1 l (.lst (fs.map V.ref))) (fun b o e => up _ _ (s1 _ _ e)) hP
    refine ⟨upd Rs1 l (.lst (fs.map V.ref)), F0, r, env.set i none, st, l, fs, g1, hE1, List.getElem?_set_self hlt, upd_same, MadesAt.mono up (Same.refl _) ⟨e1, m1⟩, by omega, ?_⟩
    rw [r_sCons, r_sLams, r_sIf, r_tNotD, r_tv] at hP1
    cases eA : eAll ga cs hm (ls.map fun l => (l.sl, l.fb)) f2 (env.set i none) st with
    | bad => rw [eA] at hP1; exact hP1.elim
    | exc c p st' => rw [eA] at hP1; exact hP1
    | ok a =>
      rw [eA] at hP1
      obtain ⟨d, st'⟩ := a
      intro F' H' r' v s2 x2 h2 k2
      cases k2 with
      | bl b =>
        have hE2 := hE1.mono s2 x2
        refine ⟨b, rfl, ?_⟩
        cases b with
        | true =>
          have hP2 : PostS W (upd Rs1 l (.lst (fs.map V.ref))) F0 r ((fo (env.set i none) st').andThen fr) D E := hP1
          exact qo _ F' H' r' _ (env.set i none) st' _ h2 hE2 (cons_post qr (PostS.later s2 x2 hP2))
        | false =>
          have hP2 : PostS W (upd Rs1 l (.lst (fs.map V.ref))) F0 r ((fa (env.set i none) st').andThen fr) D E := hP1
          exact qa _ F' H' r' _ (env.set i none) st' _ h2 hE2 (cons_post qr (PostS.later s2 x2 hP2))
      | _ => exact hP1.elim
theorem dlamsV {k n j i : Nat} {g x x0 x1 : Str} {ga : FV} {cs : List Nat} {hm : Nat → Option D → Store → R (D × Store)} {es1 : List PySem.Expr} {ds1 : List (List Nat × EV)} {e2 : PySem.Expr} {f2 : EV} {p p2 pos lp px pos1 pos3 pos4 : Pos} {sa so rest : List Stmt} {fa fo fr : SV}
    (c : FnT X.prog X.w W X.mg X.base g n [x0, x1] (spAll X.prog X.w W X.mg X.base k ga cs hm)) (hr : Room j X.A) (l1 : LamsIn W X k es1 ds1) (h2 : DE W X E e2 f2)
    (hA : DB W X E sa fa) (hO : DB W X E so fo) (hR : DB W X E rest fr) (hNd : X.N.Nodup) (hN : X.N[i]? = some x) (hx : Loc X.env.scope x) (hv : Vis X.env.scope x := by first | exact Or.inl rfl | exact Or.inr (Or.inl rfl) | exact Or.inr (Or.inr rfl)) (hf : X.fn x = true ∨ X.env.scope.names.lookup x = some .local := by first | exact .inl rfl | exact .inr rfl | assumption) (hsw : swapsWith (.List es1 lp) (some (.Name x px)) pos1.line X.env = pure false := by rfl)
    (hdx : (x == ("__debug__" : Str)) = false := by decide) (hcdx : (x == ("__classdict__" : Str)) = false := by decide) (hK : X.K = W.K := by rfl) (hfn : ∀ y, X.fn y = true := by intro _; rfl) (hj : n ≤ j := by decide) (hg : Gl X g := by rfl)
    (hdb : (g == ("__debug__" : Str)) = false := by decide) (hs2 : starEach [e2] X.env = (false, eval e2 X.env) :: starEach [] X.env := by rfl) (hn1 : es1.length ≤ 1000 := by decide)
    (hs1 : starEach [.Name x p2, e2] X.env = (false, eval (.Name x p2) X.env) :: starEach [e2] X.env := by rfl) (hpl : (backTo pos (starEach [e2] X.env)).any (·.1) = false := by rfl)
    (he : ∀ whole, isTrue (.Call (.Name g p) [.Name x p2, e2] [] pos) X.env whole = (do let v ← whole; standAt (PySem.Expr.Call (.Name g p) [.Name x p2, e2] [] pos).pos; holding [v] (truthy v)) := by intro _; rfl) :
    DB W X E (.Assign [.Name x px] (.List es1 lp) pos1 :: .If (.UnaryOp .Not (.Call (.Name g p) [.Name x p2, e2] [] pos) pos3) sa so pos4 :: rest) (sCons (sLams i (sIf (tNotD (tv (eAll ga cs hm ds1 f2))) fa fo)) fr) := by
  obtain ⟨ls, h1, rfl, h3⟩ := l1
  have hl : ls.length ≤ 1000 := by rw [h1, List.length_map] at hn1; exact hn1
  exact db_lams c hr h1 h3 h3 hl hl (argL_var hN hv hdx hcdx) h2 hA hO hR hNd hN hx hf hsw hK hfn hj hg hdb hs2 hs1 hpl he
theorem dlamsA {k n j i : Nat} {g x x0 x1 : Str} {ga : FV} {cs : List Nat} {hm : Nat → Option D → Store → R (D × Store)} {es1 es2 : List PySem.Expr} {ds1 ds2 : List (List Nat × EV)} {e2 : PySem.Expr} {f2 : EV} {p p2 pos lp lp2 px pos1 pos3 pos4 pos5 : Pos} {sa so rest : List Stmt} {fa fo fr : SV}
    (c : FnT X.prog X.w W X.mg X.base g n [x0, x1] (spAll X.prog X.w W X.mg X.base k ga cs hm)) (hr : Room j X.A) (l1 : LamsIn W X k es1 ds1) (l2 : LamsIn W X k es2 ds2) (h2 : DE W X E e2 f2)
    (hA : DB W X E sa fa) (hO : DB W X E so fo) (hR : DB W X E rest fr) (hNd : X.N.Nodup) (hN : X.N[i]? = some x) (hx : Loc X.env.scope x) (hv : Vis X.env.scope x := by first | exact Or.inl rfl | exact Or.inr (Or.inl rfl) | exact Or.inr (Or.inr rfl)) (hf : X.fn x = true ∨ X.env.scope.names.lookup x = some .local := by first | exact .inl rfl | exact .inr rfl | assumption) (hsw : swapsWith (.List es1 lp) (some (.Name x px)) pos1.line X.env = pure false := by rfl)
    (hdx : (x == ("__debug__" : Str)) = false := by decide) (hcdx : (x == ("__classdict__" : Str)) = false := by decide) (hK : X.K = W.K := by rfl) (hfn : ∀ y, X.fn y = true := by intro _; rfl) (hj : n ≤ j := by decide) (hg : Gl X g := by rfl)
    (hdb : (g == ("__debug__" : Str)) = false := by decide) (hs2 : starEach [e2] X.env = (false, eval e2 X.env) :: starEach [] X.env := by rfl) (hn1 : es1.length ≤ 500 := by decide) (hn2 : es2.length ≤ 500 := by decide)
    (hs1 : starEach [.BinOp (.Name x p2) .Add (.List es2 lp2) pos5, e2] X.env = (false, eval (.BinOp (.Name x p2) .Add (.List es2 lp2) pos5) X.env) :: starEach [e2] X.env := by rfl) (hpl : (backTo pos (starEach [e2] X.env)).any (·.1) = false := by rfl)
    (he : ∀ whole, isTrue (.Call (.Name g p) [.BinOp (.Name x p2) .Add (.List es2 lp2) pos5, e2] [] pos) X.env whole = (do let v ← whole; standAt (PySem.Expr.Call (.Name g p) [.BinOp (.Name x p2) .Add (.List es2 lp2) pos5, e2] [] pos).pos; holding [v] (truthy v)) := by intro _; rfl) :
    DB W X E (.Assign [.Name x px] (.List es1 lp) pos1 :: .If (.UnaryOp .Not (.Call (.Name g p) [.BinOp (.Name x p2) .Add (.List es2 lp2) pos5, e2] [] pos) pos3) sa so pos4 :: rest) (sCons (sLams i (sIf (tNotD (tv (eAll ga cs hm (ds1 ++ ds2) f2))) fa fo)) fr) := by
  obtain ⟨ls, h1, rfl, h3⟩ := l1
  obtain ⟨ls2, h4, rfl, h5⟩ := l2
  subst h4
  have hl : ls.length ≤ 500 := by rw [h1, List.length_map] at hn1; exact hn1
  have hl2 : ls2.length ≤ 500 := by rw [List.length_map] at hn2; exact hn2
  have := db_lams (sa := sa) (so := so) (rest := rest) (fa := fa) (fo := fo) (fr := fr) (pos1 := pos1) (pos3 := pos3) (pos4 := pos4) (px := px) (ls := ls ++ ls2) c hr h1 h3 (fun l hl => (List.mem_append.mp hl).elim (h3 l) (h5 l)) (by omega) (by rw [List.length_append]; omega) (argL_add (k := k) h5 (by omega) hN hv hdx hcdx) h2 hA hO hR hNd hN hx hf hsw hK hfn hj hg hdb hs2 hs1 hpl he
  rw [List.map_append] at this
  exact this
end
end Dl
/-! ## D20B -/
/-! The meanings of some defs (printed by pick.py). -/
namespace Dl
open PySem L2
/-- strokes_of: 8 slots, 3 parameters -/
def d_strokes_of : SV := sCons (sAsg (eB maxG (aCons (eB lenG (aCons (eV 1) (aNil))) (aCons (eB lenG (aCons (eV 2) (aNil))) (aNil)))) (gN 3)) (sCons (sAsg (eTup (aCons (eMt "str" (ljustG) (eV 1) (aCons (eV 3) (aNil))) (aCons (eMt "str" (ljustG) (eV 2) (aCons (eV 3) (aNil))) (aNil)))) (gTp 2 (gsCons (gN 1) (gsCons (gN 2) (gsNil))))) (sCons (sAsg (eLc false (iR1 (aCons (eV 3) (aNil))) [7] (.one 7) (tv (eOp (eqG true) (eOp ixG (eV 1) (eV 7)) (eOp ixG (eV 2) (eV 7)))) (eV 7)) (gN 4)) (sCons (sAsg (eLst true (aNil)) (gN 5)) (sCons (sAsg (eC .non) (gN 6)) (sCons (sFor (iR1 (aCons (eB lenG (aCons (eV 4) (aNil))) (aNil))) (gN 7) (sCons (sAsg (eIf (tv (eOp (isG false) (eV 6) (eC .non))) (eOp ixG (eV 4) (eV 7)) (eV 6)) (gN 6)) (sIf (tOrD (tv (eOp (eqG false) (eOp (addG false) (eV 7) (eC (.int 1))) (eB lenG (aCons (eV 4) (aNil))))) (tv (eOp gtG (eOp subG (eOp ixG (eV 4) (eOp (addG false) (eV 7) (eC (.int 1)))) (eOp ixG (eV 4) (eV 7))) (eC (.int 3))))) (sCons (sExpr (eMt "list" (appendG) (eV 5) (aCons (eTup (aCons (eV 0) (aCons (eV 6) (aCons (eSl false (eV 2) (poSome (eV 6)) (poSome (eOp (addG false) (eOp ixG (eV 4) (eV 7)) (eC (.int 1))))) (aNil))))) (aNil)))) (sAsg (eC .non) (gN 6))) (sNext)))) (sRet (eV 5)))))))
/-- strokes: 6 slots, 2 parameters -/
def d_strokes (m_need_lines : FV) (m_strokes_of : FV) : SV := sCons (sExpr (eCall 1 m_need_lines (aCons (eV 0) (aNil)))) (sCons (sExpr (eCall 1 m_need_lines (aCons (eV 1) (aNil)))) (sCons (sAsg (eLst true (aNil)) (gN 2)) (sCons (sFor (iR1 (aCons (eB maxG (aCons (eB lenG (aCons (eV 0) (aNil))) (aCons (eB lenG (aCons (eV 1) (aNil))) (aNil)))) (aNil))) (gN 3) (sCons (sAsg (eIf (tv (eOp ltG (eV 3) (eB lenG (aCons (eV 0) (aNil))))) (eOp ixG (eV 0) (eV 3)) (eC (.str []))) (gN 4)) (sCons (sAsg (eIf (tv (eOp ltG (eV 3) (eB lenG (aCons (eV 1) (aNil))))) (eOp ixG (eV 1) (eV 3)) (eC (.str []))) (gN 5)) (sExpr (eMt "list" (extendG) (eV 2) (aCons (eCall 3 m_strokes_of (aCons (eV 3) (aCons (eV 4) (aCons (eV 5) (aNil))))) (aNil))))))) (sRet (eV 2)))))
/-- law_line_near: 6 slots, 2 parameters -/
def d_law_line_near (m_law_take : FV) (m_law_sign : FV) : SV := sCons (sAsg (eV 1) (gN 2)) (sCons (sFor (iR1 (aCons (eCall 2 m_law_take (aCons (eV 0) (aCons (eC (.int 6)) (aNil)))) (aNil))) (gN 3) (sCons (sPar 4 5 (aCons (eCall 2 m_law_take (aCons (eV 0) (aCons (eOp (addG false) (eB lenG (aCons (eV 2) (aNil))) (eC (.int 1))) (aNil)))) (aCons (eCall 2 m_law_take (aCons (eV 0) (aCons (eC (.int 5)) (aNil)))) (aNil)))) (sCons (sIf (tv (eOp ltG (eV 5) (eC (.int 3)))) (sAsg (eOp (addG false) (eOp (addG false) (eSl false (eV 2) (poNone) (poSome (eV 4))) (eOp ixG (eLst false (aCons (eCall 1 m_law_sign (aCons (eV 0) (aNil))) (aCons (eC (.str [32])) (aCons (eC (.str [97])) (aNil))))) (eV 5))) (eSl false (eV 2) (poSome (eOp (addG false) (eV 4) (eC (.int 1)))) (poNone))) (gN 2)) (sNext)) (sCons (sIf (tv (eOp (eqG false) (eV 5) (eC (.int 3)))) (sAsg (eOp (addG false) (eOp (addG false) (eSl false (eV 2) (poNone) (poSome (eV 4))) (eSl false (eC (.str [97, 98, 32])) (poNone) (poSome (eCall 2 m_law_take (aCons (eV 0) (aCons (eC (.int 4)) (aNil))))))) (eSl false (eV 2) (poSome (eV 4)) (poNone))) (gN 2)) (sNext)) (sIf (tv (eOp (eqG false) (eV 5) (eC (.int 4)))) (sAsg (eOp ixG (eLst false (aCons (eSl false (eV 2) (poNone) (poSome (eV 4))) (aCons (eOp (addG false) (eSl false (eV 2) (poNone) (poSome (eV 4))) (eSl false (eV 2) (poSome (eOp (addG false) (eOp (addG false) (eV 4) (eC (.int 1))) (eCall 2 m_law_take (aCons (eV 0) (aCons (eC (.int 9)) (aNil)))))) (poNone))) (aNil)))) (eCall 2 m_law_take (aCons (eV 0) (aCons (eC (.int 2)) (aNil))))) (gN 2)) (sNext)))))) (sRet (eSl false (eV 2) (poNone) (poSome (eC (.int 200))))))
/-- law_lines_two: 6 slots, 1 parameters -/
def d_law_lines_two (m_law_take : FV) (m_law_line_k20 : FV) (m_law_line_near : FV) : SV := sCons (sAsg (eLc false (iR1 (aCons (eCall 2 m_law_take (aCons (eV 0) (aCons (eOp ixG (eLst false (aCons (eC (.int 4)) (aCons (eC (.int 12)) (aCons (eC (.int 31)) (aNil))))) (eCall 2 m_law_take (aCons (eV 0) (aCons (eC (.int 3)) (aNil))))) (aNil)))) (aNil))) [4] (.one 4) (tYesD) (eCall 1 m_law_line_k20 (aCons (eV 0) (aNil)))) (gN 1)) (sCons (sAsg (eLc true (iSeq (eV 1)) [5] (.one 5) (tYesD) (eOp ixG (eLst false (aCons (eV 5) (aCons (eCall 2 m_law_line_near (aCons (eV 0) (aCons (eV 5) (aNil)))) (aCons (eCall 1 m_law_line_k20 (aCons (eV 0) (aNil))) (aNil))))) (eB minG (aCons (eC (.int 2)) (aCons (eCall 2 m_law_take (aCons (eV 0) (aCons (eC (.int 5)) (aNil)))) (aNil)))))) (gN 2)) (sCons (sFor (iR1 (aCons (eCall 2 m_law_take (aCons (eV 0) (aCons (eC (.int 4)) (aNil)))) (aNil))) (gN 3) (sIf (tv (eOp ltG (eB lenG (aCons (eV 2) (aNil))) (eC (.int 30)))) (sExpr (eMt "list" (appendG) (eV 2) (aCons (eCall 1 m_law_line_k20 (aCons (eV 0) (aNil))) (aNil)))) (sNext))) (sRet (eTup (aCons (eV 1) (aCons (eSl false (eV 2) (poSome (eOp divG (eCall 2 m_law_take (aCons (eV 0) (aCons (eC (.int 3)) (aNil)))) (eC (.int 2)))) (poNone)) (aNil)))))))
/-- law_strokes: 9 slots, 2 parameters -/
def d_law_strokes : SV := sCons (sAsg (eLst true (aNil)) (gN 2)) (sCons (sFor (iR1 (aCons (eB maxG (aCons (eB lenG (aCons (eV 0) (aNil))) (aCons (eB lenG (aCons (eV 1) (aNil))) (aNil)))) (aNil))) (gN 3) (sCons (sAsg (eOp (addG false) (eOp ixG (eOp (addG false) (eV 0) (eOp (mulG false) (eLst false (aCons (eC (.str [])) (aNil))) (eC (.int 31)))) (eV 3)) (eOp (mulG false) (eC (.str [32])) (eC (.int 400)))) (gN 4)) (sCons (sAsg (eOp (addG false) (eOp ixG (eOp (addG false) (eV 1) (eOp (mulG false) (eLst false (aCons (eC (.str [])) (aNil))) (eC (.int 31)))) (eV 3)) (eOp (mulG false) (eC (.str [32])) (eC (.int 400)))) (gN 5)) (sCons (sAsg (eTup (aCons (eC .non) (aCons (eC (.int 0)) (aNil)))) (gTp 2 (gsCons (gN 6) (gsCons (gN 7) (gsNil))))) (sFor (iR1 (aCons (eC (.int 204)) (aNil))) (gN 8) (sCons (sIf (tAndD (tv (eOp (isG true) (eV 6) (eC .non))) (tv (eOp gtG (eOp subG (eV 8) (eV 7)) (eC (.int 3))))) (sCons (sExpr (eMt "list" (appendG) (eV 2) (aCons (eTup (aCons (eV 3) (aCons (eV 6) (aCons (eSl false (eV 5) (poSome (eV 6)) (poSome (eOp (addG false) (eV 7) (eC (.int 1))))) (aNil))))) (aNil)))) (sAsg (eC .non) (gN 6))) (sNext)) (sIf (tv (eOp (eqG true) (eOp ixG (eV 4) (eV 8)) (eOp ixG (eV 5) (eV 8)))) (sPar 6 7 (aCons (eOp ixG (eLst false (aCons (eV 6) (aCons (eV 8) (aNil)))) (eB intG (aCons (eOp (isG false) (eV 6) (eC .non)) (aNil)))) (aCons (eV 8) (aNil)))) (sNext)))))))) (sRet (eV 2)))
/-- law_k20: 13 slots, 1 parameters -/
def d_law_k20 (m_law_begun : FV) (m_law_alike : FV) (m_strokes : FV) (m_law_lines_two : FV) (m_law_strokes : FV) (m_law_odd_lines : FV) : SV := sCons (sAsg (eCall 1 m_law_begun (aCons (eV 0) (aNil))) (gN 1)) (sCons (sFor (iR1 (aCons (eC (.int 3)) (aNil))) (gN 2) (sCons (sAsg (eCall 1 m_law_lines_two (aCons (eV 1) (aNil))) (gTp 2 (gsCons (gN 3) (gsCons (gN 4) (gsNil))))) (sCons (sAsg (eCall 2 m_law_strokes (aCons (eV 3) (aCons (eV 4) (aNil)))) (gN 5)) (sCons (sAsg (eTup (aCons (eB (listG false) (aCons (eV 3) (aNil))) (aCons (eB (listG false) (aCons (eV 4) (aNil))) (aNil)))) (gN 6)) (sCons (sFor (iR1 (aCons (eC (.int 2)) (aNil))) (gN 7) (sCons (sAsg (eCall 2 m_strokes (aCons (eOp ixG (eV 6) (eC (.int 0))) (aCons (eOp ixG (eV 6) (eC (.int 1))) (aNil)))) (gN 8)) (sCons (sIf (tOrD (tNotD (tv (eCall 2 m_law_alike (aCons (eV 8) (aCons (eV 5) (aNil)))))) (tv (eOp (eqG true) (eV 6) (eTup (aCons (eV 3) (aCons (eV 4) (aNil))))))) (sRet (eC (.bl false))) (sNext)) (sExpr (eMt "list" (appendG) (eV 8) (aCons (eTup (aNil)) (aNil))))))) (sCons (sAsg (eCall 2 m_law_odd_lines (aCons (eV 1) (aCons (eV 3) (aNil)))) (gTp 2 (gsCons (gN 9) (gsCons (gN 10) (gsNil))))) (sCons (sAsg (eOp ixG (eCall 2 m_law_odd_lines (aCons (eV 1) (aCons (eV 4) (aNil)))) (eC (.int 0))) (gN 11)) (sCons (sLams 12 (sIf (tNotD (tv (eAll m_law_alike [8] hmT [([9, 4], eCall 2 m_strokes (aCons (eV 0) (aCons (eV 1) (aNil)))), ([9, 11], eCall 2 m_strokes (aCons (eV 0) (aCons (eV 1) (aNil)))), ([9], eCall 2 m_strokes (aCons (eLst false (aNil)) (aCons (eV 0) (aNil))))] (eTup (aCons (eC (.str [66, 97, 100, 76, 105, 110, 101, 115])) (aCons (eV 10) (aNil))))))) (sRet (eC (.bl false))) (sNext))) (sNext))))))))) (sRet (eOp (eqG false) (eCall 2 m_strokes (aCons (eLst false (aNil)) (aCons (eLst false (aNil)) (aNil)))) (eLst false (aNil)))))
end Dl
/-! ## B20 -/
/-! Law k20: strokes (plain lists). -/
namespace Dl
open PySem L2
/-- places brought together: near ones at once -/
def grp : Option (Nat × Nat) → List Nat → List (Nat × Nat)
  | none, [] => []
  | some g, [] => [g]
  | none, p :: ps => grp (some (p, p)) ps
  | some g, p :: ps => if g.2 + 3 < p then g :: grp (some (p, p)) ps else grp (some (g.1, p)) ps
theorem grp_far {g : Nat × Nat} {ps : List Nat} (h : ∀ p ∈ ps, g.2 + 3 < p) : grp (some g) ps = g :: grp none ps := by
  cases ps with
  | nil => rfl
  | cons p ps =>
    simp only [grp]
    rw [if_pos (h p (by simp))]
/-- whether two lines differ there -/
def dif (a b : List Nat) (k : Nat) : Bool := decide (a[k]?.getD 32 ≠ b[k]?.getD 32)
def plc (a b : List Nat) (n : Nat) : List Nat := (List.range n).filter (dif a b)
theorem plc_more {a b : List Nat} {n : Nat} (ha : a.length ≤ n) (hb : b.length ≤ n) : ∀ m, plc a b (n + m) = plc a b n
  | 0 => rfl
  | m + 1 => by
    unfold plc
    rw [← Nat.add_assoc, List.range_succ, List.filter_append, ← plc, plc_more ha hb m]
    have : dif a b (n + m) = false := by
      unfold dif
      rw [List.getElem?_eq_none (by omega), List.getElem?_eq_none (by omega)]
      simp
    simp [this, plc]
theorem plc_lt {a b : List Nat} {n : Nat} : ∀ p ∈ plc a b n, p < n := fun p hp => List.mem_range.mp (List.mem_filter.mp hp).1
/-- the signs of a stroke -/
def sgL (b : List Nat) (g : Nat × Nat) : List Nat := ((b ++ List.replicate 400 32).drop g.1).take (g.2 + 1 - g.1)
def strkD (n : Nat) (a b : List Nat) : List D := (grp none (plc a b 204)).map fun g => .tup [.int n, .int g.1, .str (sgL b g)]
theorem sg_lj {b : List Nat} {w : Nat} {g : Nat × Nat} (hw : w ≤ 400) (h : g.2 < w) : ((ljustL b w).drop g.1).take (g.2 + 1 - g.1) = sgL b g := by
  unfold sgL ljustL
  refine List.ext_getElem? fun i => ?_
  rw [List.getElem?_take, List.getElem?_take]
  by_cases hi : i < g.2 + 1 - g.1
  · rw [if_pos hi, if_pos hi, List.getElem?_drop, List.getElem?_drop]
    by_cases h1 : g.1 + i < b.length
    · rw [List.getElem?_append_left h1, List.getElem?_append_left h1]
    · rw [List.getElem?_append_right (by omega), List.getElem?_append_right (by omega), List.getElem?_replicate, List.getElem?_replicate, if_pos (by simp; omega), if_pos (by omega)]
  · rw [if_neg hi, if_neg hi]
/-- what is to be told of the rest, by the state of the program's loop ahead of the k-th place -/
def grpAt (ps : List Nat) (k : Nat) : Option Nat → List (Nat × Nat)
  | none => grp none (ps.drop k)
  | some b => grp (some (b, ps[k - 1]?.getD 0)) (ps.drop k)
theorem grp_bounds : ∀ (ps : List Nat) (s : Option (Nat × Nat)) (n : Nat), (∀ p ∈ ps, p < n) → (∀ g, s = some g → g.1 < n ∧ g.2 < n) → ∀ g ∈ grp s ps, g.1 < n ∧ g.2 < n
  | [], none, n, _, _ => fun g hg => by cases hg
  | [], some s, n, _, h => fun g hg => by rw [grp] at hg; rw [List.mem_singleton.mp hg]; exact h s rfl
  | p :: ps, none, n, hp, _ => fun g hg => by
    rw [grp] at hg
    exact grp_bounds ps _ n (fun q hq => hp q (by simp [hq])) (fun g e => by cases e; exact ⟨hp p (by simp), hp p (by simp)⟩) g hg
  | p :: ps, some s, n, hp, h => fun g hg => by
    rw [grp] at hg
    split at hg
    · rcases List.mem_cons.mp hg with rfl | hg
      · exact h _ rfl
      · exact grp_bounds ps _ n (fun q hq => hp q (by simp [hq])) (fun g e => by cases e; exact ⟨hp p (by simp), hp p (by simp)⟩) g hg
    · exact grp_bounds ps _ n (fun q hq => hp q (by simp [hq])) (fun g e => by cases e; exact ⟨(h s rfl).1, hp p (by simp)⟩) g hg
def onInt (p : Nat → Bool) : D → Bool
  | .int i => p i.toNat
  | _ => false
/-- lists of numbers kept by a test -/
theorem ints_filter (n : Nat) (p : Nat → Bool) : (intsD 0 n).filter (onInt p) = ((List.range n).filter p).map fun (k : Nat) => D.int (k : Int) := by
  have e : intsD 0 n = (List.range n).map fun (k : Nat) => D.int (k : Int) := by
    refine List.ext_getElem? fun i => ?_
    rw [List.getElem?_map]
    by_cases hi : i < n
    · rw [ints_at 0 n i hi, List.getElem?_range hi]; simp
    · rw [List.getElem?_eq_none (by simp; omega), List.getElem?_eq_none (by simp; omega)]; rfl
  rw [e, List.filter_map]
  congr 1
end Dl
/-! ## B20b -/
/-! Law k20: strokes_of, strokes. -/
namespace Dl
open PySem L2
theorem cut_ft20 {A : Type} (xs : List A) (a b : Nat) : cutD xs (some (a : Int)) (some (b : Int)) = (xs.drop a).take (b - a) := by
  unfold cutD
  rw [HT.sIx_nat, HT.sIx_nat]
  by_cases h : a ≤ xs.length
  · rw [Nat.min_eq_left h]
    by_cases h2 : b ≤ xs.length
    · rw [Nat.min_eq_left h2]
    · rw [Nat.min_eq_right (by omega), List.take_of_length_le (by simp), List.take_of_length_le (by rw [List.length_drop]; omega)]
  · rw [Nat.min_eq_right (by omega : xs.length ≤ a), List.drop_of_length_le (Nat.le_refl _), List.drop_of_length_le (by omega)]
    simp
def intD (ps : List Nat) : List D := ps.map fun (k : Nat) => D.int (k : Int)
@[simp] theorem intD_len (ps : List Nat) : (intD ps).length = ps.length := by simp [intD]
theorem intD_at {ps : List Nat} {k p : Nat} (h : ps[k]? = some p) : atI (intD ps) (k : Int) = some (.int (p : Int)) := by
  rw [atI_nat]; unfold intD; rw [List.getElem?_map, h]; rfl
def begD : Option Nat → D
  | none => .non
  | some b => .int (b : Int)
def m_strokes_of : FV := funD 8 d_strokes_of
def stkD (n : Nat) (b : List Nat) (g : Nat × Nat) : D := .tup [.int n, .int g.1, .str (sgL b g)]
theorem grpAt_none {ps : List Nat} {k p : Nat} (h : ps[k]? = some p) : grpAt ps k none = grp (some (p, p)) (ps.drop (k + 1)) := by
  have hk := (List.getElem?_eq_some_iff.mp h).1
  have e : ps[k] = p := (List.getElem?_eq_some_iff.mp h).2
  unfold grpAt
  simp only
  rw [List.drop_eq_getElem_cons hk, e]
  rfl
theorem plc_up {a b : List Nat} {n : Nat} : (plc a b n).Pairwise (· < ·) := List.Pairwise.filter _ List.pairwise_lt_range
theorem strokes_of_ok (n : Nat) {a b : List Nat} (ha : a.length ≤ 200) (hb : b.length ≤ 200) (st : Store) :
    m_strokes_of [.int n, .str a, .str b] st = .ok (.ref st.length, st ++ [.lst (strkD n a b)]) := by
  unfold m_strokes_of funD d_strokes_of
  generalize hw : max a.length b.length = w
  have hw2 : w ≤ 200 := by omega
  have mx : ∀ st, maxG st [.int (a.length : Int), .int (b.length : Int)] = .ok (.int (w : Int), st) := fun st => by
    show R.ok (D.int (max (a.length : Int) b.length), st) = _
    congr 3; omega
  have lj : ∀ (s : List Nat) st, ljustG st (.str s) [.int (w : Int)] = .ok (.str (ljustL s w), st) := fun s st => by
    have : -1000000 ≤ (w : Int) ∧ (w : Int) ≤ 1000000 := by omega
    simp [ljustG, this]
  have m1 : -1000000 ≤ (w : Int) ∧ (w : Int) ≤ 1000000 := by omega
  have m2 : w ≤ LIM := le_LIM (by omega)
  simp [len_s, mx, tyM, lj, m1, m2]
  rw [lc_keep rfl (onInt (dif a b)) _ (fun d hd => ?_) (by simp [wipeD])]
  · rw [ints_filter w (dif a b)]
    have eP : (List.range w).filter (dif a b) = plc a b 204 := by
      have := plc_more (a := a) (b := b) (n := w) (by omega) (by omega) (204 - w)
      rw [show w + (204 - w) = 204 by omega] at this
      rw [this]; rfl
    rw [eP]
    have hlt : ∀ p ∈ plc a b 204, p < w := fun p hp => by
      rw [← eP] at hp
      exact List.mem_range.mp (List.mem_filter.mp hp).1
    have hup := plc_up (a := a) (b := b) (n := 204)
    unfold strkD
    generalize plc a b 204 = ps at hlt hup ⊢
    have hpl : ps.length ≤ 200 := by
      have key : ∀ (l : List Nat) (m : Nat), l.Pairwise (· < ·) → (∀ p ∈ l, m ≤ p ∧ p < w) → l.length + m ≤ w ∨ l = [] := by
        intro l
        induction l with
        | nil => exact fun _ _ _ => .inr rfl
        | cons p l ih =>
          intro m hp hl
          rw [List.pairwise_cons] at hp
          have h1 := hl p (by simp)
          rcases ih (p + 1) hp.2 (fun q hq => ⟨hp.1 q hq, (hl q (by simp [hq])).2⟩) with h | h
          · simp; omega
          · subst h; simp; omega
      rcases key ps 0 hup (fun p hp => ⟨Nat.zero_le _, hlt p hp⟩) with h | h
      · omega
      · rw [h]; simp
    rw [show (ps.map fun (k : Nat) => D.int (k : Int)) = intD ps from rfl]
    have m3 : -1000000 ≤ (ps.length : Int) ∧ (ps.length : Int) ≤ 1000000 := by omega
    simp [len_l, m3]
    generalize hf : forGo _ _ _ _ _ _ = r
    obtain ⟨e, s', rfl, E, beg, a7, h1, h2, rfl, rfl⟩ := for_at hf (fun k env st' => ∃ (E : List (Nat × Nat)) (beg : Option Nat) (a7 : Option D), E ++ grpAt ps k beg = grp none ps ∧ (∀ b0, beg = some b0 → b0 ≤ 200 ∧ 1 ≤ k ∧ k < ps.length ∧ ps[k]?.getD 0 ≤ ps[k - 1]?.getD 0 + 3) ∧ st' = st ++ [.lst (E.map (stkD n b))] ∧
      env = [some (.int n), some (.str (ljustL a w)), some (.str (ljustL b w)), some (.int w), some (.lst (intD ps)), some (.ref st.length), some (begD beg), a7]) ⟨[], none, none, rfl, fun _ e => (by cases e), by simp, rfl⟩ (fun _ _ _ _ _ => rfl) (fun k x env st' hk ⟨E, beg, a7, h1, h2, e1, e2⟩ => by
        subst e1 e2
        obtain ⟨hk', rfl⟩ := ints_get hk
        replace hk := hk'
        obtain ⟨p, hp⟩ : ∃ p, ps[k]? = some p := ⟨ps[k], by simp [hk]⟩
        have hpw := hlt p (List.mem_of_getElem? hp)
        have ep : ps[k] = p := (List.getElem?_eq_some_iff.mp hp).2
        have ip := intD_at hp
        rw [r_gN]
        simp only [sOf_m, List.set_cons_succ, List.set_cons_zero]
        -- the begin
        obtain ⟨b1, hb1, hg1, s1⟩ : ∃ b1 : Nat, b1 ≤ 200 ∧ grpAt ps k beg = grp (some (b1, p)) (ps.drop (k + 1)) ∧ eIf (tv (eOp (isG false) (eV 6) (eC .non))) (eOp ixG (eV 4) (eV 7)) (eV 6) [some (.int n), some (.str (ljustL a w)), some (.str (ljustL b w)), some (.int w), some (.lst (intD ps)), some (.ref st.length), some (begD beg), some (.int k)] (st ++ [.lst (E.map (stkD n b))]) = .ok (.int (b1 : Int), st ++ [.lst (E.map (stkD n b))]) := by
          cases beg with
          | none => exact ⟨p, by omega, grpAt_none hp, by simp [begD, isG, ixL, ip]⟩
          | some b0 =>
            obtain ⟨q0, q1, q2, q3⟩ := h2 b0 rfl
            refine ⟨b0, q0, ?_, by simp [begD, isG]⟩
            unfold grpAt
            simp only
            rw [List.drop_eq_getElem_cons hk, ep, grp, if_neg (by rw [hp] at q3; simp at q3 ⊢; omega)]
        rw [sCons_nx (sAsgN_at s1)]
        simp only [List.set_cons_succ, List.set_cons_zero]
        rw [hg1] at h1
        have cond : ∃ c : Bool, (c = true ↔ (k + 1 = ps.length ∨ ∃ q, ps[k + 1]? = some q ∧ p + 3 < q)) ∧ tOrD (tv (eOp (eqG false) (eOp (addG false) (eV 7) (eC (.int 1))) (eB lenG (aCons (eV 4) (aNil))))) (tv (eOp gtG (eOp subG (eOp ixG (eV 4) (eOp (addG false) (eV 7) (eC (.int 1)))) (eOp ixG (eV 4) (eV 7))) (eC (.int 3)))) [some (.int n), some (.str (ljustL a w)), some (.str (ljustL b w)), some (.int w), some (.lst (intD ps)), some (.ref st.length), some (.int b1), some (.int k)] (st ++ [.lst (E.map (stkD n b))]) = .ok (c, st ++ [.lst (E.map (stkD n b))]) := by
          by_cases hl : k + 1 = ps.length
          · have hl' : (k : Int) + 1 = ps.length := by omega
            exact ⟨true, by simp [hl], by simp [add_ii, len_l, hl']⟩
          · have hl' : ¬ (k : Int) + 1 = ps.length := by omega
            obtain ⟨q, hq⟩ : ∃ q, ps[k + 1]? = some q := ⟨ps[k + 1], by rw [List.getElem?_eq_getElem (by omega)]⟩
            have iq := intD_at hq
            rw [show ((k + 1 : Nat) : Int) = (k : Int) + 1 by omega] at iq
            refine ⟨decide (p + 3 < q), by simp [hl, hq], ?_⟩
            have sub : ∀ st, subG st (.int (q : Int)) (.int (p : Int)) = .ok (.int ((q : Int) - p), st) := fun st => rfl
            simp [add_ii, len_l, hl', ixL, ip, iq, sub, gtG]
            omega
        obtain ⟨c, hc, ec⟩ := cond
        rw [sIf_at ec]
        by_cases h : k + 1 = ps.length ∨ ∃ q, ps[k + 1]? = some q ∧ p + 3 < q
        · rw [hc.mpr h, if_pos rfl]
          have cs : cutD (ljustL b (w : Int)) (some (b1 : Int)) (some ((p : Int) + 1)) = sgL b (b1, p) := by
            rw [show (p : Int) + 1 = ((p + 1 : Nat) : Int) by omega, cut_ft20]
            exact sg_lj (g := (b1, p)) (by omega) hpw
          have El : E.length ≤ 1000 := by
            have := congrArg List.length h1
            have key : ∀ (l : List Nat) (s : Option (Nat × Nat)), (grp s l).length ≤ l.length + 1 := by
              intro l
              induction l with
              | nil => intro s; cases s <;> simp [grp]
              | cons p l ih =>
                intro s
                cases s with
                | none => rw [grp]; have := ih (some (p, p)); simp; omega
                | some g =>
                  rw [grp]
                  split
                  · have := ih (some (p, p)); simp; omega
                  · have := ih (some (g.1, p)); simp; omega
            have k2 := key ps none
            rw [← this, List.length_append] at k2
            omega
          have ap := fr_app st (L := E.map (stkD n b)) (stkD n b (b1, p)) (by simp; omega)
          have ty := fr_ty st (E.map (stkD n b))
          unfold stkD at ap ty
          generalize hS : st ++ [Ob.lst (E.map (stkD n b))] = S at *
          unfold stkD at hS
          rw [hS] at ap ty
          simp [ixL, ip, add_ii, sl_s, cs, ty, ap]
          refine ⟨E ++ [(b1, p)], none, ?_, fun _ e => (by cases e), by simp [stkD], rfl⟩
          rw [List.append_assoc, ← h1]
          congr 1
          show [(b1, p)] ++ grp none (ps.drop (k + 1)) = _
          rcases h with h | ⟨q, hq, hf⟩
          · rw [List.drop_of_length_le (by omega)]; rfl
          · have hk1 := (List.getElem?_eq_some_iff.mp hq).1
            have eq2 : ps[k + 1] = q := (List.getElem?_eq_some_iff.mp hq).2
            rw [List.drop_eq_getElem_cons hk1, eq2]
            simp only [grp]
            rw [if_pos hf]
            rfl
        · have hcf : c = false := by
            cases c with
            | false => rfl
            | true => exact absurd (hc.mp rfl) h
          rw [hcf, if_neg (by decide)]
          refine ⟨E, some b1, _, ?_, fun b0 e => ?_, rfl, rfl⟩
          · rw [← h1]
            unfold grpAt
            simp only [Nat.add_sub_cancel, hp, Option.getD_some]
          · cases e
            have hl : k + 1 < ps.length := by
              rcases Nat.lt_or_ge (k + 1) ps.length with z | z
              · exact z
              · exact absurd (.inl (by omega)) h
            refine ⟨hb1, by omega, hl, ?_⟩
            rw [Nat.add_sub_cancel, hp, List.getElem?_eq_getElem hl]
            simp only [Option.getD_some]
            rcases Nat.lt_or_ge (p + 3) ps[k + 1] with z | z
            · exact absurd (.inr ⟨_, List.getElem?_eq_getElem hl, z⟩) h
            · exact z)
    rw [intsD_len] at h1 h2
    have hb : beg = none := by
      cases beg with
      | none => rfl
      | some b0 => have := (h2 b0 rfl).2.2.1; omega
    subst hb
    have e9 : E = grp none ps := by
      rw [← h1]
      unfold grpAt
      simp [grp]
    subst e9
    simp [stkD]
  · obtain ⟨i, hi⟩ := List.getElem?_of_mem hd
    obtain ⟨hi, rfl⟩ := ints_get hi
    have g : ∀ s : List Nat, s.length ≤ w → atI (ljustL s w) (i : Int) = some (s[i]?.getD 32) := fun s hs => by
      rw [atI_nat]
      unfold ljustL
      by_cases h1 : i < s.length
      · rw [List.getElem?_append_left h1, List.getElem?_eq_getElem h1]; rfl
      · rw [List.getElem?_append_right (by omega), List.getElem?_replicate, if_pos (by simp; omega), List.getElem?_eq_none (by omega)]; rfl
    have g1 := g a (by omega)
    have g2 := g b (by omega)
    simp [wipeD, ixG, g1, g2, onInt, dif]
end Dl
/-! ## B20c -/
/-! Law k20: strokes; the law's own. -/
namespace Dl
open PySem L2
def m_strokes : FV := funD 6 (d_strokes m_need_lines m_strokes_of)
def strkN (l1 l2 : List (List Nat)) : Nat → List D
  | 0 => []
  | n + 1 => strkN l1 l2 n ++ strkD n (lineAt l1 n) (lineAt l2 n)
def strkA (l1 l2 : List (List Nat)) : List D := strkN l1 l2 (max l1.length l2.length)
theorem grp_len : ∀ (l : List Nat) (s : Option (Nat × Nat)), (grp s l).length ≤ l.length + 1
  | [], s => by cases s <;> simp [grp]
  | p :: l, s => by
    cases s with
    | none => rw [grp]; have := grp_len l (some (p, p)); simp; omega
    | some g =>
      rw [grp]
      split
      · have := grp_len l (some (p, p)); simp; omega
      · have := grp_len l (some (g.1, p)); simp; omega
theorem strkD_len (n : Nat) (a b : List Nat) : (strkD n a b).length ≤ 205 := by
  unfold strkD
  rw [List.length_map]
  have h1 := grp_len (plc a b 204) none
  have h2 : (plc a b 204).length ≤ 204 := by
    unfold plc
    refine Nat.le_trans (List.length_filter_le _ _) ?_
    simp
  omega
theorem strkN_len (l1 l2 : List (List Nat)) : ∀ n, (strkN l1 l2 n).length ≤ 205 * n
  | 0 => by simp [strkN]
  | n + 1 => by
    have := strkN_len l1 l2 n
    have h := strkD_len n (lineAt l1 n) (lineAt l2 n)
    rw [strkN, List.length_append]; omega
theorem strokes_bad1 {ds : List D} {k : Nat} (h : BadL ds k) (d : D) (st : Store) : m_strokes [.lst ds, d] st = .exc 8 (some (.int k)) st := by
  unfold m_strokes funD d_strokes
  simp [h.exc st]
theorem strokes_bad2 {ls : List (List Nat)} (hl : ls.length ≤ 30) (hok : ∀ s ∈ ls, okLine s = true) {ds : List D} {k : Nat} (h : BadL ds k) (st : Store) : m_strokes [.lst (strsD ls), .lst ds] st = .exc 8 (some (.int k)) st := by
  have nl := need_lines_ok (d := .lst (strsD ls)) (w := []) (st := st) rfl (by simp; exact hl) (strs_lines hok)
  unfold m_strokes funD d_strokes
  simp [nl, h.exc st]
theorem strokes_ok {l1 l2 : List (List Nat)} (h1 : l1.length ≤ 30) (h2 : l2.length ≤ 30) (k1 : ∀ s ∈ l1, okLine s = true) (k2 : ∀ s ∈ l2, okLine s = true) (st : Store) :
    ∃ mid, m_strokes [.lst (strsD l1), .lst (strsD l2)] st = .ok (.ref st.length, st ++ .lst (strkA l1 l2) :: mid) := by
  have nl1 := need_lines_ok (d := .lst (strsD l1)) (w := []) (st := st) rfl (by simp; exact h1) (strs_lines k1)
  have nl2 := need_lines_ok (d := .lst (strsD l2)) (w := []) (st := st) rfl (by simp; exact h2) (strs_lines k2)
  unfold m_strokes funD d_strokes
  generalize hN : max l1.length l2.length = N
  have mx : ∀ st, maxG st [.int (l1.length : Int), .int (l2.length : Int)] = .ok (.int (N : Int), st) := fun st => by
    show R.ok (D.int (max (l1.length : Int) l2.length), st) = _
    congr 3; omega
  have m1 : -1000000 ≤ (N : Int) ∧ (N : Int) ≤ 1000000 := by omega
  simp [nl1, nl2, len_l, mx, m1]
  generalize hf : forGo _ _ _ _ _ _ = r
  obtain ⟨e, s', rfl, mid, rfl, a3, a4, a5, rfl⟩ := for_at hf (fun i env st' => ∃ mid, st' = st ++ .lst (strkN l1 l2 i) :: mid ∧ ∃ a3 a4 a5, env = [some (.lst (strsD l1)), some (.lst (strsD l2)), some (.ref st.length), a3, a4, a5]) ⟨[], rfl, _, _, _, rfl⟩ (fun _ _ _ _ _ => rfl) (fun i x env st' hi ⟨mid, e1, a3, a4, a5, e2⟩ => by
    subst e1 e2
    obtain ⟨hi, rfl⟩ := ints_get hi
    rw [r_gN]
    simp only [sOf_m, List.set_cons_succ, List.set_cons_zero]
    have line : ∀ (ls : List (List Nat)) (j : Nat) (env : Env) (S : Store), env[j]? = some (some (.lst (strsD ls))) → env[3]? = some (some (.int i)) → eIf (tv (eOp ltG (eV 3) (eB lenG (aCons (eV j) (aNil))))) (eOp ixG (eV j) (eV 3)) (eC (.str [])) env S = .ok (.str (lineAt ls i), S) := fun ls j env S g1 g2 => by
      by_cases h : i < ls.length
      · have h' : (i : Int) < ls.length := by omega
        have ei : atI (strsD ls) (i : Int) = some (.str (lineAt ls i)) := by
          rw [atI_nat]
          unfold lineAt
          rw [strsD_get (List.getElem?_eq_getElem h), List.getElem?_eq_getElem h]; rfl
        simp [g1, g2, len_l, ltG, h', ixL, ei]
      · have h' : ¬ (i : Int) < ls.length := by omega
        have e : lineAt ls i = [] := by unfold lineAt; rw [List.getElem?_eq_none (by omega)]; rfl
        simp [g1, g2, len_l, ltG, h', e]
    rw [sCons_nx (sAsgN_at (line l1 0 _ _ rfl rfl))]
    simp only [List.set_cons_succ, List.set_cons_zero]
    rw [sCons_nx (sAsgN_at (line l2 1 _ _ rfl rfl))]
    simp only [List.set_cons_succ, List.set_cons_zero]
    have q1 := lineAt_ok k1 i
    have q2 := lineAt_ok k2 i
    have so := strokes_of_ok i q1.1 q2.1 (st ++ .lst (strkN l1 l2 i) :: mid)
    have sl := strkN_len l1 l2 i
    have sd := strkD_len i (lineAt l1 i) (lineAt l2 i)
    have eN : strkN l1 l2 (i + 1) = strkN l1 l2 i ++ strkD i (lineAt l1 i) (lineAt l2 i) := rfl
    rw [eN]
    generalize strkD i (lineAt l1 i) (lineAt l2 i) = X at so sd ⊢
    generalize hB : st ++ Ob.lst (strkN l1 l2 i) :: mid = B at so ⊢
    have g1 : (B ++ [Ob.lst X])[st.length]? = some (.lst (strkN l1 l2 i)) := by
      rw [List.getElem?_append_left (by rw [← hB]; simp), ← hB, List.getElem?_append_right (Nat.le_refl _)]
      simp
    have g2 := fr_list B X
    have g3 := lst_list g2
    have ex : extendG (B ++ [Ob.lst X]) (.ref st.length) [.ref B.length] = .ok (.non, st ++ .lst (strkN l1 l2 i ++ X) :: (mid ++ [.lst X])) := by
      unfold extendG
      simp only [g1, g3]
      have hlim : (strkN l1 l2 i).length + X.length ≤ LIM := le_LIM (by omega)
      rw [if_pos hlim, ← hB, List.append_assoc, List.set_append_right _ _ (Nat.le_refl _)]
      simp
    have ty : tyM B (.ref st.length) = some "list" := by
      have : B[st.length]? = some (.lst (strkN l1 l2 i)) := by
        rw [← hB, List.getElem?_append_right (Nat.le_refl _)]; simp
      simp only [tyM, this]
    generalize B ++ [Ob.lst X] = S1 at *
    generalize B.length = kb at *
    simp [ty, so, ex])
  rw [intsD_len]
  refine ⟨mid, ?_⟩
  unfold strkA
  rw [hN]
  simp
/-! ### the law's own -/
def m_law_strokes : FV := funD 9 d_law_strokes
/-- the state of the law's going at k: what is begun, where it differed last -/
def opnAt (beg : Option Nat) (l : Nat) : Option (Nat × Nat) := beg.map fun b => (b, l)
theorem filter_from (p : Nat → Bool) (n k : Nat) (hk : k < n) : ((List.range n).drop k).filter p = (if p k = true then [k] else []) ++ ((List.range n).drop (k + 1)).filter p := by
  rw [List.drop_eq_getElem_cons (by simpa using hk), List.getElem_range, List.filter_cons]
  split <;> rfl
theorem law_strokes_ok {l1 l2 : List (List Nat)} (h1 : l1.length ≤ 30) (h2 : l2.length ≤ 30) (k1 : ∀ s ∈ l1, okLine s = true) (k2 : ∀ s ∈ l2, okLine s = true) (st : Store) :
    m_law_strokes [.lst (strsD l1), .lst (strsD l2)] st = .ok (.ref st.length, st ++ [.lst (strkA l1 l2)]) := by
  unfold m_law_strokes funD d_law_strokes
  generalize hN : max l1.length l2.length = N
  have mx : ∀ st, maxG st [.int (l1.length : Int), .int (l2.length : Int)] = .ok (.int (N : Int), st) := fun st => by
    show R.ok (D.int (max (l1.length : Int) l2.length), st) = _
    congr 3; omega
  have m1 : -1000000 ≤ (N : Int) ∧ (N : Int) ≤ 1000000 := by omega
  simp [len_l, mx, m1]
  generalize hf : forGo _ _ _ _ _ _ = r
  obtain ⟨e, s', rfl, rfl, a3, a4, a5, a6, a7, a8, rfl⟩ := for_at hf (fun i env st' => st' = st ++ [.lst (strkN l1 l2 i)] ∧ ∃ a3 a4 a5 a6 a7 a8, env = [some (.lst (strsD l1)), some (.lst (strsD l2)), some (.ref st.length), a3, a4, a5, a6, a7, a8]) ⟨rfl, _, _, _, _, _, _, rfl⟩ (fun _ _ _ _ _ => rfl) (fun i x env st' hi ⟨e1, a3, a4, a5, a6, a7, a8, e2⟩ => by
    subst e1 e2
    obtain ⟨hi, rfl⟩ := ints_get hi
    rw [r_gN]
    simp only [sOf_m, List.set_cons_succ, List.set_cons_zero]
    generalize hB : st ++ [Ob.lst (strkN l1 l2 i)] = B
    have line : ∀ (ls : List (List Nat)) (j : Nat) (env : Env), ls.length ≤ 30 → (∀ s ∈ ls, okLine s = true) → env[j]? = some (some (.lst (strsD ls))) → env[3]? = some (some (.int i)) → eOp (addG false) (eOp ixG (eOp (addG false) (eV j) (eOp (mulG false) (eLst false (aCons (eC (.str [])) (aNil))) (eC (.int 31)))) (eV 3)) (eOp (mulG false) (eC (.str [32])) (eC (.int 400))) env B = .ok (.str (lineAt ls i ++ List.replicate 400 32), B) := fun ls j env hl hk g1 g2 => by
      have ml := mul_l1 B (.str []) 31 (by decide) (by decide)
      generalize hR : List.replicate (31 : Int).toNat (D.str []) = R31 at ml
      have lR : R31.length = 31 := by rw [← hR]; rfl
      have ad := add_ll B (strsD ls) R31 (by simp; omega)
      have ei : atI (strsD ls ++ R31) (i : Int) = some (.str (lineAt ls i)) := by
        rw [atI_nat]
        unfold lineAt
        by_cases h : i < ls.length
        · rw [List.getElem?_append_left (by simp; exact h), strsD_get (List.getElem?_eq_getElem h), List.getElem?_eq_getElem h]; rfl
        · rw [List.getElem?_append_right (by simp; omega), ← hR, List.getElem?_replicate, if_pos (by simp; omega), List.getElem?_eq_none (by omega)]; rfl
      have ms := mul_sb B 400 (by decide)
      have ll := (lineAt_ok hk i).1
      generalize hR4 : List.replicate 400 32 = R4 at ms ⊢
      have lR4 : R4.length = 400 := by rw [← hR4]; exact List.length_replicate
      have as := add_ss B (lineAt ls i) R4 (by omega)
      rw [show ((400 : Nat) : Int) = 400 from rfl] at ms
      generalize lineAt ls i ++ R4 = X4 at as ⊢
      generalize strsD ls ++ R31 = X5 at ad ei
      generalize lineAt ls i = X7 at ei as
      simp [g1, g2, ml, ad, ixL, ei, ms, as]
    rw [sCons_nx (sAsgN_at (line l1 0 _ h1 k1 rfl rfl))]
    simp only [List.set_cons_succ, List.set_cons_zero]
    rw [sCons_nx (sAsgN_at (line l2 1 _ h2 k2 rfl rfl))]
    simp only [List.set_cons_succ, List.set_cons_zero]
    have q1 := lineAt_ok k1 i
    have q2 := lineAt_ok k2 i
    have sl := strkN_len l1 l2 i
    have eN : strkN l1 l2 (i + 1) = strkN l1 l2 i ++ strkD i (lineAt l1 i) (lineAt l2 i) := rfl
    rw [eN]
    generalize lineAt l1 i = a at q1 ⊢
    generalize lineAt l2 i = b at q2 ⊢
    generalize hR4 : List.replicate 400 32 = R4
    rw [sCons_nx (e := [some (.lst (strsD l1)), some (.lst (strsD l2)), some (.ref st.length), some (.int i), some (.str (a ++ R4)), some (.str (b ++ R4)), some .non, some (.int 0), a8]) (s := B) (by simp)]
    have m2 : -1000000 ≤ (204 : Int) ∧ (204 : Int) ≤ 1000000 := by decide
    simp
    generalize hf : forGo _ _ _ _ _ _ = r
    rw [← hB] at hf
    have pick : ∀ (s : List Nat) (k : Nat), s.length ≤ 200 → k < 204 → atI (s ++ R4) (k : Int) = some (s[k]?.getD 32) := fun s k hs hk => by
      rw [atI_nat, ← hR4]
      by_cases h : k < s.length
      · rw [List.getElem?_append_left h, List.getElem?_eq_getElem h]; rfl
      · rw [List.getElem?_append_right (by omega), List.getElem?_replicate, if_pos (by omega), List.getElem?_eq_none (by omega)]; rfl
    have difLt : ∀ k, dif a b k = true → k < 200 := fun k hk => by
      rcases Nat.lt_or_ge k 200 with z | z
      · exact z
      · unfold dif at hk
        rw [List.getElem?_eq_none (by omega), List.getElem?_eq_none (by omega)] at hk
        simp at hk
    obtain ⟨e, s', rfl, E, beg, la, a8', g1, g2, rfl, rfl⟩ := for_at hf (fun k env st' => ∃ (E : List (Nat × Nat)) (beg : Option Nat) (la : Nat) (a8 : Option D), E ++ grp (opnAt beg la) (((List.range 204).drop k).filter (dif a b)) = grp none (plc a b 204) ∧ (∀ b0, beg = some b0 → b0 ≤ la ∧ la < 200 ∧ la < k ∧ k ≤ la + 4) ∧ st' = st ++ [.lst (strkN l1 l2 i ++ E.map (stkD i b))] ∧
      env = [some (.lst (strsD l1)), some (.lst (strsD l2)), some (.ref st.length), some (.int i), some (.str (a ++ R4)), some (.str (b ++ R4)), some (begD beg), some (.int la), a8]) ⟨[], none, 0, a8, rfl, fun _ e => (by cases e), by simp, rfl⟩ (fun _ _ _ _ _ => rfl) (fun k x env st' hk ⟨E, beg, la, a8, g1, g2, e1, e2⟩ => by
        subst e1 e2
        obtain ⟨hk', rfl⟩ := ints_get hk
        replace hk : k < 204 := hk'
        have El : E.length ≤ 300 := by
          have := congrArg List.length g1
          have k2 := grp_len (plc a b 204) none
          have k3 : (plc a b 204).length ≤ 204 := by
            unfold plc
            refine Nat.le_trans (List.length_filter_le _ _) ?_
            simp
          rw [← this, List.length_append] at k2
          omega
        rw [r_gN]
        simp only [sOf_m, List.set_cons_succ, List.set_cons_zero]
        -- the stroke is over
        obtain ⟨E2, beg2, f1, f2, s1⟩ : ∃ (E2 : List (Nat × Nat)) (beg2 : Option Nat), E2 ++ grp (opnAt beg2 la) (((List.range 204).drop k).filter (dif a b)) = grp none (plc a b 204) ∧ (∀ b0, beg2 = some b0 → b0 ≤ la ∧ la < 200 ∧ la < k ∧ k ≤ la + 3) ∧
            sIf (tAndD (tv (eOp (isG true) (eV 6) (eC .non))) (tv (eOp gtG (eOp subG (eV 8) (eV 7)) (eC (.int 3))))) (sCons (sExpr (eMt "list" (appendG) (eV 2) (aCons (eTup (aCons (eV 3) (aCons (eV 6) (aCons (eSl false (eV 5) (poSome (eV 6)) (poSome (eOp (addG false) (eV 7) (eC (.int 1))))) (aNil))))) (aNil)))) (sAsg (eC .non) (gN 6))) (sNext)
              [some (.lst (strsD l1)), some (.lst (strsD l2)), some (.ref st.length), some (.int i), some (.str (a ++ R4)), some (.str (b ++ R4)), some (begD beg), some (.int la), some (.int k)] (st ++ [.lst (strkN l1 l2 i ++ E.map (stkD i b))])
            = .nx [some (.lst (strsD l1)), some (.lst (strsD l2)), some (.ref st.length), some (.int i), some (.str (a ++ R4)), some (.str (b ++ R4)), some (begD beg2), some (.int la), some (.int k)] (st ++ [.lst (strkN l1 l2 i ++ E2.map (stkD i b))]) := by
          cases beg with
          | none => exact ⟨E, none, g1, fun _ e => (by cases e), by simp [begD, isG]⟩
          | some b0 =>
            obtain ⟨c1, c2, c3, c4⟩ := g2 b0 rfl
            have sub : ∀ st, subG st (.int (k : Int)) (.int (la : Int)) = .ok (.int ((k : Int) - la), st) := fun st => rfl
            by_cases h : (3 : Int) < (k : Int) - la
            · refine ⟨E ++ [(b0, la)], none, ?_, fun _ e => (by cases e), ?_⟩
              · rw [List.append_assoc, ← g1]
                congr 1
                show [(b0, la)] ++ grp none _ = grp (some (b0, la)) _
                rw [grp_far]
                · rfl
                · intro p hp
                  have := List.mem_of_mem_drop (List.mem_filter.mp hp).1
                  obtain ⟨j, hj⟩ := List.getElem?_of_mem (List.mem_filter.mp hp).1
                  rw [List.getElem?_drop] at hj
                  have hj2 := (List.getElem?_eq_some_iff.mp hj).2
                  simp at hj2
                  show la + 3 < p
                  omega
              · have cs : cutD (b ++ R4) (some (b0 : Int)) (some ((la : Int) + 1)) = sgL b (b0, la) := by
                  rw [show (la : Int) + 1 = ((la + 1 : Nat) : Int) by omega, cut_ft20, ← hR4]; rfl
                have ap := fr_app st (L := strkN l1 l2 i ++ E.map (stkD i b)) (stkD i b (b0, la)) (by simp; omega)
                have ty := fr_ty st (strkN l1 l2 i ++ E.map (stkD i b))
                have eS : strkN l1 l2 i ++ E.map (stkD i b) ++ [stkD i b (b0, la)] = strkN l1 l2 i ++ (E ++ [(b0, la)]).map (stkD i b) := by simp
                rw [eS] at ap
                generalize (E ++ [(b0, la)]).map (stkD i b) = M2 at ap ⊢
                generalize E.map (stkD i b) = M1 at ap ty ⊢
                unfold stkD at ap
                generalize st ++ [Ob.lst (strkN l1 l2 i ++ M1)] = S1 at *
                simp [begD, isG, sub, gtG, h, add_ii, sl_s, cs, ty, ap]
            · exact ⟨E, some b0, g1, fun b1 e => by cases e; exact ⟨c1, c2, c3, by omega⟩, by simp [begD, isG, sub, gtG, h]⟩
        rw [sCons_nx s1]
        have pa := pick a k q1.1 hk
        have pb := pick b k q2.1 hk
        rw [filter_from _ _ _ hk] at f1
        generalize hS1 : st ++ [Ob.lst (strkN l1 l2 i ++ E2.map (stkD i b))] = S1
        have hdif : dif a b k = !decide ([a[k]?.getD 32] = [b[k]?.getD 32]) := by
          unfold dif
          by_cases h : a[k]?.getD 32 = b[k]?.getD 32 <;> simp [h]
        generalize a[k]?.getD 32 = xa at pa hdif
        generalize b[k]?.getD 32 = xb at pb hdif
        rw [sIf_at (b := dif a b k) (sx := S1) (by rw [hdif]; simp [ixG, pa, pb])]
        cases hd : dif a b k with
        | true =>
          have hk2 := difLt k hd
          rw [hd, if_pos rfl] at f1
          rw [if_pos rfl]
          cases beg2 with
          | none =>
            have e : sPar 6 7 (aCons (eOp ixG (eLst false (aCons (eV 6) (aCons (eV 8) (aNil)))) (eB intG (aCons (eOp (isG false) (eV 6) (eC .non)) (aNil)))) (aCons (eV 8) (aNil))) [some (.lst (strsD l1)), some (.lst (strsD l2)), some (.ref st.length), some (.int i), some (.str (a ++ R4)), some (.str (b ++ R4)), some (begD none), some (.int la), some (.int k)] S1 = .nx [some (.lst (strsD l1)), some (.lst (strsD l2)), some (.ref st.length), some (.int i), some (.str (a ++ R4)), some (.str (b ++ R4)), some (begD (some k)), some (.int k), some (.int k)] S1 := by
              simp [begD, isG, intG, ixL]
            rw [e]
            exact ⟨E2, some k, k, _, f1, fun b0 e => by cases e; omega, hS1.symm, rfl⟩
          | some b0 =>
            obtain ⟨c1, c2, c3, c4⟩ := f2 b0 rfl
            have e : sPar 6 7 (aCons (eOp ixG (eLst false (aCons (eV 6) (aCons (eV 8) (aNil)))) (eB intG (aCons (eOp (isG false) (eV 6) (eC .non)) (aNil)))) (aCons (eV 8) (aNil))) [some (.lst (strsD l1)), some (.lst (strsD l2)), some (.ref st.length), some (.int i), some (.str (a ++ R4)), some (.str (b ++ R4)), some (begD (some b0)), some (.int la), some (.int k)] S1 = .nx [some (.lst (strsD l1)), some (.lst (strsD l2)), some (.ref st.length), some (.int i), some (.str (a ++ R4)), some (.str (b ++ R4)), some (begD (some b0)), some (.int k), some (.int k)] S1 := by
              simp [begD, isG, intG, ixL]
            rw [e]
            refine ⟨E2, some b0, k, _, ?_, fun b1 e => by cases e; omega, hS1.symm, rfl⟩
            rw [← f1]
            congr 1
            show _ = grp (some (b0, la)) (k :: _)
            rw [grp, if_neg (by show ¬ la + 3 < k; omega)]
            rfl
        | false =>
          rw [hd, if_neg (by decide), List.nil_append] at f1
          rw [if_neg (by decide)]
          exact ⟨E2, beg2, la, _, f1, fun b0 e => by have := f2 b0 e; omega, hS1.symm, rfl⟩)
    rw [intsD_len] at g1 g2
    have hbeg : beg = none := by
      cases beg with
      | none => rfl
      | some b0 => have := g2 b0 rfl; omega
    subst hbeg
    have e9 : E = grp none (plc a b 204) := by
      rw [← g1, List.drop_of_length_le (by simp)]
      simp [opnAt, grp]
    subst e9
    exact ⟨rfl, _, _, _, _, _, _, rfl⟩)
  rw [intsD_len]
  unfold strkA
  rw [hN]
  simp
end Dl
/-! ## B20d -/
/-! Law k20: what is drawn. -/
namespace Dl
open PySem L2
def m_law_line_near : FV := funD 6 (d_law_line_near m_law_take m_law_sign)
theorem ok_cut {s : List Nat} (h : ∀ c ∈ s, okSign c = true) (n : Nat) : ∀ c ∈ s.take n, okSign c = true := fun c hc => h c (List.mem_of_mem_take hc)
theorem ok_drop {s : List Nat} (h : ∀ c ∈ s, okSign c = true) (n : Nat) : ∀ c ∈ s.drop n, okSign c = true := fun c hc => h c (List.mem_of_mem_drop hc)
theorem ok_app {a b : List Nat} (h : ∀ c ∈ a, okSign c = true) (k : ∀ c ∈ b, okSign c = true) : ∀ c ∈ a ++ b, okSign c = true := fun c hc => by
  rcases List.mem_append.mp hc with z | z
  · exact h c z
  · exact k c z
theorem near20_ok (b : Box) (rest : Store) {s0 : List Nat} (h0 : okLine s0 = true) : ∃ s b', okLine s = true ∧ m_law_line_near [.ref 1, .str s0] (Bx b rest) = .ok (.str s, Bx b' rest) := by
  unfold m_law_line_near funD d_law_line_near
  obtain ⟨p1, p2⟩ := okLine_parts h0
  have z0 := tk_lo b (n := 6) (by decide)
  have z1 := tk_hi b (n := 6) (by decide)
  have t3 := take_eq b rest 6 (by decide) (by decide)
  generalize tk b 6 = p at z0 z1 t3
  obtain ⟨t, b3⟩ := p
  simp only at z0 z1 t3
  have m1 : -1000000 ≤ t ∧ t ≤ 1000000 := by omega
  simp [t3, m1]
  generalize hf : forGo _ _ _ _ _ _ = r
  obtain ⟨e, st, rfl, s, b', a3, a4, a5, rfl, h1, h2, rfl⟩ := for_at hf (fun i env st' => ∃ (s : List Nat) (b' : Box) (a3 a4 a5 : Option D), st' = Bx b' rest ∧ (∀ c ∈ s, okSign c = true) ∧ s.length ≤ 200 + 3 * i ∧ env = [some (.ref 1), some (.str s0), some (.str s), a3, a4, a5]) ⟨s0, b3, _, _, _, rfl, p2, by omega, rfl⟩ (fun _ _ _ _ _ => rfl) (fun i x env st' hi ⟨s, b, a3, a4, a5, e1, e2, e3, e4⟩ => by
    subst e1 e4
    obtain ⟨hi, rfl⟩ := ints_get hi
    have n0 : (0 : Int) < (s.length : Int) + 1 := by omega
    have t1 := take_eq b rest _ n0 (by omega)
    have v0 := tk_lo b n0
    have v1 := tk_hi b n0
    generalize tk b ((s.length : Int) + 1) = p at v0 v1 t1
    obtain ⟨k, b1⟩ := p
    simp only at v0 v1 t1
    obtain ⟨k, rfl⟩ := Int.eq_ofNat_of_zero_le v0
    have w0 := tk_lo b1 (n := 5) (by decide)
    have w1 := tk_hi b1 (n := 5) (by decide)
    have t2 := take_eq b1 rest 5 (by decide) (by decide)
    generalize tk b1 5 = p at w0 w1 t2
    obtain ⟨way, b2⟩ := p
    simp only at w0 w1 t2
    have cT : cutD s none (some (k : Int)) = s.take k := cut_to _ _
    have cF : cutD s (some (k : Int)) none = s.drop k := cut_from _ _
    have cF1 : cutD s (some ((k : Int) + 1)) none = s.drop (k + 1) := cut_from _ (k + 1)
    have l1 : (s.take k).length ≤ k := by rw [List.length_take]; omega
    have l1' : (s.take k).length ≤ s.length := by rw [List.length_take]; omega
    have l2 : ∀ n, (s.drop n).length = s.length - n := fun n => by rw [List.length_drop]
    simp only [r_gN, sOf_m, List.set_cons_succ, List.set_cons_zero]
    have s1 : sPar 4 5 (aCons (eCall 2 m_law_take (aCons (eV 0) (aCons (eOp (addG false) (eB lenG (aCons (eV 2) (aNil))) (eC (.int 1))) (aNil)))) (aCons (eCall 2 m_law_take (aCons (eV 0) (aCons (eC (.int 5)) (aNil)))) (aNil))) [some (.ref 1), some (.str s0), some (.str s), some (.int i), a4, a5] (Bx b rest) = .nx [some (.ref 1), some (.str s0), some (.str s), some (.int i), some (.int k), some (.int way)] (Bx b2 rest) := by
      simp [len_s, add_ii, t1, t2]
    rw [sCons_nx s1]
    by_cases hA : way < 3
    · obtain ⟨sg, b4, hsg, esg⟩ := sign_ok b2 rest
      obtain ⟨y, ey, my⟩ := atI_mem (l := [D.str [sg], D.str [32], D.str [97]]) (i := way) w0 (by show way < 3; exact hA)
      have hy : ∃ c, y = .str [c] ∧ okSign c = true := by
        simp at my
        rcases my with rfl | rfl | rfl
        · exact ⟨_, rfl, hsg⟩
        · exact ⟨_, rfl, by decide⟩
        · exact ⟨_, rfl, by decide⟩
      obtain ⟨c, rfl, hc⟩ := hy
      have h3 : ¬ way = 3 := by omega
      have h4 : ¬ way = 4 := by omega
      have e9 : ∃ u, (∀ c ∈ u, okSign c = true) ∧ u.length ≤ 200 + 3 * (i + 1) ∧ u = s.take k ++ [c] ++ s.drop (k + 1) := ⟨_, ok_app (ok_app (ok_cut e2 k) (by simp; exact hc)) (ok_drop e2 _), by simp; omega, rfl⟩
      obtain ⟨u, u1, u2, u3⟩ := e9
      have ad1 := add_ss (Bx b4 rest) (s.take k) [c] (by simp; omega)
      have ad2 := add_ss (Bx b4 rest) (s.take k ++ [c]) (s.drop (k + 1)) (by simp; omega)
      rw [← u3] at ad2
      simp [ltG, hA, sl_s, cT, esg, ixL, ey, ad1, add_ii, cF1, ad2, h3, h4]
      exact ⟨⟨_, rfl⟩, u1, u2⟩
    · by_cases h3 : way = 3
      · have w0 := tk_lo b2 (n := 4) (by decide)
        have w1 := tk_hi b2 (n := 4) (by decide)
        have t5 := take_eq b2 rest 4 (by decide) (by decide)
        generalize tk b2 4 = p at w0 w1 t5
        obtain ⟨m, b4⟩ := p
        simp only at w0 w1 t5
        obtain ⟨m, rfl⟩ := Int.eq_ofNat_of_zero_le w0
        have cm : cutD ([97, 98, 32] : List Nat) none (some (m : Int)) = [97, 98, 32].take m := cut_to _ _
        have okm : ∀ c ∈ ([97, 98, 32] : List Nat).take m, okSign c = true := ok_cut (by decide) m
        have lm : (([97, 98, 32] : List Nat).take m).length ≤ 3 := by rw [List.length_take]; simp; omega
        generalize ([97, 98, 32] : List Nat).take m = M at cm okm lm
        have e9 : ∃ u, (∀ c ∈ u, okSign c = true) ∧ u.length ≤ 200 + 3 * (i + 1) ∧ u = s.take k ++ M ++ s.drop k := ⟨_, ok_app (ok_app (ok_cut e2 k) okm) (ok_drop e2 _), by simp; omega, rfl⟩
        obtain ⟨u, u1, u2, u3⟩ := e9
        have ad1 := add_ss (Bx b4 rest) (s.take k) M (by omega)
        have ad2 := add_ss (Bx b4 rest) (s.take k ++ M) (s.drop k) (by rw [List.length_append, l2]; omega)
        rw [← u3] at ad2
        simp [ltG, h3, sl_s, cT, t5, cm, ad1, cF, ad2]
        exact ⟨⟨_, rfl⟩, u1, u2⟩
      · have h4 : way = 4 := by omega
        have w0 := tk_lo b2 (n := 9) (by decide)
        have w1 := tk_hi b2 (n := 9) (by decide)
        have t5 := take_eq b2 rest 9 (by decide) (by decide)
        generalize tk b2 9 = p at w0 w1 t5
        obtain ⟨m, b4⟩ := p
        simp only at w0 w1 t5
        obtain ⟨m, rfl⟩ := Int.eq_ofNat_of_zero_le w0
        have cm : cutD s (some ((k : Int) + 1 + m)) none = s.drop (k + 1 + m) := by
          rw [show (k : Int) + 1 + m = ((k + 1 + m : Nat) : Int) by omega]; exact cut_from _ _
        have ad1 := add_ss (Bx b4 rest) (s.take k) (s.drop (k + 1 + m)) (by rw [l2]; omega)
        obtain ⟨y, ey, my⟩ := atI_mem (l := [D.str (s.take k), D.str (s.take k ++ s.drop (k + 1 + m))]) (i := (tk b4 2).1) (tk_lo _ (by decide)) (tk_hi _ (by decide))
        have hy : ∃ u, y = .str u ∧ (∀ c ∈ u, okSign c = true) ∧ u.length ≤ 200 + 3 * (i + 1) := by
          simp at my
          rcases my with rfl | rfl
          · exact ⟨_, rfl, ok_cut e2 k, by omega⟩
          · exact ⟨_, rfl, ok_app (ok_cut e2 k) (ok_drop e2 _), by rw [List.length_append, l2]; omega⟩
        obtain ⟨u, rfl, u1, u2⟩ := hy
        have t6 := take_eq b4 rest 2 (by decide) (by decide)
        generalize (tk b4 2).2 = b5 at t6
        generalize (tk b4 2).1 = i5 at t6 ey
        simp [ltG, h4, sl_s, cT, add_ii, t5, cm, ad1, t6, ixL, ey]
        exact ⟨⟨_, rfl⟩, u1, u2⟩)
  rw [intsD_len] at h2
  simp [slG]
  refine ⟨_, ?_, rfl, _, rfl⟩
  have := cut_to s 200
  rw [show ((200 : Nat) : Int) = 200 from rfl] at this
  rw [this]
  exact cut_le h1 (by omega)
def m_law_lines_two : FV := funD 6 (d_law_lines_two m_law_take m_law_line_k20 m_law_line_near)
theorem two_ok (b : Box) (rest : Store) : ∃ (l1 l2 : List (List Nat)) (b' : Box) (rest' : Store), l1.length ≤ 30 ∧ l2.length ≤ 30 ∧ (∀ s ∈ l1, okLine s = true) ∧ (∀ s ∈ l2, okLine s = true) ∧ m_law_lines_two [.ref 1] (Bx b rest) = .ok (.tup [.lst (strsD l1), .lst (strsD l2)], Bx b' rest') := by
  unfold m_law_lines_two funD d_law_lines_two
  obtain ⟨l1, hl1, ok1, b1, s1⟩ : ∃ ls, ls.length ≤ 30 ∧ (∀ s ∈ ls, okLine s = true) ∧ ∃ b1, eLc false (iR1 (aCons (eCall 2 m_law_take (aCons (eV 0) (aCons (eOp ixG (eLst false (aCons (eC (.int 4)) (aCons (eC (.int 12)) (aCons (eC (.int 31)) (aNil))))) (eCall 2 m_law_take (aCons (eV 0) (aCons (eC (.int 3)) (aNil))))) (aNil)))) (aNil))) [4] (.one 4) (tYesD) (eCall 1 m_law_line_k20 (aCons (eV 0) (aNil))) [some (.ref 1), none, none, none, none, none] (Bx b rest) = .ok (.lst (strsD ls), Bx b1 rest) := by
    obtain ⟨n, en, n0, n9⟩ := pick3 (b := b) (ls := [4, 12, 31]) (m := 3) rfl (by decide) (fun n => 0 < n ∧ n ≤ 31) (by decide)
    simp only [List.map_cons, List.map_nil] at en
    have n64 : n < 18446744073709551616 := by omega
    have t2 := take_eq b rest 3 (by decide) (by decide)
    generalize (tk b 3).2 = b2 at t2
    generalize (tk b 3).1 = i2 at t2 en
    have z0 := tk_lo b2 n0
    have z1 := tk_hi b2 n0
    have t3 := take_eq b2 rest n n0 n64
    generalize tk b2 n = p at z0 z1 t3
    obtain ⟨t, b3⟩ := p
    simp only at z0 z1 t3
    have m1 : -1000000 ≤ t ∧ t ≤ 1000000 := by omega
    have m2 : t.toNat ≤ LIM := le_LIM (by omega)
    simp [t2, ixL, en, t3, m1, m2]
    generalize hf : lcGo _ _ _ _ _ _ _ _ = r
    obtain ⟨acc, s, rfl, ls, b2, h1, h2, rfl, rfl⟩ := lc_at hf (fun i acc st' => ∃ (ls : List (List Nat)) (b' : Box), ls.length = i ∧ (∀ s ∈ ls, okLine s = true) ∧ acc = strsD ls ∧ st' = Bx b' rest) ⟨[], b3, rfl, by simp, rfl, rfl⟩ (fun _ _ _ _ _ => rfl) (fun i x acc st' hi ⟨ls, b', e1, e2, e3, e4⟩ => by
      subst e3 e4
      obtain ⟨s, b2, hs, es⟩ := line20_ok b' rest
      refine ⟨_, rfl, ?_⟩
      simp [es]
      exact ⟨ls ++ [s], by simp [e1], fun x hx => by simp at hx; rcases hx with hx | rfl <;> first | exact e2 _ hx | exact hs, by simp [strsD], _, rfl⟩)
    rw [intsD_len] at h1
    exact ⟨ls, by omega, h2, b2, rfl⟩
  simp only [List.map_cons, List.map_nil, List.length_cons, List.length_nil, List.cons_append, List.nil_append, show List.replicate (6 - (0 + 1)) (none : Option D) = [none, none, none, none, none] from rfl]
  rw [sCons_nx (sAsgN_at s1)]
  simp only [List.set_cons_succ, List.set_cons_zero]
  have l1lim : l1.length ≤ LIM := le_LIM (by omega)
  -- the later ones
  obtain ⟨l2, hl2, ok2, b2, s2⟩ : ∃ ls, ls.length ≤ 30 ∧ (∀ s ∈ ls, okLine s = true) ∧ ∃ b2, eLc true (iSeq (eV 1)) [5] (.one 5) (tYesD) (eOp ixG (eLst false (aCons (eV 5) (aCons (eCall 2 m_law_line_near (aCons (eV 0) (aCons (eV 5) (aNil)))) (aCons (eCall 1 m_law_line_k20 (aCons (eV 0) (aNil))) (aNil))))) (eB minG (aCons (eC (.int 2)) (aCons (eCall 2 m_law_take (aCons (eV 0) (aCons (eC (.int 5)) (aNil)))) (aNil))))) [some (.ref 1), some (.lst (strsD l1)), none, none, none, none] (Bx b1 rest) = .ok (.ref (Bx b2 rest).length, Bx b2 rest ++ [.lst (strsD ls)]) := by
    simp [itemsOf, l1lim]
    generalize hf : lcGo _ _ _ _ _ _ _ _ = r
    obtain ⟨acc, s, rfl, ls, b2, h1, h2, rfl, rfl⟩ := lc_at hf (fun i acc st' => ∃ (ls : List (List Nat)) (b' : Box), ls.length = i ∧ (∀ s ∈ ls, okLine s = true) ∧ acc = strsD ls ∧ st' = Bx b' rest) ⟨[], b1, rfl, by simp, rfl, rfl⟩ (fun _ _ _ _ _ => rfl) (fun i x acc st' hi ⟨ls, b', e1, e2, e3, e4⟩ => by
      subst e3 e4
      cases q : l1[i]? with
      | none => unfold strsD at hi; rw [List.getElem?_map, q] at hi; cases hi
      | some line =>
        rw [strsD_get q] at hi
        cases hi
        have hline := ok1 line (List.mem_of_getElem? q)
        obtain ⟨s1, b3, hs1, es1⟩ := near20_ok b' rest hline
        obtain ⟨s2, b4, hs2, es2⟩ := line20_ok b3 rest
        have w0 := tk_lo b4 (n := 5) (by decide)
        have w1 := tk_hi b4 (n := 5) (by decide)
        have t5 := take_eq b4 rest 5 (by decide) (by decide)
        generalize tk b4 5 = p at w0 w1 t5
        obtain ⟨m, b5⟩ := p
        simp only at w0 w1 t5
        have mn : ∀ st, minG st [.int 2, .int m] = .ok (.int (min 2 m), st) := fun st => rfl
        obtain ⟨y, ey, my⟩ := atI_mem (l := [D.str line, D.str s1, D.str s2]) (i := min 2 m) (by omega) (by show min 2 m < 3; omega)
        have hy : ∃ u, y = .str u ∧ okLine u = true := by
          simp at my
          rcases my with rfl | rfl | rfl
          · exact ⟨_, rfl, hline⟩
          · exact ⟨_, rfl, hs1⟩
          · exact ⟨_, rfl, hs2⟩
        obtain ⟨u, rfl, hu⟩ := hy
        refine ⟨_, rfl, ?_⟩
        simp [es1, es2, t5, mn, ixL, ey]
        exact ⟨ls ++ [u], by simp [e1], fun x hx => by simp at hx; rcases hx with hx | rfl <;> first | exact e2 _ hx | exact hu, by simp [strsD], _, rfl⟩)
    rw [strsD_len] at h1
    refine ⟨ls, by omega, h2, b2, ?_⟩
    simp
  rw [sCons_nx (sAsgN_at s2)]
  simp only [List.set_cons_succ, List.set_cons_zero]
  have w0 := tk_lo b2 (n := 4) (by decide)
  have w1 := tk_hi b2 (n := 4) (by decide)
  have t4 := take_eq b2 (rest ++ [.lst (strsD l2)]) 4 (by decide) (by decide)
  generalize tk b2 4 = p at w0 w1 t4
  obtain ⟨m, b3⟩ := p
  simp only at w0 w1 t4
  have m1 : -1000000 ≤ m ∧ m ≤ 1000000 := by omega
  simp [t4, m1]
  generalize hf : forGo _ _ _ _ _ _ = r
  obtain ⟨e, s', rfl, l3, b4, a3, hl3, ok3, rfl, rfl⟩ := for_at hf (fun i env st' => ∃ (l3 : List (List Nat)) (b4 : Box) (a3 : Option D), l3.length ≤ 30 ∧ (∀ s ∈ l3, okLine s = true) ∧ st' = Bx b4 (rest ++ [.lst (strsD l3)]) ∧ env = [some (.ref 1), some (.lst (strsD l1)), some (.ref (rest.length + 2)), a3, none, none]) ⟨l2, b3, _, hl2, ok2, rfl, rfl⟩ (fun _ _ _ _ _ => rfl) (fun i x env st' hi ⟨l3, b4, a3, hl3, ok3, e1, e2⟩ => by
    subst e1 e2
    obtain ⟨hi, rfl⟩ := ints_get hi
    have fl := fr_list (Bx b4 rest) (strsD l3)
    have ln := len_list fl
    rw [Bx_app] at ln
    simp only [Bx_len, strsD_len] at ln
    rw [r_gN]
    simp only [sOf_m, List.set_cons_succ, List.set_cons_zero]
    rw [sIf_at (b := decide ((l3.length : Int) < 30)) (sx := Bx b4 (rest ++ [.lst (strsD l3)])) (by simp [ln, ltG])]
    by_cases h : (l3.length : Int) < 30
    · rw [decide_eq_true h, if_pos rfl]
      obtain ⟨s, b5, hs, es⟩ := line20_ok b4 (rest ++ [.lst (strsD l3)])
      have ap := fr_app (Bx b5 rest) (L := strsD l3) (.str s) (by simp; omega)
      have ty := fr_ty (Bx b4 rest) (strsD l3)
      rw [Bx_app] at ap ty
      rw [Bx_app] at ap
      simp only [Bx_len] at ap ty
      have e3 : strsD l3 ++ [.str s] = strsD (l3 ++ [s]) := by simp [strsD]
      rw [e3] at ap
      simp [ty, es, ap]
      exact ⟨l3 ++ [s], by simp; omega, fun t ht => by simp at ht; rcases ht with ht | rfl <;> first | exact ok3 _ ht | exact hs, b5, rfl⟩
    · rw [decide_eq_false h, if_neg (by decide)]
      exact ⟨l3, b4, _, hl3, ok3, rfl, rfl⟩)
  have w0 := tk_lo b4 (n := 3) (by decide)
  have w1 := tk_hi b4 (n := 3) (by decide)
  have t5 := take_eq b4 (rest ++ [.lst (strsD l3)]) 3 (by decide) (by decide)
  generalize tk b4 3 = p at w0 w1 t5
  obtain ⟨u, b5⟩ := p
  simp only at w0 w1 t5
  obtain ⟨u, rfl⟩ := Int.eq_ofNat_of_zero_le w0
  have cF : cutD (strsD l3) (some ((u : Int) / 2)) none = strsD (l3.drop (u / 2)) := by
    rw [show (u : Int) / 2 = ((u / 2 : Nat) : Int) by omega, cut_from]
    unfold strsD; rw [List.map_drop]
  have fl := fr_list (Bx b5 rest) (strsD l3)
  rw [Bx_app] at fl
  simp only [Bx_len] at fl
  have sl : slG false (Bx b5 (rest ++ [.lst (strsD l3)])) (.ref (rest.length + 2)) (some ((u : Int) / 2)) none = .ok (.lst (strsD (l3.drop (u / 2))), Bx b5 (rest ++ [.lst (strsD l3)])) := by
    have := lst_list fl
    unfold slG
    simp only [this, cF]
    rfl
  simp [t5, divG, sl]
  exact ⟨l1, hl1, l3.drop (u / 2), by simp; omega, ok1, fun s hs => ok3 s (List.mem_of_mem_drop hs), ⟨rfl, rfl⟩, _, _, rfl⟩
end Dl
/-! ## B20e -/
/-! Law k20: the law. -/
namespace Dl
open PySem L2
theorem pk_stk20 (n : Nat) (b : List Nat) (g : Nat × Nat) : D.pk (stkD n b g) = true := by unfold stkD; simp [D.pk, D.pks]
theorem strkN_all {P : D → Prop} (l1 l2 : List (List Nat)) (h : ∀ n b g, P (stkD n b g)) : ∀ n, ∀ d ∈ strkN l1 l2 n, P d
  | 0 => fun d hd => by cases hd
  | n + 1 => fun d hd => by
    rw [strkN] at hd
    rcases List.mem_append.mp hd with hd | hd
    · exact strkN_all l1 l2 h n d hd
    · unfold strkD at hd
      obtain ⟨g, _, rfl⟩ := List.mem_map.mp hd
      exact h n _ g
theorem strk_alike {l1 l2 : List (List Nat)} (h1 : l1.length ≤ 30) (h2 : l2.length ≤ 30) {f g : D} {w w' : List (Nat × List D)} {st : Store} (hf : listOf st f = some (strkA l1 l2, w)) (hg : listOf st g = some (strkA l1 l2, w')) : m_law_alike [f, g] st = .ok (.bl true, st) := by
  have pks : D.pks (strkA l1 l2) = true := pks_of fun d hd => strkN_all (P := fun d => D.pk d = true) l1 l2 pk_stk20 _ d hd
  have hl := strkN_len l1 l2 (max l1.length l2.length)
  refine alike_rd 8 (.lst (strkA l1 l2)) f g (by rw [Rd]; exact ⟨_, _, hf, rds_self pks⟩) (by rw [Rd]; exact ⟨_, _, hg, rds_self pks⟩) ?_ ?_
  · rw [D.sm, Bool.and_eq_true]
    refine ⟨decide_eq_true (by unfold strkA; omega), sms_of' fun d hd => ?_⟩
    exact strkN_all (P := fun d => D.sm d = true) l1 l2 (fun n b g => by unfold stkD; simp [D.sm, D.sms]) _ d hd
  · have : D.dps (strkA l1 l2) ≤ 2 := dps_le.mpr fun d hd => strkN_all (P := fun d => D.dp d ≤ 2) l1 l2 (fun n b g => by unfold stkD; simp) _ d hd
    rw [D.dp]; omega
def m_law_k20 : FV := funD 13 (d_law_k20 m_law_begun m_law_alike m_strokes m_law_lines_two m_law_strokes m_law_odd_lines)
theorem len11b {A : Type} {l : List A} (h : l.length = 11) : ∃ a b c d e f g i j k m, l = [a, b, c, d, e, f, g, i, j, k, m] := by
  match l, h with
  | [a, b, c, d, e, f, g, i, j, k, m], _ => exact ⟨a, b, c, d, e, f, g, i, j, k, m, rfl⟩
theorem law_k20_true (ns : List Int) (_ : ns.length ≤ 63) : ∃ st, m_law_k20 [.scr ns] [] = .ok (.bl true, st) := by
  unfold m_law_k20 funD d_law_k20
  obtain ⟨b, hb⟩ := begun_ok ns
  simp [hb]
  generalize q : forGo _ _ _ _ _ _ = r
  obtain ⟨e, s, rfl, b', rest, rfl, l, hl, rfl⟩ := for_at q (fun i env st' => ∃ b rest, st' = Bx b rest ∧ ∃ l, l.length = 11 ∧ env = some (.scr ns) :: some (.ref 1) :: l) ⟨b, [], rfl, List.replicate 11 none, by simp, rfl⟩ (fun _ _ _ _ _ => rfl) (fun i x env st' hi ⟨b, rest, e1, l, hl, e2⟩ => by
    subst e1 e2
    obtain ⟨c2, c3, c4, c5, c6, c7, c8, c9, c10, c11, c12, rfl⟩ := len11b hl
    rw [r_gN]
    simp only [sOf_m, List.set_cons_succ, List.set_cons_zero]
    obtain ⟨l1, l2, b2, rest2, h1, h2, k1, k2, e2⟩ := two_ok b rest
    have a1 : sAsg (eCall 1 m_law_lines_two (aCons (eV 1) (aNil))) (gTp 2 (gsCons (gN 3) (gsCons (gN 4) (gsNil)))) [some (.scr ns), some (.ref 1), some x, c3, c4, c5, c6, c7, c8, c9, c10, c11, c12] (Bx b rest) = .nx [some (.scr ns), some (.ref 1), some x, some (.lst (strsD l1)), some (.lst (strsD l2)), c5, c6, c7, c8, c9, c10, c11, c12] (Bx b2 rest2) := by
      simp [e2]
    rw [sCons_nx a1]
    have s3 := law_strokes_ok h1 h2 k1 k2 (Bx b2 rest2)
    have lf1 := fr_list (Bx b2 rest2) (strkA l1 l2)
    have hS3 : Bx b2 rest2 ++ [Ob.lst (strkA l1 l2)] = Bx b2 (rest2 ++ [Ob.lst (strkA l1 l2)]) := by simp
    rw [hS3] at s3 lf1
    generalize rest2 ++ [Ob.lst (strkA l1 l2)] = rest3 at s3 lf1
    generalize (Bx b2 rest2).length = kd at s3 lf1
    rw [sCons_nx (sAsgN_at (x := .ref kd) (sx := Bx b2 rest3) (by simp [s3]))]
    simp only [List.set_cons_succ, List.set_cons_zero]
    rw [sCons_nx (sAsgN_at (x := .tup [.lst (strsD l1), .lst (strsD l2)]) (sx := Bx b2 rest3) (by simp [listG, lstOf]))]
    simp only [List.set_cons_succ, List.set_cons_zero]
    -- twice
    obtain ⟨rest4, more4, hmore4, c7', c8', s5⟩ : ∃ rest4 more4, rest4 = rest3 ++ more4 ∧ ∃ c7' c8', sFor (iR1 (aCons (eC (.int 2)) (aNil))) (gN 7) (sCons (sAsg (eCall 2 m_strokes (aCons (eOp ixG (eV 6) (eC (.int 0))) (aCons (eOp ixG (eV 6) (eC (.int 1))) (aNil)))) (gN 8)) (sCons (sIf (tOrD (tNotD (tv (eCall 2 m_law_alike (aCons (eV 8) (aCons (eV 5) (aNil)))))) (tv (eOp (eqG true) (eV 6) (eTup (aCons (eV 3) (aCons (eV 4) (aNil))))))) (sRet (eC (.bl false))) (sNext)) (sExpr (eMt "list" (appendG) (eV 8) (aCons (eTup (aNil)) (aNil)))))) [some (.scr ns), some (.ref 1), some x, some (.lst (strsD l1)), some (.lst (strsD l2)), some (.ref kd), some (.tup [.lst (strsD l1), .lst (strsD l2)]), c7, c8, c9, c10, c11, c12] (Bx b2 rest3)
        = .nx [some (.scr ns), some (.ref 1), some x, some (.lst (strsD l1)), some (.lst (strsD l2)), some (.ref kd), some (.tup [.lst (strsD l1), .lst (strsD l2)]), c7', c8', c9, c10, c11, c12] (Bx b2 rest4) := by
      simp
      generalize q : forGo _ _ _ _ _ _ = r
      obtain ⟨e, s, rfl, ⟨more4, rfl⟩, c7', c8', rfl⟩ := for_at q (fun i env st' => (∃ more4, st' = Bx b2 (rest3 ++ more4)) ∧ ∃ c7 c8, env = [some (.scr ns), some (.ref 1), some x, some (.lst (strsD l1)), some (.lst (strsD l2)), some (.ref kd), some (.tup [.lst (strsD l1), .lst (strsD l2)]), c7, c8, c9, c10, c11, c12]) ⟨⟨[], by simp⟩, _, _, rfl⟩ (fun _ _ _ _ _ => rfl) (fun i x2 env st' hi ⟨⟨more4, e1⟩, c7, c8, e2⟩ => by
        subst e1 e2
        obtain ⟨mid, g⟩ := strokes_ok h1 h2 k1 k2 (Bx b2 (rest3 ++ more4))
        have lk := listOf_stays (Stays.app (Bx b2 rest3) (more4 ++ .lst (strkA l1 l2) :: mid)) lf1
        have eS : Bx b2 rest3 ++ (more4 ++ Ob.lst (strkA l1 l2) :: mid) = Bx b2 (rest3 ++ more4) ++ Ob.lst (strkA l1 l2) :: mid := by simp
        rw [eS] at lk
        have gt : (Bx b2 (rest3 ++ more4) ++ Ob.lst (strkA l1 l2) :: mid)[(Bx b2 (rest3 ++ more4)).length]? = some (.lst (strkA l1 l2)) := by
          rw [List.getElem?_append_right (Nat.le_refl _)]; simp
        have lf : listOf (Bx b2 (rest3 ++ more4) ++ Ob.lst (strkA l1 l2) :: mid) (.ref (Bx b2 (rest3 ++ more4)).length) = some (strkA l1 l2, [((Bx b2 (rest3 ++ more4)).length, strkA l1 l2)]) := by simp only [listOf, gt]
        have al := strk_alike h1 h2 lf lk
        have ee : ∀ st, eqG true st (.tup [.lst (strsD l1), .lst (strsD l2)]) (.tup [.lst (strsD l1), .lst (strsD l2)]) = .ok (.bl false, st) := fun st => by
          have p1 : D.pls (strsD l1) = true := by unfold strsD; simp
          have p2 : D.pls (strsD l2) = true := by unfold strsD; simp
          have q1 : D.dps (strsD l1) ≤ 1 := dps_strs l1
          have q2 : D.dps (strsD l2) ≤ 1 := dps_strs l2
          rw [eqG_pl (by simp [p1, p2]) (by simp [p1, p2]) (by simp; omega) (by simp; omega)]
          simp
        have tm : tyM (Bx b2 (rest3 ++ more4) ++ Ob.lst (strkA l1 l2) :: mid) (.ref (Bx b2 (rest3 ++ more4)).length) = some "list" := by simp only [tyM, gt]
        have ap := app_at (.tup []) gt (by have := strkN_len l1 l2 (max l1.length l2.length); unfold strkA; omega)
        have hx : (Bx b2 (rest3 ++ more4) ++ Ob.lst (strkA l1 l2) :: mid).set (Bx b2 (rest3 ++ more4)).length (.lst (strkA l1 l2 ++ [.tup []])) = Bx b2 (rest3 ++ (more4 ++ .lst (strkA l1 l2 ++ [.tup []]) :: mid)) := by
          rw [List.set_append_right _ _ (Nat.le_refl _)]; simp
        rw [hx] at ap
        generalize (Bx b2 (rest3 ++ more4)).length = k at g al tm ap
        generalize Bx b2 (rest3 ++ more4) ++ Ob.lst (strkA l1 l2) :: mid = st1 at g al tm ap
        generalize more4 ++ Ob.lst (strkA l1 l2 ++ [.tup []]) :: mid = mm at ap
        simp [ixG, g, al, ee, tm, ap]
        exact ⟨_, rfl⟩)
      exact ⟨rest3 ++ more4, ⟨_, rfl⟩, c7', c8', rfl⟩
    rw [sCons_nx s5]
    -- what can't be
    obtain ⟨bad, kb, b6, hbad, eb⟩ := odd_lines_ok b2 rest4 h1 k1
    have a2 : sAsg (eCall 2 m_law_odd_lines (aCons (eV 1) (aCons (eV 3) (aNil)))) (gTp 2 (gsCons (gN 9) (gsCons (gN 10) (gsNil)))) [some (.scr ns), some (.ref 1), some x, some (.lst (strsD l1)), some (.lst (strsD l2)), some (.ref kd), some (.tup [.lst (strsD l1), .lst (strsD l2)]), c7', c8', c9, c10, c11, c12] (Bx b2 rest4) = .nx [some (.scr ns), some (.ref 1), some x, some (.lst (strsD l1)), some (.lst (strsD l2)), some (.ref kd), some (.tup [.lst (strsD l1), .lst (strsD l2)]), c7', c8', some (.lst bad), some (.int kb), c11, c12] (Bx b6 rest4) := by
      simp [eb]
    rw [sCons_nx a2]
    obtain ⟨worse, kw, b7, hworse, ew⟩ := odd_lines_ok b6 rest4 h2 k2
    rw [sCons_nx (sAsgN_at (x := .lst worse) (sx := Bx b7 rest4) (by simp [ew, ixG]))]
    simp only [List.set_cons_succ, List.set_cons_zero]
    have pb1 := fun d st => strokes_bad1 hbad d st
    have pb2 := fun st => strokes_bad2 (ls := []) (by simp) (by simp) hbad st
    rw [show strsD [] = [] from rfl] at pb2
    have al8 := fun st => alike_wi [66, 97, 100, 76, 105, 110, 101, 115] (kb : Int) st
    have all2 : ∃ more, allR m_law_alike [8] hmT (.tup [.str [66, 97, 100, 76, 105, 110, 101, 115], .int kb]) [(eCall 2 m_strokes (aCons (eV 0) (aCons (eV 1) (aNil))), [.lst bad, .lst (strsD l2)]), (eCall 2 m_strokes (aCons (eV 0) (aCons (eV 1) (aNil))), [.lst bad, .lst worse]), (eCall 2 m_strokes (aCons (eLst false (aNil)) (aCons (eV 0) (aNil))), [.lst bad])] (Bx b7 rest4) = .ok (.bl true, Bx b7 (rest4 ++ more)) := by
      obtain ⟨K, hK⟩ : ∃ K : Store, ∀ st, hmT 8 (some (.int kb)) st = .ok (.tup [.str [66, 97, 100, 76, 105, 110, 101, 115], .int kb], st ++ K) := ⟨_, fun st => hm_8 kb st⟩
      have hK' : ∀ r, hmT 8 (some (.int kb)) (Bx b7 r) = .ok (.tup [.str [66, 97, 100, 76, 105, 110, 101, 115], .int kb], Bx b7 (r ++ K)) := fun r => by rw [hK, Bx_app]
      have g1 := all_exc (cs := [8]) (fb := eCall 2 m_strokes (aCons (eV 0) (aCons (eV 1) (aNil)))) (ds := [.lst bad, .lst (strsD l2)]) (ws := [(eCall 2 m_strokes (aCons (eV 0) (aCons (eV 1) (aNil))), [.lst bad, .lst worse]), (eCall 2 m_strokes (aCons (eLst false (aNil)) (aCons (eV 0) (aNil))), [.lst bad])]) (st := Bx b7 rest4) (c := 8) (p := some (.int kb)) (st' := Bx b7 rest4) (by simp [pb1]) (by simp) (hK' rest4) (al8 _)
      have g2 := all_exc (cs := [8]) (fb := eCall 2 m_strokes (aCons (eV 0) (aCons (eV 1) (aNil)))) (ds := [.lst bad, .lst worse]) (ws := [(eCall 2 m_strokes (aCons (eLst false (aNil)) (aCons (eV 0) (aNil))), [.lst bad])]) (st := Bx b7 (rest4 ++ K)) (c := 8) (p := some (.int kb)) (st' := Bx b7 (rest4 ++ K)) (by simp [pb1]) (by simp) (hK' _) (al8 _)
      have g3 := all_exc (cs := [8]) (fb := eCall 2 m_strokes (aCons (eLst false (aNil)) (aCons (eV 0) (aNil)))) (ds := [.lst bad]) (ws := []) (st := Bx b7 (rest4 ++ K ++ K)) (c := 8) (p := some (.int kb)) (st' := Bx b7 (rest4 ++ K ++ K)) (by simp [pb2]) (by simp) (hK' _) (al8 _)
      refine ⟨K ++ (K ++ K), g1.trans (g2.trans (g3.trans ((allR_nil _ _ _ _ _).trans ?_)))⟩
      simp only [List.append_assoc]
    obtain ⟨more6, all2⟩ := all2
    rw [r_sCons, r_sLams]
    simp only [List.set_cons_succ, List.set_cons_zero]
    rw [sIf_at (b := false) (sx := Bx b7 (rest4 ++ more6)) (by simp [all2, -allR_cons]), if_neg (by decide), r_sNext, then_nx, r_sNext]
    exact ⟨_, _, rfl, _, rfl, rfl⟩)
  obtain ⟨mid, g⟩ := strokes_ok (l1 := []) (l2 := []) (by simp) (by simp) (by simp) (by simp) (Bx b' rest)
  rw [show strsD [] = [] from rfl, show strkA [] [] = [] from rfl] at g
  have en : eqG false (Bx b' rest ++ Ob.lst [] :: mid) (.ref (Bx b' rest).length) (.lst []) = .ok (.bl true, Bx b' rest ++ Ob.lst [] :: mid) := by
    rw [eqG_refL (ds := []) (by rw [List.getElem?_append_right (Nat.le_refl _)]; simp), eqG_pl rfl rfl (by simp) (by simp)]
    rfl
  generalize (Bx b' rest).length = k at g en
  generalize Bx b' rest ++ Ob.lst [] :: mid = st1 at g en
  simp [g, en]
end Dl
/-! ## W_k20 -/
set_option maxHeartbeats 1000000
/-! The walk of tabgrow_k20_strokes (printed by wgen.py). -/
namespace W20
open PySem L2 Dl
def top (i : Nat) : Stmt := PySem.Challenge.pw_tabgrow_k20_strokes.main.body.getD i (.Pass ⟨0, 0, 0, 0⟩)
abbrev s_law_begun : Stmt := top 28
abbrev s_law_alike : Stmt := top 30
abbrev s_law_told : Stmt := top 31
abbrev s_law_all : Stmt := top 32
abbrev s_is_sign : Stmt := top 18
abbrev s_is_line : Stmt := top 21
abbrev s_need_lines : Stmt := top 22
abbrev s_strokes_of : Stmt := top 25
abbrev s_strokes : Stmt := top 26
abbrev s_law_take : Stmt := top 29
abbrev s_law_sign : Stmt := top 33
abbrev s_law_line : Stmt := top 34
abbrev s_law_line_near : Stmt := top 35
abbrev s_law_lines_two : Stmt := top 36
abbrev s_law_strokes : Stmt := top 38
abbrev s_law_odd_lines : Stmt := top 37
abbrev s_law : Stmt := top 39
abbrev s_BadLines_init : Stmt := inClass (top 9) 0
structure Txt (W : Wd) (mg : Str → Option Value) : Prop where
  b_len : mg "len" = none
  b_int : mg "int" = none
  b_list : mg "list" = none
  b_bool : mg "bool" = none
  b_isinstance : mg "isinstance" = none
  b_str : mg "str" = none
  b_tuple : mg "tuple" = none
  b_range : mg "range" = none
  b_ValueError : mg "ValueError" = none
  b_ord : mg "ord" = none
  b_enumerate : mg "enumerate" = none
  b_max : mg "max" = none
  b_min : mg "min" = none
  k_FIRST_SIGN : ∃ t, mg "FIRST_SIGN" = some (.str " " t)
  k_LAST_SIGN : ∃ t, mg "LAST_SIGN" = some (.str "~" t)
  k_BARRED : ∃ t, mg "BARRED" = some (.int (37) t)
  k_MOST_WIDE : ∃ t, mg "MOST_WIDE" = some (.int (200) t)
  k_MOST_ROWS : ∃ t, mg "MOST_ROWS" = some (.int (30) t)
  k_NEAR : ∃ t, mg "NEAR" = some (.int (3) t)
  g_GrowError : mg "GrowError" = some (.ref (W.cls 0))
  ct_law_told : ∀ c ∈ ([8] : List Nat), PySem.W.exmOne W.K (.ref (W.cls c)) (.ref (W.cls 0)) = some true
  xC : ∀ c ∈ ([8] : List Nat), L2.ExcC W.K (W.cls c)
  gy_BadPage : mg "BadPage" = some (.ref (W.cls 1))
  ki_BadPage : ∀ c ∈ ([8] : List Nat), PySem.W.kitOne W.K (.ref (W.cls c)) (.ref (W.cls 1)) = some (c == 1)
  gy_BadStyle : mg "BadStyle" = some (.ref (W.cls 2))
  ki_BadStyle : ∀ c ∈ ([8] : List Nat), PySem.W.kitOne W.K (.ref (W.cls c)) (.ref (W.cls 2)) = some (c == 2)
  gy_BadRow : mg "BadRow" = some (.ref (W.cls 3))
  ki_BadRow : ∀ c ∈ ([8] : List Nat), PySem.W.kitOne W.K (.ref (W.cls c)) (.ref (W.cls 3)) = some (c == 3)
  gy_BadCell : mg "BadCell" = some (.ref (W.cls 4))
  ki_BadCell : ∀ c ∈ ([8] : List Nat), PySem.W.kitOne W.K (.ref (W.cls c)) (.ref (W.cls 4)) = some (c == 4)
  gy_BadCount : mg "BadCount" = some (.ref (W.cls 5))
  ki_BadCount : ∀ c ∈ ([8] : List Nat), PySem.W.kitOne W.K (.ref (W.cls c)) (.ref (W.cls 5)) = some (c == 5)
  gy_BadLines : mg "BadLines" = some (.ref (W.cls 8))
  ki_BadLines : ∀ c ∈ ([8] : List Nat), PySem.W.kitOne W.K (.ref (W.cls c)) (.ref (W.cls 8)) = some (c == 8)
  gy_BadStep : mg "BadStep" = some (.ref (W.cls 9))
  ki_BadStep : ∀ c ∈ ([8] : List Nat), PySem.W.kitOne W.K (.ref (W.cls c)) (.ref (W.cls 9)) = some (c == 9)
  gy_BadStroke : mg "BadStroke" = some (.ref (W.cls 10))
  ki_BadStroke : ∀ c ∈ ([8] : List Nat), PySem.W.kitOne W.K (.ref (W.cls c)) (.ref (W.cls 10)) = some (c == 10)
  gy_BadText : mg "BadText" = some (.ref (W.cls 11))
  ki_BadText : ∀ c ∈ ([8] : List Nat), PySem.W.kitOne W.K (.ref (W.cls c)) (.ref (W.cls 11)) = some (c == 11)
  gy_BadHand : mg "BadHand" = some (.ref (W.cls 6))
  ki_BadHand : ∀ c ∈ ([8] : List Nat), PySem.W.kitOne W.K (.ref (W.cls c)) (.ref (W.cls 6)) = some (c == 6)
  gy_TooMuch : mg "TooMuch" = some (.ref (W.cls 7))
  ki_TooMuch : ∀ c ∈ ([8] : List Nat), PySem.W.kitOne W.K (.ref (W.cls c)) (.ref (W.cls 7)) = some (c == 7)
  kv : ∀ c ∈ ([8] : List Nat), PySem.W.kitOne W.K (.ref (W.cls c)) (.type "ValueError") = some true
  nx_row : ∀ c ∈ ([8] : List Nat), PySem.W.findIn W.K (.ref (W.cls c)) "row" = some none
  nx_line : ∀ c ∈ ([8] : List Nat), PySem.W.findIn W.K (.ref (W.cls c)) "line" = some none
  nx_number : ∀ c ∈ ([8] : List Nat), PySem.W.findIn W.K (.ref (W.cls c)) "number" = some none
  py : ∀ c ∈ ([8] : List Nat), W.pay c = payOf c
section
variable {P : Program} {w : World} {W : Wd} {mg : Str → Option Value} {base : Heap}
theorem sc_law_begun : FnScope ["_law_script", "_law_stirred", "_law_cell"] ["_law_script"] (defScope s_law_begun) := ⟨rfl, rfl, rfl, by decide +kernel, rfl, by decide +kernel, by decide +kernel⟩
theorem ok_law_begun {f : Addr} {fd : FuncData} (F : Fun W.K "_law_begun" "_law_begun" s_law_begun f fd) (m : mg "_law_begun" = some (.ref f)) (T : Txt W mg)  : Fn P w W mg base "_law_begun" (1) 1 (funD 3 d_law_begun) :=
  ⟨f, fd, ["_law_script"], fnE F sc_law_begun rfl rfl fun cdv A outer sh H E hr => db_cons (ds_set sc_law_begun.nd rfl (by first | exact Or.inl rfl | exact Or.inr rfl) (de_int)) (db_cons (ds_for passF rfl (di_seq (dv 0)) (dg_name sc_law_begun.nd rfl (by first | exact Or.inl rfl | exact Or.inr rfl)) (db_one (ds_set sc_law_begun.nd rfl (by first | exact Or.inl rfl | exact Or.inr rfl) (de_op dop_mod (de_op (dop_add true) (de_op (dop_add true) (de_op (dop_mul true) (dv 1) (de_int)) (de_op (dop_mul true) (dv 2) (de_int))) (de_int)) (de_int))))) (db_one (ds_ret (de_lst true (da_cons (de_callTy (dc_list true) (by rfl) T.b_list (by decide +kernel) (da_cons (dv 0) (da_nil)) (fun a b => pe_callTy a (by rfl) T.b_list (by decide +kernel) b)) (da_cons (de_op (dop_mul true) (dv 1) (de_callTy dc_int (by rfl) T.b_int (by decide +kernel) (da_cons (de_cmp dop_gt (de_callB dc_len (by rfl) T.b_len (by decide +kernel) (da_cons (dv 0) (da_nil)) (fun a b => pe_callB a (by rfl) T.b_len (by decide +kernel) b)) (de_int) (nomark _)) (da_nil)) (fun a b => pe_callTy a (by rfl) T.b_int (by decide +kernel) b))) (da_nil))))))), m, F.kp, F.binds (ps := ["_law_script"]) fun _ _ _ _ _ _ us hl => match us, hl with | [_], _ => rfl⟩
theorem sc_law_alike : FnScope ["_law_found", "_law_due", "_law_k"] ["_law_found", "_law_due"] (defScope s_law_alike) := ⟨rfl, rfl, rfl, by decide +kernel, rfl, by decide +kernel, by decide +kernel⟩
theorem ok_law_alike {j : Nat} {rec_ : FV} {f : Addr} {fd : FuncData} (F : Fun W.K "_law_alike" "_law_alike" s_law_alike f fd) (m : mg "_law_alike" = some (.ref f)) (T : Txt W mg) (c_law_alike : Fn P w W mg base "_law_alike" j 2 rec_) : Fn P w W mg base "_law_alike" (j + 1) 2 (funD 3 (d_law_alike rec_)) :=
  ⟨f, fd, ["_law_found", "_law_due"], fnE F sc_law_alike rfl rfl fun cdv A outer sh H E hr => db_cons (ds_if (dt_cmp dop_is (dv 1) (de_non) (nomark _)) (db_one (ds_ret (de_cmp dop_is (dv 0) (de_non) (nomark _)))) (db_nil)) (db_cons (ds_if (dt_val (de_isinst (by simp) (dv 1) (pe_bltn (by rfl) T.b_bool (by decide +kernel) rfl) (fun a b => pe_callB a (by rfl) T.b_isinstance (by decide +kernel) b) (fun p => pa_cons p (pa_cons (pe_bltn (by rfl) T.b_bool (by decide +kernel) rfl) pa_nil)))) (db_one (ds_ret (de_and (de_isinst (by simp) (dv 0) (pe_bltn (by rfl) T.b_bool (by decide +kernel) rfl) (fun a b => pe_callB a (by rfl) T.b_isinstance (by decide +kernel) b) (fun p => pa_cons p (pa_cons (pe_bltn (by rfl) T.b_bool (by decide +kernel) rfl) pa_nil))) (de_one (de_cmp (dop_eq rfl hr.units) (dv 0) (dv 1) (nomark _)))))) (db_nil)) (db_cons (ds_if (dt_val (de_isinst (by simp) (dv 1) (pe_bltn (by rfl) T.b_int (by decide +kernel) rfl) (fun a b => pe_callB a (by rfl) T.b_isinstance (by decide +kernel) b) (fun p => pa_cons p (pa_cons (pe_bltn (by rfl) T.b_int (by decide +kernel) rfl) pa_nil)))) (db_one (ds_ret (de_and (de_isinst (by simp) (dv 0) (pe_bltn (by rfl) T.b_int (by decide +kernel) rfl) (fun a b => pe_callB a (by rfl) T.b_isinstance (by decide +kernel) b) (fun p => pa_cons p (pa_cons (pe_bltn (by rfl) T.b_int (by decide +kernel) rfl) pa_nil))) (de_and (de_not (de_isinst (by simp) (dv 0) (pe_bltn (by rfl) T.b_bool (by decide +kernel) rfl) (fun a b => pe_callB a (by rfl) T.b_isinstance (by decide +kernel) b) (fun p => pa_cons p (pa_cons (pe_bltn (by rfl) T.b_bool (by decide +kernel) rfl) pa_nil)))) (de_one (de_cmp (dop_eq rfl hr.units) (dv 0) (dv 1) (nomark _))))))) (db_nil)) (db_cons (ds_if (dt_val (de_isinst (by simp) (dv 1) (pe_bltn (by rfl) T.b_str (by decide +kernel) rfl) (fun a b => pe_callB a (by rfl) T.b_isinstance (by decide +kernel) b) (fun p => pa_cons p (pa_cons (pe_bltn (by rfl) T.b_str (by decide +kernel) rfl) pa_nil)))) (db_one (ds_ret (de_and (de_isinst (by simp) (dv 0) (pe_bltn (by rfl) T.b_str (by decide +kernel) rfl) (fun a b => pe_callB a (by rfl) T.b_isinstance (by decide +kernel) b) (fun p => pa_cons p (pa_cons (pe_bltn (by rfl) T.b_str (by decide +kernel) rfl) pa_nil))) (de_one (de_cmp (dop_eq rfl hr.units) (dv 0) (dv 1) (nomark _)))))) (db_nil)) (db_cons (ds_if (dt_w (dw_or (dt_cmp (dop_ne rfl hr.units) (de_isinst (by simp) (dv 1) (pe_bltn (by rfl) T.b_tuple (by decide +kernel) rfl) (fun a b => pe_callB a (by rfl) T.b_isinstance (by decide +kernel) b) (fun p => pa_cons p (pa_cons (pe_bltn (by rfl) T.b_tuple (by decide +kernel) rfl) pa_nil))) (de_isinst (by simp) (dv 0) (pe_bltn (by rfl) T.b_tuple (by decide +kernel) rfl) (fun a b => pe_callB a (by rfl) T.b_isinstance (by decide +kernel) b) (fun p => pa_cons p (pa_cons (pe_bltn (by rfl) T.b_tuple (by decide +kernel) rfl) pa_nil))) (nomark _)) (dw_or1 (dt_cmp (dop_ne rfl hr.units) (de_isinst (by simp) (dv 1) (pe_bltn (by rfl) T.b_list (by decide +kernel) rfl) (fun a b => pe_callB a (by rfl) T.b_isinstance (by decide +kernel) b) (fun p => pa_cons p (pa_cons (pe_bltn (by rfl) T.b_list (by decide +kernel) rfl) pa_nil))) (de_isinst (by simp) (dv 0) (pe_bltn (by rfl) T.b_list (by decide +kernel) rfl) (fun a b => pe_callB a (by rfl) T.b_isinstance (by decide +kernel) b) (fun p => pa_cons p (pa_cons (pe_bltn (by rfl) T.b_list (by decide +kernel) rfl) pa_nil))) (nomark _))))) (db_one (ds_ret (de_bl))) (db_nil)) (db_cons (ds_if (dt_cmp (dop_ne rfl hr.units) (de_callB dc_len (by rfl) T.b_len (by decide +kernel) (da_cons (dv 0) (da_nil)) (fun a b => pe_callB a (by rfl) T.b_len (by decide +kernel) b)) (de_callB dc_len (by rfl) T.b_len (by decide +kernel) (da_cons (dv 1) (da_nil)) (fun a b => pe_callB a (by rfl) T.b_len (by decide +kernel) b)) (nomark _)) (db_one (ds_ret (de_bl))) (db_nil)) (db_cons (ds_for passF rfl (di_r1 (by rfl) T.b_range (da_cons (de_callB dc_len (by rfl) T.b_len (by decide +kernel) (da_cons (dv 1) (da_nil)) (fun a b => pe_callB a (by rfl) T.b_len (by decide +kernel) b)) (da_nil))) (dg_name sc_law_alike.nd rfl (by first | exact Or.inl rfl | exact Or.inr rfl)) (db_one (ds_if (dt_not (dt_val (dcallR c_law_alike hr passD (da_cons (de_ix rfl (dv 0) (dv 2) (fun _ _ => rfl)) (da_cons (de_ix rfl (dv 1) (dv 2) (fun _ _ => rfl)) (da_nil)))))) (db_one (ds_ret (de_bl))) (db_nil)))) (db_one (ds_ret (de_bl))))))))), m, F.kp, F.binds (ps := ["_law_found", "_law_due"]) fun _ _ _ _ _ _ us hl => match us, hl with | [_, _], _ => rfl⟩
theorem rec_law_alike {f : Addr} {fd : FuncData} (F : Fun W.K "_law_alike" "_law_alike" s_law_alike f fd) (m : mg "_law_alike" = some (.ref f)) (T : Txt W mg) : ∀ n, Fn P w W mg base "_law_alike" n 2 (l_law_alike n)
  | 0 => fn_bad m F.kp (F.binds (ps := ["_law_found", "_law_due"]) fun _ _ _ _ _ _ us hl => match us, hl with | [_, _], _ => rfl)
  | n + 1 => ok_law_alike F m T (rec_law_alike F m T n)
theorem sc_law_told : FnScope ["_law_work", "e", "_law_kinds", "_law_words", "_law_word"] ["_law_work"] (defScope s_law_told) := ⟨rfl, rfl, rfl, by decide +kernel, rfl, by decide +kernel, by decide +kernel⟩
theorem ok_law_told {k : Nat} {f : Addr} {fd : FuncData} (F : Fun W.K "_law_told" "_law_told" s_law_told f fd) (m : mg "_law_told" = some (.ref f)) (T : Txt W mg) : FnT P w W mg base "_law_told" (k + 2) ["_law_work"] (spTold P w W mg base k [8] hmT) :=
  ⟨f, fd, told_fn (E0 := fun _ _ _ => False) (i := 1) (hb := fun a c o => d_law_told_h a c o) F sc_law_told rfl rfl (.inl rfl) rfl rfl rfl T.g_GrowError (by decide) T.ct_law_told (fun cdv A outer sh H E a oe pn c o hc hz hf hr => db_cons (ds_set sc_law_told.nd rfl (by first | exact Or.inl rfl | exact Or.inr rfl) (de_lst true (da_cons (dIsO (T.xC c hc) hz hf T.b_isinstance T.gy_BadPage (T.ki_BadPage c hc)) (da_cons (dIsO (T.xC c hc) hz hf T.b_isinstance T.gy_BadStyle (T.ki_BadStyle c hc)) (da_cons (dIsO (T.xC c hc) hz hf T.b_isinstance T.gy_BadRow (T.ki_BadRow c hc)) (da_cons (dIsO (T.xC c hc) hz hf T.b_isinstance T.gy_BadCell (T.ki_BadCell c hc)) (da_nil))))))) (db_cons (ds_set sc_law_told.nd rfl (by first | exact Or.inl rfl | exact Or.inr rfl) (de_op (dop_add true) (dv 2) (de_lst false (da_cons (dIsO (T.xC c hc) hz hf T.b_isinstance T.gy_BadCount (T.ki_BadCount c hc)) (da_cons (dIsO (T.xC c hc) hz hf T.b_isinstance T.gy_BadLines (T.ki_BadLines c hc)) (da_cons (dIsO (T.xC c hc) hz hf T.b_isinstance T.gy_BadStep (T.ki_BadStep c hc)) (da_nil))))))) (db_cons (ds_set sc_law_told.nd rfl (by first | exact Or.inl rfl | exact Or.inr rfl) (de_op (dop_add true) (dv 2) (de_lst false (da_cons (dIsO (T.xC c hc) hz hf T.b_isinstance T.gy_BadStroke (T.ki_BadStroke c hc)) (da_cons (dIsO (T.xC c hc) hz hf T.b_isinstance T.gy_BadText (T.ki_BadText c hc)) (da_cons (dIsO (T.xC c hc) hz hf T.b_isinstance T.gy_BadHand (T.ki_BadHand c hc)) (da_nil))))))) (db_cons (ds_expr (de_mt PySem.F.plainAttrs_list PySem.F.slot_list_append PySem.F.type_list_append (dm_append) (dv 2) (da_cons (dIsO (T.xC c hc) hz hf T.b_isinstance T.gy_TooMuch (T.ki_TooMuch c hc)) (da_nil)) (fun a b c => pe_bm PySem.F.plainAttrs_list PySem.F.slot_list_append PySem.F.type_list_append a b c))) (db_cons (ds_if (dt_w (dw_or (dt_cmp (dop_ne rfl hr.units) (de_mt PySem.F.plainAttrs_list PySem.F.slot_list_count PySem.F.type_list_count (dm_count rfl (by have h65 := Dl.hu65 hr; exact h65)) (dv 2) (da_cons (de_bl) (da_nil)) (fun a b c => pe_bm PySem.F.plainAttrs_list PySem.F.slot_list_count PySem.F.type_list_count a b c)) (de_int) (nomark _)) (dw_or1 (dt_not (dt_val (dIsV (T.xC c hc) hz hf T.b_isinstance T.b_ValueError (T.kv c hc))))))) (db_one (ds_ret (de_tup (da_cons (de_str (by decide +kernel) (by decide +kernel)) (da_cons (de_int) (da_nil)))))) (db_nil)) (db_cons (ds_set sc_law_told.nd rfl (by first | exact Or.inl rfl | exact Or.inr rfl) (de_lst false (da_cons (de_str (by decide +kernel) (by decide +kernel)) (da_cons (de_str (by decide +kernel) (by decide +kernel)) (da_cons (de_str (by decide +kernel) (by decide +kernel)) (da_cons (de_str (by decide +kernel) (by decide +kernel)) (da_cons (de_str (by decide +kernel) (by decide +kernel)) (da_cons (de_str (by decide +kernel) (by decide +kernel)) (da_cons (de_str (by decide +kernel) (by decide +kernel)) (da_cons (de_str (by decide +kernel) (by decide +kernel)) (da_cons (de_str (by decide +kernel) (by decide +kernel)) (da_nil)))))))))))) (db_cons (ds_set sc_law_told.nd rfl (by first | exact Or.inl rfl | exact Or.inr rfl) (de_ix rfl (de_op (dop_add false) (dv 3) (de_lst false (da_cons (de_str (by decide +kernel) (by decide +kernel)) (da_cons (de_str (by decide +kernel) (by decide +kernel)) (da_nil))))) (de_mt PySem.F.plainAttrs_list PySem.F.slot_list_index PySem.F.type_list_index (dm_index rfl (by have h65 := Dl.hu65 hr; exact h65)) (dv 2) (da_cons (de_bl) (da_nil)) (fun a b c => pe_bm PySem.F.plainAttrs_list PySem.F.slot_list_index PySem.F.type_list_index a b c)) (fun _ _ => rfl))) (db_cons (ds_if (dt_cmp (dop_in rfl) (dv 4) (de_tup (da_cons (de_str (by decide +kernel) (by decide +kernel)) (da_cons (de_str (by decide +kernel) (by decide +kernel)) (da_nil)))) (by rfl)) (db_one (ds_ret (de_tup (da_cons (dv 4) (da_cons (dXf (T.xC c hc) hz hf (T.nx_row c hc)) (da_nil)))))) (db_nil)) (db_cons (ds_if (dt_cmp (dop_eq rfl hr.units) (dv 4) (de_str (by decide +kernel) (by decide +kernel)) (nomark _)) (db_one (ds_ret (de_tup (da_cons (dv 4) (da_cons (dXf (T.xC c hc) hz hf (T.nx_line c hc)) (da_nil)))))) (db_nil)) (db_one (ds_ret (de_tup (da_cons (dv 4) (da_cons (de_if (dt_cmp (dop_in rfl) (dv 4) (de_tup (da_cons (de_str (by decide +kernel) (by decide +kernel)) (da_cons (de_str (by decide +kernel) (by decide +kernel)) (da_nil)))) (by rfl)) (dXf (T.xC c hc) hz hf (T.nx_number c hc)) (de_int)) (da_nil)))))))))))))))
    (fun a c o p st hc hr => hmT_ok c ((by decide : ∀ c ∈ ([8] : List Nat), c ∈ [1, 2, 3, 4, 5, 6, 7, 8, 9, 10, 11]) c hc) (T.py c hc) a o p st hr), m, F.kp, F.binds (ps := ["_law_work"]) fun _ _ _ _ _ _ us hl => match us, hl with | [_], _ => rfl⟩
theorem sc_law_all : FnScope ["_law_works", "_law_due", "_law_work"] ["_law_works", "_law_due"] (defScope s_law_all) := ⟨rfl, rfl, rfl, by decide +kernel, rfl, by decide +kernel, by decide +kernel⟩
theorem ok_law_all {k n la : Nat} {f : Addr} {fd : FuncData} {m_law_alike : FV} (F : Fun W.K "_law_all" "_law_all" s_law_all f fd) (m : mg "_law_all" = some (.ref f)) (c_law_alike : Fn P w W mg base "_law_alike" la 2 m_law_alike) (c_law_told : FnT P w W mg base "_law_told" (k + 2) ["_law_work"] (spTold P w W mg base k [8] hmT)) (h1 : la ≤ n) (h2 : k + 2 ≤ n) : FnT P w W mg base "_law_all" (n + 1) ["_law_works", "_law_due"] (spAll P w W mg base k m_law_alike [8] hmT) := by
  obtain ⟨f1, fd1, ps1, F1, m1, k1, b1⟩ := c_law_alike.ex
  obtain ⟨f2, fd2, F2, m2, k2, b2⟩ := c_law_told.ex
  refine ⟨f, fd, all_fn F sc_law_all rfl fun cdv A outer sh H E hr => ?_, m, F.kp, F.binds (ps := ["_law_works", "_law_due"]) fun _ _ _ _ _ _ us hl => match us, hl with | [_, _], _ => rfl⟩
  exact pe_lc (own := [("_law_work", 2)]) rfl sc_law_all.nd (pi_list (pe_var (i := 0) rfl (by first | exact Or.inl rfl | exact Or.inr (Or.inl rfl) | exact Or.inr (Or.inr rfl)))) (by exact blkOk_by (N := ["_law_works", "_law_due", "_law_work"]) (sc := defScope s_law_all) (own := [("_law_work", 2)]) (by decide +kernel)) (fun _ _ _ _ _ => pg_name sc_law_all.nd rfl (by first | exact Or.inl rfl | exact Or.inr rfl)) (fun _ _ _ _ _ => pts_one (pt_not (pt_val (pe_call (F1.mono h1) hr rfl m1 k1 b1 .nil passL (pa_cons (pe_call (F2.mono h2) hr rfl m2 k2 b2 .nil passL (pa_cons (pe_var (i := 2) rfl (by first | exact Or.inl rfl | exact Or.inr (Or.inl rfl) | exact Or.inr (Or.inr rfl))) pa_nil)) (pa_cons (pe_var (i := 1) rfl (by first | exact Or.inl rfl | exact Or.inr (Or.inl rfl) | exact Or.inr (Or.inr rfl))) pa_nil)))))) (fun _ _ _ _ _ => pe_var (i := 2) rfl (by first | exact Or.inl rfl | exact Or.inr (Or.inl rfl) | exact Or.inr (Or.inr rfl)))
theorem sc_is_sign : FnScope ["sign"] ["sign"] (defScope s_is_sign) := ⟨rfl, rfl, rfl, by decide +kernel, rfl, by decide +kernel, by decide +kernel⟩
theorem ok_is_sign {f : Addr} {fd : FuncData} (F : Fun W.K "is_sign" "is_sign" s_is_sign f fd) (m : mg "is_sign" = some (.ref f)) (T : Txt W mg)  : Fn P w W mg base "is_sign" (1) 1 (funD 1 d_is_sign) :=
  ⟨f, fd, ["sign"], fnE F sc_is_sign rfl rfl fun cdv A outer sh H E hr => db_one (ds_ret (de_and (de_chain dop_le dop_le (de_globS rfl T.k_FIRST_SIGN.choose_spec (by decide +kernel) (by decide +kernel)) (dv 0) (de_globS rfl T.k_LAST_SIGN.choose_spec (by decide +kernel) (by decide +kernel)) (by with_unfolding_all rfl)) (de_one (de_cmp (dop_ne rfl hr.units) (de_callB dc_ord (by rfl) T.b_ord (by decide +kernel) (da_cons (dv 0) (da_nil)) (fun a b => pe_callB a (by rfl) T.b_ord (by decide +kernel) b)) (de_globI rfl T.k_BARRED.choose_spec) (nomark _))))), m, F.kp, F.binds (ps := ["sign"]) fun _ _ _ _ _ _ us hl => match us, hl with | [_], _ => rfl⟩
theorem sc_is_line : FnScope ["line", "sign"] ["line"] (defScope s_is_line) := ⟨rfl, rfl, rfl, by decide +kernel, rfl, by decide +kernel, by decide +kernel⟩
theorem ok_is_line {m_is_sign : FV} {f : Addr} {fd : FuncData} (F : Fun W.K "is_line" "is_line" s_is_line f fd) (m : mg "is_line" = some (.ref f)) (T : Txt W mg) (c_is_sign : Fn P w W mg base "is_sign" 1 1 m_is_sign) : Fn P w W mg base "is_line" (2) 1 (funD 2 (d_is_line m_is_sign)) :=
  ⟨f, fd, ["line"], fnE F sc_is_line rfl rfl fun cdv A outer sh H E hr => db_one (ds_ret (de_and (de_isinst (by simp) (dv 0) (pe_bltn (by rfl) T.b_str (by decide +kernel) rfl) (fun a b => pe_callB a (by rfl) T.b_isinstance (by decide +kernel) b) (fun p => pa_cons p (pa_cons (pe_bltn (by rfl) T.b_str (by decide +kernel) rfl) pa_nil))) (de_and (de_cmp dop_le (de_callB dc_len (by rfl) T.b_len (by decide +kernel) (da_cons (dv 0) (da_nil)) (fun a b => pe_callB a (by rfl) T.b_len (by decide +kernel) b)) (de_globI rfl T.k_MOST_WIDE.choose_spec) (nomark _)) (de_one (de_cmp (dop_eq rfl hr.units) (de_lc false rfl sc_is_line.nd (di_seq (dv 0)) (by exact blkOk_by (N := ["line", "sign"]) (sc := defScope s_is_line) (own := [("sign", 1)]) (by decide +kernel)) rfl (by decide) (fun _ _ _ _ _ => tg_one sc_is_line.nd rfl (by first | exact Or.inl rfl | exact Or.inr rfl)) (fun _ _ _ _ _ => dts_one (dt_not (dt_val (dcall c_is_sign hr passL (da_cons (dv 1) (da_nil)))))) (fun _ _ _ _ _ => dv 1)) (de_lst false (da_nil)) (nomark _)))))), m, F.kp, F.binds (ps := ["line"]) fun _ _ _ _ _ _ us hl => match us, hl with | [_], _ => rfl⟩
theorem sc_need_lines : FnScope ["lines", "number", "line"] ["lines"] (defScope s_need_lines) := ⟨rfl, rfl, rfl, by decide +kernel, rfl, by decide +kernel, by decide +kernel⟩
theorem ok_need_lines {m_is_line : FV} {f : Addr} {fd : FuncData} (F : Fun W.K "need_lines" "need_lines" s_need_lines f fd) (m : mg "need_lines" = some (.ref f)) (T : Txt W mg) (c_is_line : Fn P w W mg base "is_line" 2 1 m_is_line) (i_BadLines : IniX P w W mg base "BadLines" 8 "line") : Fn P w W mg base "need_lines" (3) 1 (funD 3 (d_need_lines m_is_line)) :=
  ⟨f, fd, ["lines"], fnE F sc_need_lines rfl rfl fun cdv A outer sh H E hr => db_one (ds_for passF rfl (di_enum (by rfl) T.b_enumerate (da_cons (dv 0) (da_nil))) (dg_tup rfl (dgs_cons (dg_name sc_need_lines.nd rfl (by first | exact Or.inl rfl | exact Or.inr rfl)) (dgs_cons (dg_name sc_need_lines.nd rfl (by first | exact Or.inl rfl | exact Or.inr rfl)) (dgs_nil)))) (db_one (ds_if (dt_w (dw_or (dt_cmp dop_ge (dv 1) (de_globI rfl T.k_MOST_ROWS.choose_spec) (nomark _)) (dw_or1 (dt_not (dt_val (dcall c_is_line hr passD (da_cons (dv 2) (da_nil)))))))) (db_one (draiseP i_BadLines hr (dv 1) takesD)) (db_nil)))), m, F.kp, F.binds (ps := ["lines"]) fun _ _ _ _ _ _ us hl => match us, hl with | [_], _ => rfl⟩
theorem sc_strokes_of : FnScope ["number", "one", "two", "wide", "places", "found", "begin", "k"] ["number", "one", "two"] (defScope s_strokes_of) := ⟨rfl, rfl, rfl, by decide +kernel, rfl, by decide +kernel, by decide +kernel⟩
theorem ok_strokes_of {f : Addr} {fd : FuncData} (F : Fun W.K "strokes_of" "strokes_of" s_strokes_of f fd) (m : mg "strokes_of" = some (.ref f)) (T : Txt W mg)  : Fn P w W mg base "strokes_of" (1) 3 (funD 8 d_strokes_of) :=
  ⟨f, fd, ["number", "one", "two"], fnE F sc_strokes_of rfl rfl fun cdv A outer sh H E hr => db_cons (ds_set sc_strokes_of.nd rfl (by first | exact Or.inl rfl | exact Or.inr rfl) (de_callB (dc_max rfl) (by rfl) T.b_max (by decide +kernel) (da_cons (de_callB dc_len (by rfl) T.b_len (by decide +kernel) (da_cons (dv 1) (da_nil)) (fun a b => pe_callB a (by rfl) T.b_len (by decide +kernel) b)) (da_cons (de_callB dc_len (by rfl) T.b_len (by decide +kernel) (da_cons (dv 2) (da_nil)) (fun a b => pe_callB a (by rfl) T.b_len (by decide +kernel) b)) (da_nil))) (fun a b => pe_callB a (by rfl) T.b_max (by decide +kernel) b))) (db_cons (ds_asg (de_tup (da_cons (de_mt PySem.F.plainAttrs_str PySem.F.slot_str_ljust PySem.F.type_str_ljust (dm_ljust) (dv 1) (da_cons (dv 3) (da_nil)) (fun a b c => pe_bm PySem.F.plainAttrs_str PySem.F.slot_str_ljust PySem.F.type_str_ljust a b c)) (da_cons (de_mt PySem.F.plainAttrs_str PySem.F.slot_str_ljust PySem.F.type_str_ljust (dm_ljust) (dv 2) (da_cons (dv 3) (da_nil)) (fun a b c => pe_bm PySem.F.plainAttrs_str PySem.F.slot_str_ljust PySem.F.type_str_ljust a b c)) (da_nil)))) (dg_tup rfl (dgs_cons (dg_name sc_strokes_of.nd rfl (by first | exact Or.inl rfl | exact Or.inr rfl)) (dgs_cons (dg_name sc_strokes_of.nd rfl (by first | exact Or.inl rfl | exact Or.inr rfl)) (dgs_nil))))) (db_cons (ds_setLc false rfl sc_strokes_of.nd rfl rfl (sw_true rfl rfl rfl (by decide +kernel)) (di_r1 (by rfl) T.b_range (da_cons (dv 3) (da_nil))) (by exact blkOk_by (N := ["number", "one", "two", "wide", "places", "found", "begin", "k"]) (sc := defScope s_strokes_of) (own := [("k", 7)]) (by decide +kernel)) rfl (by decide) (fun _ _ _ _ _ => tg_one sc_strokes_of.nd rfl (by first | exact Or.inl rfl | exact Or.inr rfl)) (fun _ _ _ _ _ => dts_one (dt_cmp (dop_ne rfl hr.units) (de_ix rfl (dv 1) (dv 7) (fun _ _ => rfl)) (de_ix rfl (dv 2) (dv 7) (fun _ _ => rfl)) (nomark _))) (fun _ _ _ _ _ => dv 7)) (db_cons (ds_set sc_strokes_of.nd rfl (by first | exact Or.inl rfl | exact Or.inr rfl) (de_lst true (da_nil))) (db_cons (ds_set sc_strokes_of.nd rfl (by first | exact Or.inl rfl | exact Or.inr rfl) (de_non)) (db_cons (ds_for passF rfl (di_r1 (by rfl) T.b_range (da_cons (de_callB dc_len (by rfl) T.b_len (by decide +kernel) (da_cons (dv 4) (da_nil)) (fun a b => pe_callB a (by rfl) T.b_len (by decide +kernel) b)) (da_nil))) (dg_name sc_strokes_of.nd rfl (by first | exact Or.inl rfl | exact Or.inr rfl)) (db_cons (ds_set sc_strokes_of.nd rfl (by first | exact Or.inl rfl | exact Or.inr rfl) (de_if (dt_cmp dop_is (dv 6) (de_non) (nomark _)) (de_ix rfl (dv 4) (dv 7) (fun _ _ => rfl)) (dv 6))) (db_one (ds_if (dt_w (dw_or (dt_cmp (dop_eq rfl hr.units) (de_op (dop_add false) (dv 7) (de_int)) (de_callB dc_len (by rfl) T.b_len (by decide +kernel) (da_cons (dv 4) (da_nil)) (fun a b => pe_callB a (by rfl) T.b_len (by decide +kernel) b)) (nomark _)) (dw_or1 (dt_cmp dop_gt (de_op dop_sub (de_ix rfl (dv 4) (de_op (dop_add false) (dv 7) (de_int)) (fun _ _ => rfl)) (de_ix rfl (dv 4) (dv 7) (fun _ _ => rfl))) (de_globI rfl T.k_NEAR.choose_spec) (nomark _))))) (db_cons (ds_expr (de_mt PySem.F.plainAttrs_list PySem.F.slot_list_append PySem.F.type_list_append (dm_append) (dv 5) (da_cons (de_tup (da_cons (dv 0) (da_cons (dv 6) (da_cons (de_sl false rfl (dv 2) (dp_some (dv 6)) (dp_some (de_op (dop_add false) (de_ix rfl (dv 4) (dv 7) (fun _ _ => rfl)) (de_int)))) (da_nil))))) (da_nil)) (fun a b c => pe_bm PySem.F.plainAttrs_list PySem.F.slot_list_append PySem.F.type_list_append a b c))) (db_one (ds_set sc_strokes_of.nd rfl (by first | exact Or.inl rfl | exact Or.inr rfl) (de_non)))) (db_nil))))) (db_one (ds_ret (dv 5)))))))), m, F.kp, F.binds (ps := ["number", "one", "two"]) fun _ _ _ _ _ _ us hl => match us, hl with | [_, _, _], _ => rfl⟩
theorem sc_strokes : FnScope ["before", "later", "found", "number", "one", "two"] ["before", "later"] (defScope s_strokes) := ⟨rfl, rfl, rfl, by decide +kernel, rfl, by decide +kernel, by decide +kernel⟩
theorem ok_strokes {m_need_lines m_strokes_of : FV} {f : Addr} {fd : FuncData} (F : Fun W.K "strokes" "strokes" s_strokes f fd) (m : mg "strokes" = some (.ref f)) (T : Txt W mg) (c_need_lines : Fn P w W mg base "need_lines" 3 1 m_need_lines) (c_strokes_of : Fn P w W mg base "strokes_of" 1 3 m_strokes_of) : Fn P w W mg base "strokes" (4) 2 (funD 6 (d_strokes m_need_lines m_strokes_of)) :=
  ⟨f, fd, ["before", "later"], fnE F sc_strokes rfl rfl fun cdv A outer sh H E hr => db_cons (ds_expr (dcall c_need_lines hr passD (da_cons (dv 0) (da_nil)))) (db_cons (ds_expr (dcall c_need_lines hr passD (da_cons (dv 1) (da_nil)))) (db_cons (ds_set sc_strokes.nd rfl (by first | exact Or.inl rfl | exact Or.inr rfl) (de_lst true (da_nil))) (db_cons (ds_for passF rfl (di_r1 (by rfl) T.b_range (da_cons (de_callB (dc_max rfl) (by rfl) T.b_max (by decide +kernel) (da_cons (de_callB dc_len (by rfl) T.b_len (by decide +kernel) (da_cons (dv 0) (da_nil)) (fun a b => pe_callB a (by rfl) T.b_len (by decide +kernel) b)) (da_cons (de_callB dc_len (by rfl) T.b_len (by decide +kernel) (da_cons (dv 1) (da_nil)) (fun a b => pe_callB a (by rfl) T.b_len (by decide +kernel) b)) (da_nil))) (fun a b => pe_callB a (by rfl) T.b_max (by decide +kernel) b)) (da_nil))) (dg_name sc_strokes.nd rfl (by first | exact Or.inl rfl | exact Or.inr rfl)) (db_cons (ds_set sc_strokes.nd rfl (by first | exact Or.inl rfl | exact Or.inr rfl) (de_if (dt_cmp dop_lt (dv 3) (de_callB dc_len (by rfl) T.b_len (by decide +kernel) (da_cons (dv 0) (da_nil)) (fun a b => pe_callB a (by rfl) T.b_len (by decide +kernel) b)) (nomark _)) (de_ix rfl (dv 0) (dv 3) (fun _ _ => rfl)) (de_str (by decide +kernel) (by decide +kernel)))) (db_cons (ds_set sc_strokes.nd rfl (by first | exact Or.inl rfl | exact Or.inr rfl) (de_if (dt_cmp dop_lt (dv 3) (de_callB dc_len (by rfl) T.b_len (by decide +kernel) (da_cons (dv 1) (da_nil)) (fun a b => pe_callB a (by rfl) T.b_len (by decide +kernel) b)) (nomark _)) (de_ix rfl (dv 1) (dv 3) (fun _ _ => rfl)) (de_str (by decide +kernel) (by decide +kernel)))) (db_one (ds_expr (de_mt PySem.F.plainAttrs_list PySem.F.slot_list_extend PySem.F.type_list_extend (dm_extend) (dv 2) (da_cons (dcall c_strokes_of hr passD (da_cons (dv 3) (da_cons (dv 4) (da_cons (dv 5) (da_nil))))) (da_nil)) (fun a b c => pe_bm PySem.F.plainAttrs_list PySem.F.slot_list_extend PySem.F.type_list_extend a b c))))))) (db_one (ds_ret (dv 2)))))), m, F.kp, F.binds (ps := ["before", "later"]) fun _ _ _ _ _ _ us hl => match us, hl with | [_, _], _ => rfl⟩
theorem sc_law_take : FnScope ["_law_box", "_law_many", "_law_number"] ["_law_box", "_law_many"] (defScope s_law_take) := ⟨rfl, rfl, rfl, by decide +kernel, rfl, by decide +kernel, by decide +kernel⟩
theorem ok_law_take {f : Addr} {fd : FuncData} (F : Fun W.K "_law_take" "_law_take" s_law_take f fd) (m : mg "_law_take" = some (.ref f)) (T : Txt W mg)  : Fn P w W mg base "_law_take" (1) 2 (funD 3 d_law_take) :=
  ⟨f, fd, ["_law_box", "_law_many"], fnE F sc_law_take rfl rfl fun cdv A outer sh H E hr => db_cons (ds_if (dt_cmp (dop_eq rfl hr.units) (de_ix rfl (dv 0) (de_int) (fun _ _ => rfl)) (de_lst false (da_nil)) (nomark _)) (db_cons (ds_asg (de_op dop_mod (de_op (dop_mul false) (de_ix rfl (dv 0) (de_int) (fun _ _ => rfl)) (de_int)) (de_int)) (dg_sub (dv 0) (de_int) dset_list)) (db_one (ds_ret (de_op dop_mod (de_op dop_div (de_ix rfl (dv 0) (de_int) (fun _ _ => rfl)) (de_int)) (dv 1))))) (db_nil)) (db_cons (ds_set sc_law_take.nd rfl (by first | exact Or.inl rfl | exact Or.inr rfl) (de_ix rfl (de_ix rfl (dv 0) (de_int) (fun _ _ => rfl)) (de_int) (fun _ _ => rfl))) (db_cons (ds_asg (de_op dop_div (dv 2) (dv 1)) (dg_sub (de_ix rfl (dv 0) (de_int) (fun _ _ => rfl)) (de_int) dset_list)) (db_cons (ds_if (dt_w (dw_or (dt_cmp (dop_eq rfl hr.units) (de_ix rfl (de_ix rfl (dv 0) (de_int) (fun _ _ => rfl)) (de_int) (fun _ _ => rfl)) (de_int) (nomark _)) (dw_or1 (dt_cmp (dop_eq rfl hr.units) (de_ix rfl (de_ix rfl (dv 0) (de_int) (fun _ _ => rfl)) (de_int) (fun _ _ => rfl)) (de_neg (de_int)) (nomark _))))) (db_one (ds_expr (de_mt PySem.F.plainAttrs_list PySem.F.slot_list_pop PySem.F.type_list_pop (dm_pop) (de_ix rfl (dv 0) (de_int) (fun _ _ => rfl)) (da_cons (de_int) (da_nil)) (fun a b c => pe_bm PySem.F.plainAttrs_list PySem.F.slot_list_pop PySem.F.type_list_pop a b c)))) (db_nil)) (db_one (ds_ret (de_op dop_mod (dv 2) (dv 1))))))), m, F.kp, F.binds (ps := ["_law_box", "_law_many"]) fun _ _ _ _ _ _ us hl => match us, hl with | [_, _], _ => rfl⟩
theorem sc_law_sign : FnScope ["_law_box", "_law_every"] ["_law_box"] (defScope s_law_sign) := ⟨rfl, rfl, rfl, by decide +kernel, rfl, by decide +kernel, by decide +kernel⟩
theorem ok_law_sign {m_law_take : FV} {f : Addr} {fd : FuncData} (F : Fun W.K "_law_sign" "_law_sign" s_law_sign f fd) (m : mg "_law_sign" = some (.ref f)) (T : Txt W mg) (c_law_take : Fn P w W mg base "_law_take" 1 2 m_law_take) : Fn P w W mg base "_law_sign" (2) 1 (funD 2 (d_law_sign m_law_take)) :=
  ⟨f, fd, ["_law_box"], fnE F sc_law_sign rfl rfl fun cdv A outer sh H E hr => db_cons (ds_set sc_law_sign.nd rfl (by first | exact Or.inl rfl | exact Or.inr rfl) (de_str (by decide +kernel) (by decide +kernel))) (db_one (ds_ret (de_ix rfl (dv 1) (dcall c_law_take hr passD (da_cons (dv 0) (da_cons (de_int) (da_nil)))) (fun _ _ => rfl)))), m, F.kp, F.binds (ps := ["_law_box"]) fun _ _ _ _ _ _ us hl => match us, hl with | [_], _ => rfl⟩
theorem sc_law_line : FnScope ["_law_box", "_law_found", "_law_turn", "_law_word", "_law_k"] ["_law_box"] (defScope s_law_line) := ⟨rfl, rfl, rfl, by decide +kernel, rfl, by decide +kernel, by decide +kernel⟩
theorem ok_law_line {m_law_take m_law_sign : FV} {f : Addr} {fd : FuncData} (F : Fun W.K "_law_line" "_law_line" s_law_line f fd) (m : mg "_law_line" = some (.ref f)) (T : Txt W mg) (c_law_take : Fn P w W mg base "_law_take" 1 2 m_law_take) (c_law_sign : Fn P w W mg base "_law_sign" 2 1 m_law_sign) : Fn P w W mg base "_law_line" (3) 1 (funD 5 (d_law_line_k20 m_law_take m_law_sign)) :=
  ⟨f, fd, ["_law_box"], fnE F sc_law_line rfl rfl fun cdv A outer sh H E hr => db_cons (ds_set sc_law_line.nd rfl (by first | exact Or.inl rfl | exact Or.inr rfl) (de_str (by decide +kernel) (by decide +kernel))) (db_cons (ds_for passF rfl (di_r1 (by rfl) T.b_range (da_cons (dcall c_law_take hr passD (da_cons (dv 0) (da_cons (de_ix rfl (de_lst false (da_cons (de_int) (da_cons (de_int) (da_cons (de_int) (da_nil))))) (dcall c_law_take hr passD (da_cons (dv 0) (da_cons (de_int) (da_nil)))) (fun _ _ => rfl)) (da_nil)))) (da_nil))) (dg_name sc_law_line.nd rfl (by first | exact Or.inl rfl | exact Or.inr rfl)) (db_cons (ds_set sc_law_line.nd rfl (by first | exact Or.inl rfl | exact Or.inr rfl) (de_mt PySem.F.plainAttrs_str PySem.F.slot_str_join PySem.F.type_str_join (dm_join) (de_str (by decide +kernel) (by decide +kernel)) (da_cons (de_lc false rfl sc_law_line.nd (di_r1 (by rfl) T.b_range (da_cons (dcall c_law_take hr passD (da_cons (dv 0) (da_cons (de_int) (da_nil)))) (da_nil))) (by exact blkOk_by (N := ["_law_box", "_law_found", "_law_turn", "_law_word", "_law_k"]) (sc := defScope s_law_line) (own := [("_law_k", 4)]) (by decide +kernel)) rfl (by decide) (fun _ _ _ _ _ => tg_one sc_law_line.nd rfl (by first | exact Or.inl rfl | exact Or.inr rfl)) (fun _ _ _ _ _ => dts_nil) (fun _ _ _ _ _ => dcall c_law_sign hr passL (da_cons (dv 0) (da_nil)))) (da_nil)) (fun a b c => pe_bm PySem.F.plainAttrs_str PySem.F.slot_str_join PySem.F.type_str_join a b c))) (db_one (ds_set sc_law_line.nd rfl (by first | exact Or.inl rfl | exact Or.inr rfl) (de_op (dop_add false) (de_op (dop_add false) (dv 1) (dv 3)) (de_op (dop_mul false) (de_str (by decide +kernel) (by decide +kernel)) (dcall c_law_take hr passD (da_cons (dv 0) (da_cons (de_ix rfl (de_lst false (da_cons (de_int) (da_cons (de_int) (da_cons (de_int) (da_nil))))) (dcall c_law_take hr passD (da_cons (dv 0) (da_cons (de_int) (da_nil)))) (fun _ _ => rfl)) (da_nil)))))))))) (db_one (ds_ret (de_sl false rfl (dv 1) (dp_none) (dp_some (de_int)))))), m, F.kp, F.binds (ps := ["_law_box"]) fun _ _ _ _ _ _ us hl => match us, hl with | [_], _ => rfl⟩
theorem sc_law_line_near : FnScope ["_law_box", "_law_line_here", "_law_found", "_law_turn", "_law_k", "_law_way"] ["_law_box", "_law_line_here"] (defScope s_law_line_near) := ⟨rfl, rfl, rfl, by decide +kernel, rfl, by decide +kernel, by decide +kernel⟩
theorem ok_law_line_near {m_law_take m_law_sign : FV} {f : Addr} {fd : FuncData} (F : Fun W.K "_law_line_near" "_law_line_near" s_law_line_near f fd) (m : mg "_law_line_near" = some (.ref f)) (T : Txt W mg) (c_law_take : Fn P w W mg base "_law_take" 1 2 m_law_take) (c_law_sign : Fn P w W mg base "_law_sign" 2 1 m_law_sign) : Fn P w W mg base "_law_line_near" (3) 2 (funD 6 (d_law_line_near m_law_take m_law_sign)) :=
  ⟨f, fd, ["_law_box", "_law_line_here"], fnE F sc_law_line_near rfl rfl fun cdv A outer sh H E hr => db_cons (ds_set sc_law_line_near.nd rfl (by first | exact Or.inl rfl | exact Or.inr rfl) (dv 1)) (db_cons (ds_for passF rfl (di_r1 (by rfl) T.b_range (da_cons (dcall c_law_take hr passD (da_cons (dv 0) (da_cons (de_int) (da_nil)))) (da_nil))) (dg_name sc_law_line_near.nd rfl (by first | exact Or.inl rfl | exact Or.inr rfl)) (db_cons (ds_par rfl sc_law_line_near.nd rfl rfl (by decide) rfl rfl (da_cons (dcall c_law_take hr passD (da_cons (dv 0) (da_cons (de_op (dop_add false) (de_callB dc_len (by rfl) T.b_len (by decide +kernel) (da_cons (dv 2) (da_nil)) (fun a b => pe_callB a (by rfl) T.b_len (by decide +kernel) b)) (de_int)) (da_nil)))) (da_cons (dcall c_law_take hr passD (da_cons (dv 0) (da_cons (de_int) (da_nil)))) (da_nil))) (by rfl)) (db_cons (ds_if (dt_cmp dop_lt (dv 5) (de_int) (nomark _)) (db_one (ds_set sc_law_line_near.nd rfl (by first | exact Or.inl rfl | exact Or.inr rfl) (de_op (dop_add false) (de_op (dop_add false) (de_sl false rfl (dv 2) (dp_none) (dp_some (dv 4))) (de_ix rfl (de_lst false (da_cons (dcall c_law_sign hr passD (da_cons (dv 0) (da_nil))) (da_cons (de_str (by decide +kernel) (by decide +kernel)) (da_cons (de_str (by decide +kernel) (by decide +kernel)) (da_nil))))) (dv 5) (fun _ _ => rfl))) (de_sl false rfl (dv 2) (dp_some (de_op (dop_add false) (dv 4) (de_int))) (dp_none))))) (db_nil)) (db_cons (ds_if (dt_cmp (dop_eq rfl hr.units) (dv 5) (de_int) (nomark _)) (db_one (ds_set sc_law_line_near.nd rfl (by first | exact Or.inl rfl | exact Or.inr rfl) (de_op (dop_add false) (de_op (dop_add false) (de_sl false rfl (dv 2) (dp_none) (dp_some (dv 4))) (de_sl false rfl (de_str (by decide +kernel) (by decide +kernel)) (dp_none) (dp_some (dcall c_law_take hr passD (da_cons (dv 0) (da_cons (de_int) (da_nil))))))) (de_sl false rfl (dv 2) (dp_some (dv 4)) (dp_none))))) (db_nil)) (db_one (ds_if (dt_cmp (dop_eq rfl hr.units) (dv 5) (de_int) (nomark _)) (db_one (ds_set sc_law_line_near.nd rfl (by first | exact Or.inl rfl | exact Or.inr rfl) (de_ix rfl (de_lst false (da_cons (de_sl false rfl (dv 2) (dp_none) (dp_some (dv 4))) (da_cons (de_op (dop_add false) (de_sl false rfl (dv 2) (dp_none) (dp_some (dv 4))) (de_sl false rfl (dv 2) (dp_some (de_op (dop_add false) (de_op (dop_add false) (dv 4) (de_int)) (dcall c_law_take hr passD (da_cons (dv 0) (da_cons (de_int) (da_nil)))))) (dp_none))) (da_nil)))) (dcall c_law_take hr passD (da_cons (dv 0) (da_cons (de_int) (da_nil)))) (fun _ _ => rfl)))) (db_nil))))))) (db_one (ds_ret (de_sl false rfl (dv 2) (dp_none) (dp_some (de_int)))))), m, F.kp, F.binds (ps := ["_law_box", "_law_line_here"]) fun _ _ _ _ _ _ us hl => match us, hl with | [_, _], _ => rfl⟩
theorem sc_law_lines_two : FnScope ["_law_box", "_law_one", "_law_other", "_law_turn", "_law_k", "_law_line_here"] ["_law_box"] (defScope s_law_lines_two) := ⟨rfl, rfl, rfl, by decide +kernel, rfl, by decide +kernel, by decide +kernel⟩
theorem ok_law_lines_two {m_law_take m_law_line_k20 m_law_line_near : FV} {f : Addr} {fd : FuncData} (F : Fun W.K "_law_lines_two" "_law_lines_two" s_law_lines_two f fd) (m : mg "_law_lines_two" = some (.ref f)) (T : Txt W mg) (c_law_take : Fn P w W mg base "_law_take" 1 2 m_law_take) (c_law_line : Fn P w W mg base "_law_line" 3 1 m_law_line_k20) (c_law_line_near : Fn P w W mg base "_law_line_near" 3 2 m_law_line_near) : Fn P w W mg base "_law_lines_two" (4) 1 (funD 6 (d_law_lines_two m_law_take m_law_line_k20 m_law_line_near)) :=
  ⟨f, fd, ["_law_box"], fnE F sc_law_lines_two rfl rfl fun cdv A outer sh H E hr => db_cons (ds_setLc false rfl sc_law_lines_two.nd rfl rfl (sw_true rfl rfl rfl (by decide +kernel)) (di_r1 (by rfl) T.b_range (da_cons (dcall c_law_take hr passD (da_cons (dv 0) (da_cons (de_ix rfl (de_lst false (da_cons (de_int) (da_cons (de_int) (da_cons (de_int) (da_nil))))) (dcall c_law_take hr passD (da_cons (dv 0) (da_cons (de_int) (da_nil)))) (fun _ _ => rfl)) (da_nil)))) (da_nil))) (by exact blkOk_by (N := ["_law_box", "_law_one", "_law_other", "_law_turn", "_law_k", "_law_line_here"]) (sc := defScope s_law_lines_two) (own := [("_law_k", 4)]) (by decide +kernel)) rfl (by decide) (fun _ _ _ _ _ => tg_one sc_law_lines_two.nd rfl (by first | exact Or.inl rfl | exact Or.inr rfl)) (fun _ _ _ _ _ => dts_nil) (fun _ _ _ _ _ => dcall c_law_line hr passL (da_cons (dv 0) (da_nil)))) (db_cons (ds_setLc true rfl sc_law_lines_two.nd rfl rfl (sw_true rfl rfl rfl (by decide +kernel)) (di_seq (dv 1)) (by exact blkOk_by (N := ["_law_box", "_law_one", "_law_other", "_law_turn", "_law_k", "_law_line_here"]) (sc := defScope s_law_lines_two) (own := [("_law_line_here", 5)]) (by decide +kernel)) rfl (by decide) (fun _ _ _ _ _ => tg_one sc_law_lines_two.nd rfl (by first | exact Or.inl rfl | exact Or.inr rfl)) (fun _ _ _ _ _ => dts_nil) (fun _ _ _ _ _ => de_ix rfl (de_lst false (da_cons (dv 5) (da_cons (dcall c_law_line_near hr passL (da_cons (dv 0) (da_cons (dv 5) (da_nil)))) (da_cons (dcall c_law_line hr passL (da_cons (dv 0) (da_nil))) (da_nil))))) (de_callB (dc_min rfl) (by rfl) T.b_min (by decide +kernel) (da_cons (de_int) (da_cons (dcall c_law_take hr passL (da_cons (dv 0) (da_cons (de_int) (da_nil)))) (da_nil))) (fun a b => pe_callB a (by rfl) T.b_min (by decide +kernel) b)) (fun _ _ => rfl))) (db_cons (ds_for passF rfl (di_r1 (by rfl) T.b_range (da_cons (dcall c_law_take hr passD (da_cons (dv 0) (da_cons (de_int) (da_nil)))) (da_nil))) (dg_name sc_law_lines_two.nd rfl (by first | exact Or.inl rfl | exact Or.inr rfl)) (db_one (ds_if (dt_cmp dop_lt (de_callB dc_len (by rfl) T.b_len (by decide +kernel) (da_cons (dv 2) (da_nil)) (fun a b => pe_callB a (by rfl) T.b_len (by decide +kernel) b)) (de_int) (nomark _)) (db_one (ds_expr (de_mt PySem.F.plainAttrs_list PySem.F.slot_list_append PySem.F.type_list_append (dm_append) (dv 2) (da_cons (dcall c_law_line hr passD (da_cons (dv 0) (da_nil))) (da_nil)) (fun a b c => pe_bm PySem.F.plainAttrs_list PySem.F.slot_list_append PySem.F.type_list_append a b c)))) (db_nil)))) (db_one (ds_ret (de_tup (da_cons (dv 1) (da_cons (de_sl false rfl (dv 2) (dp_some (de_op dop_div (dcall c_law_take hr passD (da_cons (dv 0) (da_cons (de_int) (da_nil)))) (de_int))) (dp_none)) (da_nil)))))))), m, F.kp, F.binds (ps := ["_law_box"]) fun _ _ _ _ _ _ us hl => match us, hl with | [_], _ => rfl⟩
theorem sc_law_strokes : FnScope ["_law_before", "_law_later", "_law_found", "_law_number", "_law_one", "_law_other", "_law_begin", "_law_last", "_law_k"] ["_law_before", "_law_later"] (defScope s_law_strokes) := ⟨rfl, rfl, rfl, by decide +kernel, rfl, by decide +kernel, by decide +kernel⟩
theorem ok_law_strokes {f : Addr} {fd : FuncData} (F : Fun W.K "_law_strokes" "_law_strokes" s_law_strokes f fd) (m : mg "_law_strokes" = some (.ref f)) (T : Txt W mg)  : Fn P w W mg base "_law_strokes" (1) 2 (funD 9 d_law_strokes) :=
  ⟨f, fd, ["_law_before", "_law_later"], fnE F sc_law_strokes rfl rfl fun cdv A outer sh H E hr => db_cons (ds_set sc_law_strokes.nd rfl (by first | exact Or.inl rfl | exact Or.inr rfl) (de_lst true (da_nil))) (db_cons (ds_for passF rfl (di_r1 (by rfl) T.b_range (da_cons (de_callB (dc_max rfl) (by rfl) T.b_max (by decide +kernel) (da_cons (de_callB dc_len (by rfl) T.b_len (by decide +kernel) (da_cons (dv 0) (da_nil)) (fun a b => pe_callB a (by rfl) T.b_len (by decide +kernel) b)) (da_cons (de_callB dc_len (by rfl) T.b_len (by decide +kernel) (da_cons (dv 1) (da_nil)) (fun a b => pe_callB a (by rfl) T.b_len (by decide +kernel) b)) (da_nil))) (fun a b => pe_callB a (by rfl) T.b_max (by decide +kernel) b)) (da_nil))) (dg_name sc_law_strokes.nd rfl (by first | exact Or.inl rfl | exact Or.inr rfl)) (db_cons (ds_set sc_law_strokes.nd rfl (by first | exact Or.inl rfl | exact Or.inr rfl) (de_op (dop_add false) (de_ix rfl (de_op (dop_add false) (dv 0) (de_op (dop_mul false) (de_lst false (da_cons (de_str (by decide +kernel) (by decide +kernel)) (da_nil))) (de_int))) (dv 3) (fun _ _ => rfl)) (de_op (dop_mul false) (de_str (by decide +kernel) (by decide +kernel)) (de_int)))) (db_cons (ds_set sc_law_strokes.nd rfl (by first | exact Or.inl rfl | exact Or.inr rfl) (de_op (dop_add false) (de_ix rfl (de_op (dop_add false) (dv 1) (de_op (dop_mul false) (de_lst false (da_cons (de_str (by decide +kernel) (by decide +kernel)) (da_nil))) (de_int))) (dv 3) (fun _ _ => rfl)) (de_op (dop_mul false) (de_str (by decide +kernel) (by decide +kernel)) (de_int)))) (db_cons (ds_asg (de_tup (da_cons (de_non) (da_cons (de_int) (da_nil)))) (dg_tup rfl (dgs_cons (dg_name sc_law_strokes.nd rfl (by first | exact Or.inl rfl | exact Or.inr rfl)) (dgs_cons (dg_name sc_law_strokes.nd rfl (by first | exact Or.inl rfl | exact Or.inr rfl)) (dgs_nil))))) (db_one (ds_for passF rfl (di_r1 (by rfl) T.b_range (da_cons (de_int) (da_nil))) (dg_name sc_law_strokes.nd rfl (by first | exact Or.inl rfl | exact Or.inr rfl)) (db_cons (ds_if (dt_w (dw_and (dt_cmp dop_isnot (dv 6) (de_non) (nomark _)) (dw_and1 (dt_cmp dop_gt (de_op dop_sub (dv 8) (dv 7)) (de_int) (nomark _))))) (db_cons (ds_expr (de_mt PySem.F.plainAttrs_list PySem.F.slot_list_append PySem.F.type_list_append (dm_append) (dv 2) (da_cons (de_tup (da_cons (dv 3) (da_cons (dv 6) (da_cons (de_sl false rfl (dv 5) (dp_some (dv 6)) (dp_some (de_op (dop_add false) (dv 7) (de_int)))) (da_nil))))) (da_nil)) (fun a b c => pe_bm PySem.F.plainAttrs_list PySem.F.slot_list_append PySem.F.type_list_append a b c))) (db_one (ds_set sc_law_strokes.nd rfl (by first | exact Or.inl rfl | exact Or.inr rfl) (de_non)))) (db_nil)) (db_one (ds_if (dt_cmp (dop_ne rfl hr.units) (de_ix rfl (dv 4) (dv 8) (fun _ _ => rfl)) (de_ix rfl (dv 5) (dv 8) (fun _ _ => rfl)) (nomark _)) (db_one (ds_par rfl sc_law_strokes.nd rfl rfl (by decide) rfl rfl (da_cons (de_ix rfl (de_lst false (da_cons (dv 6) (da_cons (dv 8) (da_nil)))) (de_callTy dc_int (by rfl) T.b_int (by decide +kernel) (da_cons (de_cmp dop_is (dv 6) (de_non) (nomark _)) (da_nil)) (fun a b => pe_callTy a (by rfl) T.b_int (by decide +kernel) b)) (fun _ _ => rfl)) (da_cons (dv 8) (da_nil))) (by rfl))) (db_nil)))))))))) (db_one (ds_ret (dv 2)))), m, F.kp, F.binds (ps := ["_law_before", "_law_later"]) fun _ _ _ _ _ _ us hl => match us, hl with | [_, _], _ => rfl⟩
theorem sc_law_odd_lines : FnScope ["_law_box", "_law_lines", "_law_at", "_law_odd"] ["_law_box", "_law_lines"] (defScope s_law_odd_lines) := ⟨rfl, rfl, rfl, by decide +kernel, rfl, by decide +kernel, by decide +kernel⟩
theorem ok_law_odd_lines {m_law_take : FV} {f : Addr} {fd : FuncData} (F : Fun W.K "_law_odd_lines" "_law_odd_lines" s_law_odd_lines f fd) (m : mg "_law_odd_lines" = some (.ref f)) (T : Txt W mg) (c_law_take : Fn P w W mg base "_law_take" 1 2 m_law_take) : Fn P w W mg base "_law_odd_lines" (2) 2 (funD 4 (d_law_odd_lines m_law_take)) :=
  ⟨f, fd, ["_law_box", "_law_lines"], fnE F sc_law_odd_lines rfl rfl fun cdv A outer sh H E hr => db_cons (ds_set sc_law_odd_lines.nd rfl (by first | exact Or.inl rfl | exact Or.inr rfl) (dcall c_law_take hr passD (da_cons (dv 0) (da_cons (de_op (dop_add false) (de_callB dc_len (by rfl) T.b_len (by decide +kernel) (da_cons (dv 1) (da_nil)) (fun a b => pe_callB a (by rfl) T.b_len (by decide +kernel) b)) (de_int)) (da_nil))))) (db_cons (ds_set sc_law_odd_lines.nd rfl (by first | exact Or.inl rfl | exact Or.inr rfl) (de_ix rfl (de_lst false (da_cons (de_non) (da_cons (de_str (by decide +kernel) (by decide +kernel)) (da_cons (de_str (by decide +kernel) (by decide +kernel)) (da_cons (de_tup (da_cons (de_str (by decide +kernel) (by decide +kernel)) (da_nil))) (da_cons (de_op (dop_mul false) (de_str (by decide +kernel) (by decide +kernel)) (de_int)) (da_cons (de_int) (da_nil)))))))) (dcall c_law_take hr passD (da_cons (dv 0) (da_cons (de_int) (da_nil)))) (fun _ _ => rfl))) (db_cons (ds_if (dt_cmp (dop_eq rfl hr.units) (dcall c_law_take hr passD (da_cons (dv 0) (da_cons (de_int) (da_nil)))) (de_int) (nomark _)) (db_one (ds_ret (de_tup (da_cons (de_op (dop_add false) (de_sl false rfl (de_op (dop_add false) (dv 1) (de_op (dop_mul false) (de_lst false (da_cons (de_str (by decide +kernel) (by decide +kernel)) (da_nil))) (de_int))) (dp_none) (dp_some (de_op (dop_add false) (de_int) (dcall c_law_take hr passD (da_cons (dv 0) (da_cons (de_int) (da_nil))))))) (de_lst false (da_cons (de_str (by decide +kernel) (by decide +kernel)) (da_cons (de_str (by decide +kernel) (by decide +kernel)) (da_nil))))) (da_cons (de_int) (da_nil)))))) (db_nil)) (db_one (ds_ret (de_tup (da_cons (de_op (dop_add false) (de_op (dop_add false) (de_op (dop_add false) (de_sl false rfl (dv 1) (dp_none) (dp_some (dv 2))) (de_lst false (da_cons (dv 3) (da_nil)))) (de_sl false rfl (dv 1) (dp_some (dv 2)) (dp_none))) (de_op (dop_mul false) (de_lst false (da_cons (de_non) (da_nil))) (dcall c_law_take hr passD (da_cons (dv 0) (da_cons (de_int) (da_nil)))))) (da_cons (de_callB (dc_min rfl) (by rfl) T.b_min (by decide +kernel) (da_cons (dv 2) (da_cons (de_int) (da_nil))) (fun a b => pe_callB a (by rfl) T.b_min (by decide +kernel) b)) (da_nil)))))))), m, F.kp, F.binds (ps := ["_law_box", "_law_lines"]) fun _ _ _ _ _ _ us hl => match us, hl with | [_, _], _ => rfl⟩
theorem sc_law : FnScope ["_law_script", "_law_box", "_law_turn", "_law_one", "_law_other", "_law_due", "_law_handed", "_law_again", "_law_found", "_law_bad", "_law_at", "_law_worse", "_law_works"] ["_law_script"] (defScope s_law) := ⟨rfl, rfl, rfl, by decide +kernel, rfl, by decide +kernel, by decide +kernel⟩
theorem ok_law {m_law_begun m_law_alike m_strokes m_law_lines_two m_law_strokes m_law_odd_lines : FV} {cL PL : Addr} {f : Addr} {fd : FuncData} (F : Fun W.K "law" "law" s_law f fd) (T : Txt W mg) (c_law_begun : Fn P w W mg base "_law_begun" 1 1 m_law_begun) (c_law_all : FnT P w W mg base "_law_all" 9 ["_law_works", "_law_due"] (spAll P w W mg base 4 m_law_alike [8] hmT)) (c_law_alike : Fn P w W mg base "_law_alike" 8 2 m_law_alike) (c_strokes : Fn P w W mg base "strokes" 4 2 m_strokes) (c_law_lines_two : Fn P w W mg base "_law_lines_two" 4 1 m_law_lines_two) (c_law_strokes : Fn P w W mg base "_law_strokes" 1 2 m_law_strokes) (c_law_odd_lines : Fn P w W mg base "_law_odd_lines" 2 2 m_law_odd_lines) (TB : LamX.TabB base mg cL PL) (hW : W.tabs = [(PL, ("law.<locals>.<lambda>" : Str))]) (hcd : fd.code = .ref cL) : FnOk P w W.K mg base (L2.CX P w) 10 f fd ["_law_script"] (spD W 1 (funD 13 (d_law_k20 m_law_begun m_law_alike m_strokes m_law_lines_two m_law_strokes m_law_odd_lines))) :=
  fnEC F hcd sc_law rfl rfl fun A outer sh H E hr => db_cons (ds_set sc_law.nd rfl (by first | exact Or.inl rfl | exact Or.inr rfl) (dcall c_law_begun hr passD (da_cons (dv 0) (da_nil)))) (db_cons (ds_for passF rfl (di_r1 (by rfl) T.b_range (da_cons (de_int) (da_nil))) (dg_name sc_law.nd rfl (by first | exact Or.inl rfl | exact Or.inr rfl)) (db_cons (ds_asg (dcall c_law_lines_two hr passD (da_cons (dv 1) (da_nil))) (dg_tup rfl (dgs_cons (dg_name sc_law.nd rfl (by first | exact Or.inl rfl | exact Or.inr rfl)) (dgs_cons (dg_name sc_law.nd rfl (by first | exact Or.inl rfl | exact Or.inr rfl)) (dgs_nil))))) (db_cons (ds_set sc_law.nd rfl (by first | exact Or.inl rfl | exact Or.inr rfl) (dcall c_law_strokes hr passD (da_cons (dv 3) (da_cons (dv 4) (da_nil))))) (db_cons (ds_set sc_law.nd rfl (by first | exact Or.inl rfl | exact Or.inr rfl) (de_tup (da_cons (de_callTy (dc_list false) (by rfl) T.b_list (by decide +kernel) (da_cons (dv 3) (da_nil)) (fun a b => pe_callTy a (by rfl) T.b_list (by decide +kernel) b)) (da_cons (de_callTy (dc_list false) (by rfl) T.b_list (by decide +kernel) (da_cons (dv 4) (da_nil)) (fun a b => pe_callTy a (by rfl) T.b_list (by decide +kernel) b)) (da_nil))))) (db_cons (ds_for passF rfl (di_r1 (by rfl) T.b_range (da_cons (de_int) (da_nil))) (dg_name sc_law.nd rfl (by first | exact Or.inl rfl | exact Or.inr rfl)) (db_cons (ds_set sc_law.nd rfl (by first | exact Or.inl rfl | exact Or.inr rfl) (dcall c_strokes hr passD (da_cons (de_ix rfl (dv 6) (de_int) (fun _ _ => rfl)) (da_cons (de_ix rfl (dv 6) (de_int) (fun _ _ => rfl)) (da_nil))))) (db_cons (ds_if (dt_w (dw_or (dt_not (dt_val (dcall c_law_alike hr passD (da_cons (dv 8) (da_cons (dv 5) (da_nil)))))) (dw_or1 (dt_cmp (dop_ne rfl hr.units) (dv 6) (de_tup (da_cons (dv 3) (da_cons (dv 4) (da_nil)))) (nomark _))))) (db_one (ds_ret (de_bl))) (db_nil)) (db_one (ds_expr (de_mt PySem.F.plainAttrs_list PySem.F.slot_list_append PySem.F.type_list_append (dm_append) (dv 8) (da_cons (de_tup (da_nil)) (da_nil)) (fun a b c => pe_bm PySem.F.plainAttrs_list PySem.F.slot_list_append PySem.F.type_list_append a b c))))))) (db_cons (ds_asg (dcall c_law_odd_lines hr passD (da_cons (dv 1) (da_cons (dv 3) (da_nil)))) (dg_tup rfl (dgs_cons (dg_name sc_law.nd rfl (by first | exact Or.inl rfl | exact Or.inr rfl)) (dgs_cons (dg_name sc_law.nd rfl (by first | exact Or.inl rfl | exact Or.inr rfl)) (dgs_nil))))) (db_cons (ds_set sc_law.nd rfl (by first | exact Or.inl rfl | exact Or.inr rfl) (de_ix rfl (dcall c_law_odd_lines hr passD (da_cons (dv 1) (da_cons (dv 4) (da_nil)))) (de_int) (fun _ _ => rfl))) (dlamsV c_law_all hr (lams_cons (lamIn_by (N := ["_law_bad", "_law_other"]) (XN := ["_law_script", "_law_box", "_law_turn", "_law_one", "_law_other", "_law_due", "_law_handed", "_law_again", "_law_found", "_law_bad", "_law_at", "_law_worse", "_law_works"]) (xsc := defScope s_law) rfl rfl (fun A stack s H E f c2 cl hr => dcall c_strokes hr passX (da_cons (dv 0) (da_cons (dv 1) (da_nil)))) (free0_no rfl fun _ _ _ _ _ => rfl) (by decide +kernel) (maker_of TB hW) rfl (.inl ⟨rfl, rfl⟩)) (lams_cons (lamIn_by (N := ["_law_bad", "_law_worse"]) (XN := ["_law_script", "_law_box", "_law_turn", "_law_one", "_law_other", "_law_due", "_law_handed", "_law_again", "_law_found", "_law_bad", "_law_at", "_law_worse", "_law_works"]) (xsc := defScope s_law) rfl rfl (fun A stack s H E f c2 cl hr => dcall c_strokes hr passX (da_cons (dv 0) (da_cons (dv 1) (da_nil)))) (free0_one (x := "_law_a") rfl rfl fun _ _ _ _ _ _ => ⟨_, rfl, fun _ => rfl⟩) (by decide +kernel) (maker_of TB hW) rfl (.inr ⟨_, _, _, rfl, rfl⟩)) (lams_cons (lamIn_by (N := ["_law_bad"]) (XN := ["_law_script", "_law_box", "_law_turn", "_law_one", "_law_other", "_law_due", "_law_handed", "_law_again", "_law_found", "_law_bad", "_law_at", "_law_worse", "_law_works"]) (xsc := defScope s_law) rfl rfl (fun A stack s H E f c2 cl hr => dcall c_strokes hr passX (da_cons (de_lst false (da_nil)) (da_cons (dv 0) (da_nil)))) (free0_one (x := "_law_b") rfl rfl fun _ _ _ _ _ _ => ⟨_, rfl, fun _ => rfl⟩) (by decide +kernel) (maker_of TB hW) rfl (.inr ⟨_, _, _, rfl, rfl⟩)) lams_nil))) (de_tup (da_cons (de_str (by decide +kernel) (by decide +kernel)) (da_cons (dv 10) (da_nil)))) (db_one (ds_ret (de_bl))) (db_nil) (db_nil) sc_law.nd rfl (by first | exact Or.inl rfl | exact Or.inr rfl))))))))) (db_one (ds_ret (de_cmp (dop_eq rfl hr.units) (dcall c_strokes hr passD (da_cons (de_lst false (da_nil)) (da_cons (de_lst false (da_nil)) (da_nil)))) (de_lst false (da_nil)) (nomark _)))))
theorem sc_BadLines_init : FnScope ["self", "line"] ["self", "line"] (defScope s_BadLines_init) := ⟨rfl, rfl, rfl, by decide +kernel, rfl, by decide +kernel, by decide +kernel⟩
theorem ini_BadLines {fI GC : Addr} {fd : FuncData} (F : Fun W.K "__init__" "BadLines.__init__" s_BadLines_init fI fd) (b : BaseEx W.K mg "GrowError" GC) (px : PayEx W.K mg "BadLines" (W.cls 8) fI "line") (pay : W.pay 8 = some "line") : IniX P w W mg base "BadLines" 8 "line" :=
  ⟨fI, fd, px, init_fn F sc_BadLines_init b px rfl rfl (.inl rfl) (.inl rfl), F.binds (ps := ["self", "line"]) fun _ _ _ _ _ _ us hl => match us, hl with | [_, _], _ => rfl, pay⟩
end
theorem all_mk {l : PySem.W.OpenLaw} {w : World} {K : PySem.W.Frag} {h : Heap} {mg : Str → Option Value} {fa C1 C2 C3 C4 C5 C6 C7 C8 C9 C10 C11 C12 f1 f2 f3 f4 f5 f6 f7 f8 f9 f10 f11 f12 f13 f14 f15 f16 f17 : Addr} (HT : ∀ ns : List Int, ns.length ≤ 63 → ∃ st, m_law_k20 [.scr ns] [] = .ok (.bl true, st)) (X : K.In h) (G : h.Ns mainGlobals mg) (hfa : mg "law" = some (.ref fa)) (OT : LamX.OwnTab K fa h)
    {nm_BadLines q_BadLines : Str} {N_BadLines fi_BadLines : Addr} {bs_BadLines bm_BadLines sub_BadLines : List Value} {sn_BadLines : List Str} {ab_BadLines : Bool} {col_BadLines : Option Bool} {dd_BadLines od_BadLines an_BadLines : Option Addr} {k0_BadLines k1_BadLines k2_BadLines k3_BadLines k5_BadLines : Option Value} {sl_BadLines : Array (Option Value)} {oc_BadLines kV_BadLines dc_BadLines pm_BadLines cd_BadLines ct_BadLines : Value}
    {cL PL : Addr} {e_L : Value} {dd_L : Option Addr} {vs_L : Array Value} {sl_L : Array (Option Value)}
    {od1 od2 od3 od4 od5 od6 od7 od8 od9 od10 od11 od12 od13 od14 od15 od16 od17 an1 an2 an3 an4 an5 an6 an7 an8 an9 an10 an11 an12 an13 an14 an15 an16 an17 : Option Addr} {sl1 sl2 sl3 sl4 sl5 sl6 sl7 sl8 sl9 sl10 sl11 sl12 sl13 sl14 sl15 sl16 sl17 : Array (Option Value)} {oc1 oc2 oc3 oc4 oc5 oc6 oc7 oc8 oc9 oc10 oc11 oc12 oc13 oc14 oc15 oc16 oc17 kV1 kV2 kV3 kV4 kV5 kV6 kV7 kV8 kV9 kV10 kV11 kV12 kV13 kV14 kV15 kV16 kV17 dc1 dc2 dc3 dc4 dc5 dc6 dc7 dc8 dc9 dc10 dc11 dc12 dc13 dc14 dc15 dc16 dc17 pm1 pm2 pm3 pm4 pm5 pm6 pm7 pm8 pm9 pm10 pm11 pm12 pm13 pm14 pm15 pm16 pm17 cd1 cd2 cd3 cd4 cd5 cd6 cd7 cd8 cd9 cd10 cd11 cd12 cd13 cd14 cd15 cd16 ct1 ct2 ct3 ct4 ct5 ct6 ct7 ct8 ct9 ct10 ct11 ct12 ct13 ct14 ct15 ct16 ct17 : Value} {t_FIRST_SIGN t_LAST_SIGN t_BARRED t_MOST_WIDE t_MOST_ROWS t_NEAR : Tok}
    (zb_len : PySem.W.nsIn K mainGlobals "len" = some none)
    (zb_int : PySem.W.nsIn K mainGlobals "int" = some none)
    (zb_list : PySem.W.nsIn K mainGlobals "list" = some none)
    (zb_bool : PySem.W.nsIn K mainGlobals "bool" = some none)
    (zb_isinstance : PySem.W.nsIn K mainGlobals "isinstance" = some none)
    (zb_str : PySem.W.nsIn K mainGlobals "str" = some none)
    (zb_tuple : PySem.W.nsIn K mainGlobals "tuple" = some none)
    (zb_range : PySem.W.nsIn K mainGlobals "range" = some none)
    (zb_ValueError : PySem.W.nsIn K mainGlobals "ValueError" = some none)
    (zb_ord : PySem.W.nsIn K mainGlobals "ord" = some none)
    (zb_enumerate : PySem.W.nsIn K mainGlobals "enumerate" = some none)
    (zb_max : PySem.W.nsIn K mainGlobals "max" = some none)
    (zb_min : PySem.W.nsIn K mainGlobals "min" = some none)
    (zk_FIRST_SIGN : PySem.W.nsIn K mainGlobals "FIRST_SIGN" = some (some (.str " " t_FIRST_SIGN)))
    (zk_LAST_SIGN : PySem.W.nsIn K mainGlobals "LAST_SIGN" = some (some (.str "~" t_LAST_SIGN)))
    (zk_BARRED : PySem.W.nsIn K mainGlobals "BARRED" = some (some (.int (37) t_BARRED)))
    (zk_MOST_WIDE : PySem.W.nsIn K mainGlobals "MOST_WIDE" = some (some (.int (200) t_MOST_WIDE)))
    (zk_MOST_ROWS : PySem.W.nsIn K mainGlobals "MOST_ROWS" = some (some (.int (30) t_MOST_ROWS)))
    (zk_NEAR : PySem.W.nsIn K mainGlobals "NEAR" = some (some (.int (3) t_NEAR)))
    (aC_GrowError : PySem.W.nsIn K mainGlobals "GrowError" = some (some (.ref C1)))
    (aC_BadLines : PySem.W.nsIn K mainGlobals "BadLines" = some (some (.ref C2)))
    (aC_BadPage : PySem.W.nsIn K mainGlobals "BadPage" = some (some (.ref C3)))
    (aC_BadStyle : PySem.W.nsIn K mainGlobals "BadStyle" = some (some (.ref C4)))
    (aC_BadRow : PySem.W.nsIn K mainGlobals "BadRow" = some (some (.ref C5)))
    (aC_BadCell : PySem.W.nsIn K mainGlobals "BadCell" = some (some (.ref C6)))
    (aC_BadCount : PySem.W.nsIn K mainGlobals "BadCount" = some (some (.ref C7)))
    (aC_BadStep : PySem.W.nsIn K mainGlobals "BadStep" = some (some (.ref C8)))
    (aC_BadStroke : PySem.W.nsIn K mainGlobals "BadStroke" = some (some (.ref C9)))
    (aC_BadText : PySem.W.nsIn K mainGlobals "BadText" = some (some (.ref C10)))
    (aC_BadHand : PySem.W.nsIn K mainGlobals "BadHand" = some (some (.ref C11)))
    (aC_TooMuch : PySem.W.nsIn K mainGlobals "TooMuch" = some (some (.ref C12)))
    (zb_GrowError : PySem.W.subIn K (.ref C1) (.type "BaseException") = some true)
    (zh_GrowError : PySem.W.hasDictIn K C1 = true)
    (zt_GrowError : PySem.W.typeIn K (.ref C1) = some (.type "type"))
    (zc_BadLines_GrowError : PySem.W.subIn K (.ref C2) (.ref C1) = some true)
    (xo_BadLines : K.lookup C2 = some (excClassObj nm_BadLines q_BadLines C2 N_BadLines bs_BadLines bm_BadLines true sn_BadLines sub_BadLines ab_BadLines col_BadLines dd_BadLines k0_BadLines k1_BadLines k2_BadLines k3_BadLines k5_BadLines "ValueError.__new__"))
    (xv_BadLines : PySem.HandSPX.refsVE bm_BadLines = true)
    (sx_BadLines : PySem.W.findIn K (.ref C2) "__setattr__" = some (some (.builtin "object.__setattr__")))
    (xs_BadLines : PySem.W.subIn K (.ref C2) (.type "BaseException") = some true)
    (xt_BadLines : PySem.W.typeIn K (.ref C2) = some (.type "type"))
    (xk_BadLines : PySem.W.keepIn K (.ref C2) = true)
    (xi_BadLines : PySem.W.findIn K (.ref C2) "__init__" = some (some (.ref fi_BadLines)))
    (xf_BadLines : PySem.W.typeIn K (.ref fi_BadLines) = some (.type "function"))
    (xn_BadLines : PySem.W.findIn K (.ref C2) "line" = some none)
    (li_BadLines : K.lookup fi_BadLines = some ⟨oc_BadLines, od_BadLines, .func (PySem.W.fnOf "__init__" "BadLines.__init__" (defArgs s_BadLines_init) (defBody s_BadLines_init) (defScope s_BadLines_init) .none kV_BadLines dc_BadLines pm_BadLines an_BadLines cd_BadLines ct_BadLines), sl_BadLines⟩)
    (ci_BadLines : PySem.W.codeIn K cd_BadLines "BadLines.__init__" = true)
    (ki_BadLines : PySem.W.keepIn K (.ref fi_BadLines) = true)
    (gsp : PySem.W.specialIn K (.ref C1) "__getattribute__" = some (some (.builtin "type.__getattribute__")))
    (grd : PySem.W.readsIn K C1 (.type "type") = true)
    (gfc : PySem.W.findCls K (.ref C1) (.type "type") "__init__" = some (.val (.builtin "ValueError.__init__")))
    (eg_BadLines : PySem.W.findIn K (.ref C2) "__getattribute__" = some (some (.builtin "BaseException.__getattribute__")))
    (ek_BadLines : PySem.W.findIn K (.ref C2) "__getattr__" = some none)
    (es_BadLines : PySem.W.subIn K (.ref C2) (.type "BaseException") = some true)
    (ed_BadLines : PySem.W.hasDictIn K C2 = true)
    (ea_BadLines : PySem.W.findIn K (.ref C2) "__class__" = some (some (.builtin "object.__class__")))
    (em_BadLines : PySem.W.mroIn K C2 (.type "object") = some true)
    (ev_BadLines : PySem.W.subIn K (.ref C2) (.type "ValueError") = some true)
    (en_BadLines_row : PySem.W.findIn K (.ref C2) "row" = some none)
    (en_BadLines_line : PySem.W.findIn K (.ref C2) "line" = some none)
    (en_BadLines_number : PySem.W.findIn K (.ref C2) "number" = some none)
    (ey_BadLines_BadPage : PySem.W.subIn K (.ref C2) (.ref C3) = some false)
    (ey_BadLines_BadStyle : PySem.W.subIn K (.ref C2) (.ref C4) = some false)
    (ey_BadLines_BadRow : PySem.W.subIn K (.ref C2) (.ref C5) = some false)
    (ey_BadLines_BadCell : PySem.W.subIn K (.ref C2) (.ref C6) = some false)
    (ey_BadLines_BadCount : PySem.W.subIn K (.ref C2) (.ref C7) = some false)
    (ey_BadLines_BadStep : PySem.W.subIn K (.ref C2) (.ref C8) = some false)
    (ey_BadLines_BadStroke : PySem.W.subIn K (.ref C2) (.ref C9) = some false)
    (ey_BadLines_BadText : PySem.W.subIn K (.ref C2) (.ref C10) = some false)
    (ey_BadLines_BadHand : PySem.W.subIn K (.ref C2) (.ref C11) = some false)
    (ey_BadLines_TooMuch : PySem.W.subIn K (.ref C2) (.ref C12) = some false)
    (exn : PySem.W.specialIn K (.builtin "object.__class__") "__get__" = some (some (.builtin "getset_descriptor.__get__")))
    (ext : PySem.W.takesIn K (.builtin "object.__class__") = some true)
    (y1_BadPage : PySem.W.isClsIn K C3 = true)
    (y2_BadPage : PySem.W.typeIn K (.ref C3) = some (.type "type"))
    (y4_BadPage : PySem.W.subIn K (.ref C3) (.ref C3) = some true)
    (y1_BadStyle : PySem.W.isClsIn K C4 = true)
    (y2_BadStyle : PySem.W.typeIn K (.ref C4) = some (.type "type"))
    (y4_BadStyle : PySem.W.subIn K (.ref C4) (.ref C4) = some true)
    (y1_BadRow : PySem.W.isClsIn K C5 = true)
    (y2_BadRow : PySem.W.typeIn K (.ref C5) = some (.type "type"))
    (y4_BadRow : PySem.W.subIn K (.ref C5) (.ref C5) = some true)
    (y1_BadCell : PySem.W.isClsIn K C6 = true)
    (y2_BadCell : PySem.W.typeIn K (.ref C6) = some (.type "type"))
    (y4_BadCell : PySem.W.subIn K (.ref C6) (.ref C6) = some true)
    (y1_BadCount : PySem.W.isClsIn K C7 = true)
    (y2_BadCount : PySem.W.typeIn K (.ref C7) = some (.type "type"))
    (y4_BadCount : PySem.W.subIn K (.ref C7) (.ref C7) = some true)
    (y1_BadLines : PySem.W.isClsIn K C2 = true)
    (y2_BadLines : PySem.W.typeIn K (.ref C2) = some (.type "type"))
    (y4_BadLines : PySem.W.subIn K (.ref C2) (.ref C2) = some true)
    (y1_BadStep : PySem.W.isClsIn K C8 = true)
    (y2_BadStep : PySem.W.typeIn K (.ref C8) = some (.type "type"))
    (y4_BadStep : PySem.W.subIn K (.ref C8) (.ref C8) = some true)
    (y1_BadStroke : PySem.W.isClsIn K C9 = true)
    (y2_BadStroke : PySem.W.typeIn K (.ref C9) = some (.type "type"))
    (y4_BadStroke : PySem.W.subIn K (.ref C9) (.ref C9) = some true)
    (y1_BadText : PySem.W.isClsIn K C10 = true)
    (y2_BadText : PySem.W.typeIn K (.ref C10) = some (.type "type"))
    (y4_BadText : PySem.W.subIn K (.ref C10) (.ref C10) = some true)
    (y1_BadHand : PySem.W.isClsIn K C11 = true)
    (y2_BadHand : PySem.W.typeIn K (.ref C11) = some (.type "type"))
    (y4_BadHand : PySem.W.subIn K (.ref C11) (.ref C11) = some true)
    (y1_TooMuch : PySem.W.isClsIn K C12 = true)
    (y2_TooMuch : PySem.W.typeIn K (.ref C12) = some (.type "type"))
    (y4_TooMuch : PySem.W.subIn K (.ref C12) (.ref C12) = some true)
    (a1 : PySem.W.nsIn K mainGlobals "_law_begun" = some (some (.ref f1)))
    (l1 : K.lookup f1 = some ⟨oc1, od1, .func (PySem.W.fnOf "_law_begun" "_law_begun" (defArgs s_law_begun) (defBody s_law_begun) (defScope s_law_begun) .none kV1 dc1 pm1 an1 cd1 ct1), sl1⟩)
    (c1 : PySem.W.codeIn K cd1 "_law_begun" = true)
    (k1 : PySem.W.keepIn K (.ref f1) = true)
    (a2 : PySem.W.nsIn K mainGlobals "_law_alike" = some (some (.ref f2)))
    (l2 : K.lookup f2 = some ⟨oc2, od2, .func (PySem.W.fnOf "_law_alike" "_law_alike" (defArgs s_law_alike) (defBody s_law_alike) (defScope s_law_alike) .none kV2 dc2 pm2 an2 cd2 ct2), sl2⟩)
    (c2 : PySem.W.codeIn K cd2 "_law_alike" = true)
    (k2 : PySem.W.keepIn K (.ref f2) = true)
    (a3 : PySem.W.nsIn K mainGlobals "_law_told" = some (some (.ref f3)))
    (l3 : K.lookup f3 = some ⟨oc3, od3, .func (PySem.W.fnOf "_law_told" "_law_told" (defArgs s_law_told) (defBody s_law_told) (defScope s_law_told) .none kV3 dc3 pm3 an3 cd3 ct3), sl3⟩)
    (c3 : PySem.W.codeIn K cd3 "_law_told" = true)
    (k3 : PySem.W.keepIn K (.ref f3) = true)
    (a4 : PySem.W.nsIn K mainGlobals "_law_all" = some (some (.ref f4)))
    (l4 : K.lookup f4 = some ⟨oc4, od4, .func (PySem.W.fnOf "_law_all" "_law_all" (defArgs s_law_all) (defBody s_law_all) (defScope s_law_all) .none kV4 dc4 pm4 an4 cd4 ct4), sl4⟩)
    (c4 : PySem.W.codeIn K cd4 "_law_all" = true)
    (k4 : PySem.W.keepIn K (.ref f4) = true)
    (a5 : PySem.W.nsIn K mainGlobals "is_sign" = some (some (.ref f5)))
    (l5 : K.lookup f5 = some ⟨oc5, od5, .func (PySem.W.fnOf "is_sign" "is_sign" (defArgs s_is_sign) (defBody s_is_sign) (defScope s_is_sign) .none kV5 dc5 pm5 an5 cd5 ct5), sl5⟩)
    (c5 : PySem.W.codeIn K cd5 "is_sign" = true)
    (k5 : PySem.W.keepIn K (.ref f5) = true)
    (a6 : PySem.W.nsIn K mainGlobals "is_line" = some (some (.ref f6)))
    (l6 : K.lookup f6 = some ⟨oc6, od6, .func (PySem.W.fnOf "is_line" "is_line" (defArgs s_is_line) (defBody s_is_line) (defScope s_is_line) .none kV6 dc6 pm6 an6 cd6 ct6), sl6⟩)
    (c6 : PySem.W.codeIn K cd6 "is_line" = true)
    (k6 : PySem.W.keepIn K (.ref f6) = true)
    (a7 : PySem.W.nsIn K mainGlobals "need_lines" = some (some (.ref f7)))
    (l7 : K.lookup f7 = some ⟨oc7, od7, .func (PySem.W.fnOf "need_lines" "need_lines" (defArgs s_need_lines) (defBody s_need_lines) (defScope s_need_lines) .none kV7 dc7 pm7 an7 cd7 ct7), sl7⟩)
    (c7 : PySem.W.codeIn K cd7 "need_lines" = true)
    (k7 : PySem.W.keepIn K (.ref f7) = true)
    (a8 : PySem.W.nsIn K mainGlobals "strokes_of" = some (some (.ref f8)))
    (l8 : K.lookup f8 = some ⟨oc8, od8, .func (PySem.W.fnOf "strokes_of" "strokes_of" (defArgs s_strokes_of) (defBody s_strokes_of) (defScope s_strokes_of) .none kV8 dc8 pm8 an8 cd8 ct8), sl8⟩)
    (c8 : PySem.W.codeIn K cd8 "strokes_of" = true)
    (k8 : PySem.W.keepIn K (.ref f8) = true)
    (a9 : PySem.W.nsIn K mainGlobals "strokes" = some (some (.ref f9)))
    (l9 : K.lookup f9 = some ⟨oc9, od9, .func (PySem.W.fnOf "strokes" "strokes" (defArgs s_strokes) (defBody s_strokes) (defScope s_strokes) .none kV9 dc9 pm9 an9 cd9 ct9), sl9⟩)
    (c9 : PySem.W.codeIn K cd9 "strokes" = true)
    (k9 : PySem.W.keepIn K (.ref f9) = true)
    (a10 : PySem.W.nsIn K mainGlobals "_law_take" = some (some (.ref f10)))
    (l10 : K.lookup f10 = some ⟨oc10, od10, .func (PySem.W.fnOf "_law_take" "_law_take" (defArgs s_law_take) (defBody s_law_take) (defScope s_law_take) .none kV10 dc10 pm10 an10 cd10 ct10), sl10⟩)
    (c10 : PySem.W.codeIn K cd10 "_law_take" = true)
    (k10 : PySem.W.keepIn K (.ref f10) = true)
    (a11 : PySem.W.nsIn K mainGlobals "_law_sign" = some (some (.ref f11)))
    (l11 : K.lookup f11 = some ⟨oc11, od11, .func (PySem.W.fnOf "_law_sign" "_law_sign" (defArgs s_law_sign) (defBody s_law_sign) (defScope s_law_sign) .none kV11 dc11 pm11 an11 cd11 ct11), sl11⟩)
    (c11 : PySem.W.codeIn K cd11 "_law_sign" = true)
    (k11 : PySem.W.keepIn K (.ref f11) = true)
    (a12 : PySem.W.nsIn K mainGlobals "_law_line" = some (some (.ref f12)))
    (l12 : K.lookup f12 = some ⟨oc12, od12, .func (PySem.W.fnOf "_law_line" "_law_line" (defArgs s_law_line) (defBody s_law_line) (defScope s_law_line) .none kV12 dc12 pm12 an12 cd12 ct12), sl12⟩)
    (c12 : PySem.W.codeIn K cd12 "_law_line" = true)
    (k12 : PySem.W.keepIn K (.ref f12) = true)
    (a13 : PySem.W.nsIn K mainGlobals "_law_line_near" = some (some (.ref f13)))
    (l13 : K.lookup f13 = some ⟨oc13, od13, .func (PySem.W.fnOf "_law_line_near" "_law_line_near" (defArgs s_law_line_near) (defBody s_law_line_near) (defScope s_law_line_near) .none kV13 dc13 pm13 an13 cd13 ct13), sl13⟩)
    (c13 : PySem.W.codeIn K cd13 "_law_line_near" = true)
    (k13 : PySem.W.keepIn K (.ref f13) = true)
    (a14 : PySem.W.nsIn K mainGlobals "_law_lines_two" = some (some (.ref f14)))
    (l14 : K.lookup f14 = some ⟨oc14, od14, .func (PySem.W.fnOf "_law_lines_two" "_law_lines_two" (defArgs s_law_lines_two) (defBody s_law_lines_two) (defScope s_law_lines_two) .none kV14 dc14 pm14 an14 cd14 ct14), sl14⟩)
    (c14 : PySem.W.codeIn K cd14 "_law_lines_two" = true)
    (k14 : PySem.W.keepIn K (.ref f14) = true)
    (a15 : PySem.W.nsIn K mainGlobals "_law_strokes" = some (some (.ref f15)))
    (l15 : K.lookup f15 = some ⟨oc15, od15, .func (PySem.W.fnOf "_law_strokes" "_law_strokes" (defArgs s_law_strokes) (defBody s_law_strokes) (defScope s_law_strokes) .none kV15 dc15 pm15 an15 cd15 ct15), sl15⟩)
    (c15 : PySem.W.codeIn K cd15 "_law_strokes" = true)
    (k15 : PySem.W.keepIn K (.ref f15) = true)
    (a16 : PySem.W.nsIn K mainGlobals "_law_odd_lines" = some (some (.ref f16)))
    (l16 : K.lookup f16 = some ⟨oc16, od16, .func (PySem.W.fnOf "_law_odd_lines" "_law_odd_lines" (defArgs s_law_odd_lines) (defBody s_law_odd_lines) (defScope s_law_odd_lines) .none kV16 dc16 pm16 an16 cd16 ct16), sl16⟩)
    (c16 : PySem.W.codeIn K cd16 "_law_odd_lines" = true)
    (k16 : PySem.W.keepIn K (.ref f16) = true)
    (a17 : PySem.W.nsIn K mainGlobals "law" = some (some (.ref f17)))
    (l17 : K.lookup f17 = some ⟨oc17, od17, .func (PySem.W.fnOf "law" "law" (defArgs s_law) (defBody s_law) (defScope s_law) .none kV17 dc17 pm17 an17 (.ref cL) ct17), sl17⟩)
    (lcL : K.lookup cL = some ⟨e_L, dd_L, .fields vs_L, sl_L⟩)
    (v11 : vs_L[11]? = some (.ref PL))
    (lPL : K.lookup PL = none)
    (chL : PySem.W.codeHdIn K cL PL = true)
    (c17 : PySem.W.codeIn K (.ref cL) "law" = true)
    (k17 : PySem.W.keepIn K (.ref f17) = true)
    : ∃ (fd : FuncData) (c P : Addr), h.get? P = some { cls := .none, data := .fields #[] } ∧ K.lookup P = none ∧ PySem.W.CodeHd h c P ∧ (∀ (s : Shared) (u : Value), BindsTo s fd ⟨[u], []⟩ [("_law_script", u)]) ∧ ∀ base : Heap, K.In base → base.Ns mainGlobals mg → LamX.TabB base mg c P → FnOk l.prog w K mg base (L2.CX l.prog w) 10 fa fd ["_law_script"] (spLawT [P] 63) := by
  have e := hfa.symm.trans (PySem.W.mg_of X G a17)
  cases e
  let W : Wd := ⟨K, fun n => match n with | 0 => C1 | 8 => C2 | 1 => C3 | 2 => C4 | 3 => C5 | 4 => C6 | 5 => C7 | 9 => C8 | 10 => C9 | 11 => C10 | 6 => C11 | 7 => C12 | _ => 0, payOf, [(PL, ("law.<locals>.<lambda>" : Str))]⟩
  have T : Txt W mg := ⟨PySem.W.mg_none_of X G zb_len, PySem.W.mg_none_of X G zb_int, PySem.W.mg_none_of X G zb_list, PySem.W.mg_none_of X G zb_bool, PySem.W.mg_none_of X G zb_isinstance, PySem.W.mg_none_of X G zb_str, PySem.W.mg_none_of X G zb_tuple, PySem.W.mg_none_of X G zb_range, PySem.W.mg_none_of X G zb_ValueError, PySem.W.mg_none_of X G zb_ord, PySem.W.mg_none_of X G zb_enumerate, PySem.W.mg_none_of X G zb_max, PySem.W.mg_none_of X G zb_min, ⟨_, PySem.W.mg_of X G zk_FIRST_SIGN⟩, ⟨_, PySem.W.mg_of X G zk_LAST_SIGN⟩, ⟨_, PySem.W.mg_of X G zk_BARRED⟩, ⟨_, PySem.W.mg_of X G zk_MOST_WIDE⟩, ⟨_, PySem.W.mg_of X G zk_MOST_ROWS⟩, ⟨_, PySem.W.mg_of X G zk_NEAR⟩, PySem.W.mg_of X G aC_GrowError, (fun c hc => by rcases List.mem_cons.mp hc with rfl | hc; exact PySem.W.exm_ref zb_GrowError zh_GrowError zt_GrowError zc_BadLines_GrowError; cases hc), (fun c hc => by rcases List.mem_cons.mp hc with rfl | hc; exact ⟨eg_BadLines, ek_BadLines, es_BadLines, ed_BadLines, ea_BadLines, exn, ext, em_BadLines⟩; cases hc), PySem.W.mg_of X G aC_BadPage, (fun c hc => by rcases List.mem_cons.mp hc with rfl | hc; exact kit_own y1_BadPage y2_BadPage ey_BadLines_BadPage y4_BadPage; cases hc), PySem.W.mg_of X G aC_BadStyle, (fun c hc => by rcases List.mem_cons.mp hc with rfl | hc; exact kit_own y1_BadStyle y2_BadStyle ey_BadLines_BadStyle y4_BadStyle; cases hc), PySem.W.mg_of X G aC_BadRow, (fun c hc => by rcases List.mem_cons.mp hc with rfl | hc; exact kit_own y1_BadRow y2_BadRow ey_BadLines_BadRow y4_BadRow; cases hc), PySem.W.mg_of X G aC_BadCell, (fun c hc => by rcases List.mem_cons.mp hc with rfl | hc; exact kit_own y1_BadCell y2_BadCell ey_BadLines_BadCell y4_BadCell; cases hc), PySem.W.mg_of X G aC_BadCount, (fun c hc => by rcases List.mem_cons.mp hc with rfl | hc; exact kit_own y1_BadCount y2_BadCount ey_BadLines_BadCount y4_BadCount; cases hc), PySem.W.mg_of X G aC_BadLines, (fun c hc => by rcases List.mem_cons.mp hc with rfl | hc; exact kit_own y1_BadLines y2_BadLines y4_BadLines y4_BadLines; cases hc), PySem.W.mg_of X G aC_BadStep, (fun c hc => by rcases List.mem_cons.mp hc with rfl | hc; exact kit_own y1_BadStep y2_BadStep ey_BadLines_BadStep y4_BadStep; cases hc), PySem.W.mg_of X G aC_BadStroke, (fun c hc => by rcases List.mem_cons.mp hc with rfl | hc; exact kit_own y1_BadStroke y2_BadStroke ey_BadLines_BadStroke y4_BadStroke; cases hc), PySem.W.mg_of X G aC_BadText, (fun c hc => by rcases List.mem_cons.mp hc with rfl | hc; exact kit_own y1_BadText y2_BadText ey_BadLines_BadText y4_BadText; cases hc), PySem.W.mg_of X G aC_BadHand, (fun c hc => by rcases List.mem_cons.mp hc with rfl | hc; exact kit_own y1_BadHand y2_BadHand ey_BadLines_BadHand y4_BadHand; cases hc), PySem.W.mg_of X G aC_TooMuch, (fun c hc => by rcases List.mem_cons.mp hc with rfl | hc; exact kit_own y1_TooMuch y2_TooMuch ey_BadLines_TooMuch y4_TooMuch; cases hc), (fun c hc => by rcases List.mem_cons.mp hc with rfl | hc; exact kit_val ev_BadLines; cases hc), (fun c hc => by rcases List.mem_cons.mp hc with rfl | hc; exact en_BadLines_row; cases hc), (fun c hc => by rcases List.mem_cons.mp hc with rfl | hc; exact en_BadLines_line; cases hc), (fun c hc => by rcases List.mem_cons.mp hc with rfl | hc; exact en_BadLines_number; cases hc), (fun c hc => rfl)⟩
  refine ⟨PySem.W.fnOf "law" "law" (defArgs s_law) (defBody s_law) (defScope s_law) .none kV17 dc17 pm17 an17 (.ref cL) ct17, cL, PL, OT _ _ _ _ _ _ _ _ l17 rfl rfl lcL v11, lPL, PySem.W.codeHd_of_K X chL, fun s v => .of_eq rfl, fun base _ _ TB => ?_⟩
  have FI_BadLines : Fun W.K "__init__" "BadLines.__init__" s_BadLines_init fi_BadLines _ := fun_mk (st := s_BadLines_init) li_BadLines ci_BadLines ki_BadLines
  have i_BadLines := ini_BadLines (P := l.prog) (w := w) (base := base) FI_BadLines ⟨PySem.W.mg_of X G aC_GrowError, gsp, grd, gfc⟩ ⟨⟨⟨_, _, _, _, _, _, _, _, _, _, _, _, _, _, _, xo_BadLines, xv_BadLines⟩, sx_BadLines, xs_BadLines, xt_BadLines, xk_BadLines⟩, xi_BadLines, xf_BadLines, xn_BadLines, PySem.W.mg_of X G aC_BadLines⟩ rfl
  have F1 : Fun W.K "_law_begun" "_law_begun" s_law_begun f1 _ := fun_mk (st := s_law_begun) l1 c1 k1
  have c_law_begun := (ok_law_begun (P := l.prog) (w := w) (base := base) F1 (PySem.W.mg_of X G a1) T )
  have F2 : Fun W.K "_law_alike" "_law_alike" s_law_alike f2 _ := fun_mk (st := s_law_alike) l2 c2 k2
  have c_law_alike := rec_law_alike (P := l.prog) (w := w) (base := base) F2 (PySem.W.mg_of X G a2) T 8
  have F3 : Fun W.K "_law_told" "_law_told" s_law_told f3 _ := fun_mk (st := s_law_told) l3 c3 k3
  have c_law_told := ok_law_told (P := l.prog) (w := w) (base := base) (k := 4) F3 (PySem.W.mg_of X G a3) T
  have F4 : Fun W.K "_law_all" "_law_all" s_law_all f4 _ := fun_mk (st := s_law_all) l4 c4 k4
  have c_law_all := ok_law_all (P := l.prog) (w := w) (base := base) (k := 4) (n := 8) F4 (PySem.W.mg_of X G a4) c_law_alike c_law_told (by decide) (by decide)
  have F5 : Fun W.K "is_sign" "is_sign" s_is_sign f5 _ := fun_mk (st := s_is_sign) l5 c5 k5
  have c_is_sign := (ok_is_sign (P := l.prog) (w := w) (base := base) F5 (PySem.W.mg_of X G a5) T )
  have F6 : Fun W.K "is_line" "is_line" s_is_line f6 _ := fun_mk (st := s_is_line) l6 c6 k6
  have c_is_line := (ok_is_line (P := l.prog) (w := w) (base := base) F6 (PySem.W.mg_of X G a6) T c_is_sign)
  have F7 : Fun W.K "need_lines" "need_lines" s_need_lines f7 _ := fun_mk (st := s_need_lines) l7 c7 k7
  have c_need_lines := (ok_need_lines (P := l.prog) (w := w) (base := base) F7 (PySem.W.mg_of X G a7) T c_is_line i_BadLines)
  have F8 : Fun W.K "strokes_of" "strokes_of" s_strokes_of f8 _ := fun_mk (st := s_strokes_of) l8 c8 k8
  have c_strokes_of := (ok_strokes_of (P := l.prog) (w := w) (base := base) F8 (PySem.W.mg_of X G a8) T )
  have F9 : Fun W.K "strokes" "strokes" s_strokes f9 _ := fun_mk (st := s_strokes) l9 c9 k9
  have c_strokes := (ok_strokes (P := l.prog) (w := w) (base := base) F9 (PySem.W.mg_of X G a9) T c_need_lines c_strokes_of)
  have F10 : Fun W.K "_law_take" "_law_take" s_law_take f10 _ := fun_mk (st := s_law_take) l10 c10 k10
  have c_law_take := (ok_law_take (P := l.prog) (w := w) (base := base) F10 (PySem.W.mg_of X G a10) T )
  have F11 : Fun W.K "_law_sign" "_law_sign" s_law_sign f11 _ := fun_mk (st := s_law_sign) l11 c11 k11
  have c_law_sign := (ok_law_sign (P := l.prog) (w := w) (base := base) F11 (PySem.W.mg_of X G a11) T c_law_take)
  have F12 : Fun W.K "_law_line" "_law_line" s_law_line f12 _ := fun_mk (st := s_law_line) l12 c12 k12
  have c_law_line := (ok_law_line (P := l.prog) (w := w) (base := base) F12 (PySem.W.mg_of X G a12) T c_law_take c_law_sign)
  have F13 : Fun W.K "_law_line_near" "_law_line_near" s_law_line_near f13 _ := fun_mk (st := s_law_line_near) l13 c13 k13
  have c_law_line_near := (ok_law_line_near (P := l.prog) (w := w) (base := base) F13 (PySem.W.mg_of X G a13) T c_law_take c_law_sign)
  have F14 : Fun W.K "_law_lines_two" "_law_lines_two" s_law_lines_two f14 _ := fun_mk (st := s_law_lines_two) l14 c14 k14
  have c_law_lines_two := (ok_law_lines_two (P := l.prog) (w := w) (base := base) F14 (PySem.W.mg_of X G a14) T c_law_take c_law_line c_law_line_near)
  have F15 : Fun W.K "_law_strokes" "_law_strokes" s_law_strokes f15 _ := fun_mk (st := s_law_strokes) l15 c15 k15
  have c_law_strokes := (ok_law_strokes (P := l.prog) (w := w) (base := base) F15 (PySem.W.mg_of X G a15) T )
  have F16 : Fun W.K "_law_odd_lines" "_law_odd_lines" s_law_odd_lines f16 _ := fun_mk (st := s_law_odd_lines) l16 c16 k16
  have c_law_odd_lines := (ok_law_odd_lines (P := l.prog) (w := w) (base := base) F16 (PySem.W.mg_of X G a16) T c_law_take)
  have F17 : Fun W.K "law" "law" s_law fa _ := fun_mk (st := s_law) l17 c17 k17
  exact law_ofT (T := [PL]) (ok_law (P := l.prog) (w := w) (base := base) F17 T c_law_begun c_law_all c_law_alike c_strokes c_law_lines_two c_law_strokes c_law_odd_lines TB rfl rfl) HT (fun p hp => by rw [List.mem_singleton.mp hp]; exact List.mem_singleton.mpr rfl)
theorem walk {l : PySem.W.OpenLaw} {q : Program} {loose : List Str} {XP : (Str → Option Value) → Heap → Prop} {YP : World → Heap → Prop} {d : DefRec} {K : Params → PySem.W.Frag} (hn : l.most = some 63) (hdf : d.params.defaults = []) (hL : ∀ w : World, noList (K w.params))
    (hY : ∀ (w : World) (h : Heap), YP w h → (K w.params).In h)
    (hrec : ((PyProof.Rows.recsOf q).any fun e => e.name == d.name) = true)
    (F : ∀ (w : World) (mg : Str → Option Value) (fa : Addr) (h : Heap), (K w.params).In h → h.Ns mainGlobals mg → mg d.name = some (.ref fa) → LamX.OwnTab (K w.params) fa h → ∃ (fd : FuncData) (c P : Addr), h.get? P = some { cls := .none, data := .fields #[] } ∧ (K w.params).lookup P = none ∧ PySem.W.CodeHd h c P ∧ (∀ (s : Shared) (u : Value), BindsTo s fd ⟨[u], []⟩ [("_law_script", u)]) ∧ ∀ base : Heap, (K w.params).In base → base.Ns mainGlobals mg → LamX.TabB base mg c P → FnOk l.prog w (K w.params) mg base (L2.CX l.prog w) 10 fa fd ["_law_script"] (spLawT [P] 63)) :
    PySem.W.WalkO q loose XP YP l.row.toRowW d [] (fun f vs => PySem.call f vs) := law_walkT (n := 63) (k := 10) (x := "_law_script") hn (by decide) hdf ⟨rfl, by decide, by decide⟩ hrec hL hY F
end W20
open PySem PySem.W PyProof.Rows in
set_option maxRecDepth 100000 in
set_option maxHeartbeats 0 in
theorem PySem.Challenge.cw_tabgrow_k20_strokes_holds : PySem.Challenge.rw_tabgrow_k20_strokes.Holds := by
  w_on; o_law; k_head; (case hw => w_witness2)
  k_fill
  refine W20.walk (l := PySem.Challenge.rw_tabgrow_k20_strokes) rfl rfl ?L (fun w h Y => by first | exact PySem.W.km_in_of Y | exact PySem.W.kIn_of Y) ?R ?F
  case R => first | rfl | decide +kernel
  case L => exact fun w => Dl.noList_of rfl
  case F =>
    intro w mg fa h KX G hmg OT
    refine' W20.all_mk Dl.law_k20_true KX G hmg OT ?zb_len ?zb_int ?zb_list ?zb_bool ?zb_isinstance ?zb_str ?zb_tuple ?zb_range ?zb_ValueError ?zb_ord ?zb_enumerate ?zb_max ?zb_min ?zk_FIRST_SIGN ?zk_LAST_SIGN ?zk_BARRED ?zk_MOST_WIDE ?zk_MOST_ROWS ?zk_NEAR ?aC_GrowError ?aC_BadLines ?aC_BadPage ?aC_BadStyle ?aC_BadRow ?aC_BadCell ?aC_BadCount ?aC_BadStep ?aC_BadStroke ?aC_BadText ?aC_BadHand ?aC_TooMuch ?zb_GrowError ?zh_GrowError ?zt_GrowError ?zc_BadLines_GrowError ?xo_BadLines ?xv_BadLines ?sx_BadLines ?xs_BadLines ?xt_BadLines ?xk_BadLines ?xi_BadLines ?xf_BadLines ?xn_BadLines ?li_BadLines ?ci_BadLines ?ki_BadLines ?gsp ?grd ?gfc ?eg_BadLines ?ek_BadLines ?es_BadLines ?ed_BadLines ?ea_BadLines ?em_BadLines ?ev_BadLines ?en_BadLines_row ?en_BadLines_line ?en_BadLines_number ?ey_BadLines_BadPage ?ey_BadLines_BadStyle ?ey_BadLines_BadRow ?ey_BadLines_BadCell ?ey_BadLines_BadCount ?ey_BadLines_BadStep ?ey_BadLines_BadStroke ?ey_BadLines_BadText ?ey_BadLines_BadHand ?ey_BadLines_TooMuch ?exn ?ext ?y1_BadPage ?y2_BadPage ?y4_BadPage ?y1_BadStyle ?y2_BadStyle ?y4_BadStyle ?y1_BadRow ?y2_BadRow ?y4_BadRow ?y1_BadCell ?y2_BadCell ?y4_BadCell ?y1_BadCount ?y2_BadCount ?y4_BadCount ?y1_BadLines ?y2_BadLines ?y4_BadLines ?y1_BadStep ?y2_BadStep ?y4_BadStep ?y1_BadStroke ?y2_BadStroke ?y4_BadStroke ?y1_BadText ?y2_BadText ?y4_BadText ?y1_BadHand ?y2_BadHand ?y4_BadHand ?y1_TooMuch ?y2_TooMuch ?y4_TooMuch ?a1 ?l1 ?c1 ?k1 ?a2 ?l2 ?c2 ?k2 ?a3 ?l3 ?c3 ?k3 ?a4 ?l4 ?c4 ?k4 ?a5 ?l5 ?c5 ?k5 ?a6 ?l6 ?c6 ?k6 ?a7 ?l7 ?c7 ?k7 ?a8 ?l8 ?c8 ?k8 ?a9 ?l9 ?c9 ?k9 ?a10 ?l10 ?c10 ?k10 ?a11 ?l11 ?c11 ?k11 ?a12 ?l12 ?c12 ?k12 ?a13 ?l13 ?c13 ?k13 ?a14 ?l14 ?c14 ?k14 ?a15 ?l15 ?c15 ?k15 ?a16 ?l16 ?c16 ?k16 ?a17 ?l17 ?lcL ?v11 ?lPL ?chL ?c17 ?k17
    (case zb_len => k_is)
    (case zb_int => k_is)
    (case zb_list => k_is)
    (case zb_bool => k_is)
    (case zb_isinstance => k_is)
    (case zb_str => k_is)
    (case zb_tuple => k_is)
    (case zb_range => k_is)
    (case zb_ValueError => k_is)
    (case zb_ord => k_is)
    (case zb_enumerate => k_is)
    (case zb_max => k_is)
    (case zb_min => k_is)
    (case zk_FIRST_SIGN => k_is)
    (case zk_LAST_SIGN => k_is)
    (case zk_BARRED => k_is)
    (case zk_MOST_WIDE => k_is)
    (case zk_MOST_ROWS => k_is)
    (case zk_NEAR => k_is)
    (case aC_GrowError => k_is)
    (case aC_BadLines => k_is)
    (case aC_BadPage => k_is)
    (case aC_BadStyle => k_is)
    (case aC_BadRow => k_is)
    (case aC_BadCell => k_is)
    (case aC_BadCount => k_is)
    (case aC_BadStep => k_is)
    (case aC_BadStroke => k_is)
    (case aC_BadText => k_is)
    (case aC_BadHand => k_is)
    (case aC_TooMuch => k_is)
    (case zb_GrowError => k_is)
    (case zh_GrowError => k_is)
    (case zt_GrowError => k_is)
    (case zc_BadLines_GrowError => first | k_is | rfl)
    (case xo_BadLines => k_is)
    (case xv_BadLines => first | rfl | decide +kernel)
    (case sx_BadLines => k_is)
    (case xs_BadLines => k_is)
    (case xt_BadLines => k_is)
    (case xk_BadLines => k_is)
    (case xi_BadLines => k_is)
    (case xf_BadLines => k_is)
    (case xn_BadLines => k_is)
    (case li_BadLines => k_is)
    (case ci_BadLines => k_is)
    (case ki_BadLines => k_is)
    (case gsp => k_is)
    (case grd => k_is)
    (case gfc => k_is)
    (case eg_BadLines => k_is)
    (case ek_BadLines => k_is)
    (case es_BadLines => k_is)
    (case ed_BadLines => k_is)
    (case ea_BadLines => k_is)
    (case em_BadLines => k_is)
    (case ev_BadLines => k_is)
    (case en_BadLines_row => k_is)
    (case en_BadLines_line => k_is)
    (case en_BadLines_number => k_is)
    (case ey_BadLines_BadPage => k_is)
    (case ey_BadLines_BadStyle => k_is)
    (case ey_BadLines_BadRow => k_is)
    (case ey_BadLines_BadCell => k_is)
    (case ey_BadLines_BadCount => k_is)
    (case ey_BadLines_BadStep => k_is)
    (case ey_BadLines_BadStroke => k_is)
    (case ey_BadLines_BadText => k_is)
    (case ey_BadLines_BadHand => k_is)
    (case ey_BadLines_TooMuch => k_is)
    (case exn => k_is)
    (case ext => k_is)
    (case y1_BadPage => k_is)
    (case y2_BadPage => k_is)
    (case y4_BadPage => k_is)
    (case y1_BadStyle => k_is)
    (case y2_BadStyle => k_is)
    (case y4_BadStyle => k_is)
    (case y1_BadRow => k_is)
    (case y2_BadRow => k_is)
    (case y4_BadRow => k_is)
    (case y1_BadCell => k_is)
    (case y2_BadCell => k_is)
    (case y4_BadCell => k_is)
    (case y1_BadCount => k_is)
    (case y2_BadCount => k_is)
    (case y4_BadCount => k_is)
    (case y1_BadLines => k_is)
    (case y2_BadLines => k_is)
    (case y4_BadLines => k_is)
    (case y1_BadStep => k_is)
    (case y2_BadStep => k_is)
    (case y4_BadStep => k_is)
    (case y1_BadStroke => k_is)
    (case y2_BadStroke => k_is)
    (case y4_BadStroke => k_is)
    (case y1_BadText => k_is)
    (case y2_BadText => k_is)
    (case y4_BadText => k_is)
    (case y1_BadHand => k_is)
    (case y2_BadHand => k_is)
    (case y4_BadHand => k_is)
    (case y1_TooMuch => k_is)
    (case y2_TooMuch => k_is)
    (case y4_TooMuch => k_is)
    (case a1 => k_is)
    (case l1 => k_is)
    (case c1 => k_is)
    (case k1 => k_is)
    (case a2 => k_is)
    (case l2 => k_is)
    (case c2 => k_is)
    (case k2 => k_is)
    (case a3 => k_is)
    (case l3 => k_is)
    (case c3 => k_is)
    (case k3 => k_is)
    (case a4 => k_is)
    (case l4 => k_is)
    (case c4 => k_is)
    (case k4 => k_is)
    (case a5 => k_is)
    (case l5 => k_is)
    (case c5 => k_is)
    (case k5 => k_is)
    (case a6 => k_is)
    (case l6 => k_is)
    (case c6 => k_is)
    (case k6 => k_is)
    (case a7 => k_is)
    (case l7 => k_is)
    (case c7 => k_is)
    (case k7 => k_is)
    (case a8 => k_is)
    (case l8 => k_is)
    (case c8 => k_is)
    (case k8 => k_is)
    (case a9 => k_is)
    (case l9 => k_is)
    (case c9 => k_is)
    (case k9 => k_is)
    (case a10 => k_is)
    (case l10 => k_is)
    (case c10 => k_is)
    (case k10 => k_is)
    (case a11 => k_is)
    (case l11 => k_is)
    (case c11 => k_is)
    (case k11 => k_is)
    (case a12 => k_is)
    (case l12 => k_is)
    (case c12 => k_is)
    (case k12 => k_is)
    (case a13 => k_is)
    (case l13 => k_is)
    (case c13 => k_is)
    (case k13 => k_is)
    (case a14 => k_is)
    (case l14 => k_is)
    (case c14 => k_is)
    (case k14 => k_is)
    (case a15 => k_is)
    (case l15 => k_is)
    (case c15 => k_is)
    (case k15 => k_is)
    (case a16 => k_is)
    (case l16 => k_is)
    (case c16 => k_is)
    (case k16 => k_is)
    (case a17 => k_is)
    (case l17 => k_is)
    (case lcL => k_is)
    (case v11 => first | rfl | decide +kernel)
    (case lPL => first | rfl | decide +kernel)
    (case chL => first | rfl | decide +kernel)
    (case c17 => k_is)
    (case k17 => k_is)
#print axioms PySem.Challenge.cw_tabgrow_k20_strokes_holds
