import PyProof.Rows.All
import Wide.All
import OpenK.AllK
import Wide.FinOn
import HandS.ForMost
import HandS.ForExc
import HandS.Lambda
import HandS.TupAny
import HandS.TupMul
import HandS.Style
import HandS.Wide
import HandS.IsInst
import HandS.Zip
import KE.GoesZip
import KE.GoesMore
import HandS.StrMore
import HandS.Deep
import KE.GoesEnum
import HandS.Conv
import HandS.ExcOwn
import HandS.ExcIs
import HandS.TryOnly
import KE.KDflt
import HandS.ExcInit
import OpenK.KCls
import HandS.ExcField
import HandS.EndOwn
import KE.KNestM
import PyProof.Rows.StrCut
import HandS.ReplaceList
import KE.DataMinMax
import HandS.TupLe
import PySem.Challenge.RW_tabgrow_k13_whole_in_whatever_order_it_i
set_option Elab.async false
set_option linter.all false
set_option maxRecDepth 100000
namespace Dl
open PySem L2
/-- data: plain values, frozen tuples and lists, and references into the store -/
inductive D where
  | non | bl (b : Bool) | int (i : Int) | str (s : List Nat) | tup (ds : List D) | lst (ds : List D) | ref (n : Nat) | scr (ns : List Int)
  /-- an exception as an except suite holds it: where it stands, its dict, its field, its number -/
  | exn (a : Nat) (o : Option (Nat × Str × Int))
  deriving Inhabited
mutual
def D.beq : D → D → Bool
  | .non, .non => true
  | .bl a, .bl b => a == b
  | .int a, .int b => a == b
  | .str a, .str b => a == b
  | .tup a, .tup b => D.beqs a b
  | .lst a, .lst b => D.beqs a b
  | .ref a, .ref b => a == b
  | .scr a, .scr b => a == b
  | .exn a o, .exn b u => decide (a = b ∧ o = u)
  | _, _ => false
def D.beqs : List D → List D → Bool
  | [], [] => true
  | x :: xs, y :: ys => D.beq x y && D.beqs xs ys
  | _, _ => false
end
mutual
theorem D.beq_refl : ∀ d : D, D.beq d d = true
  | .non => rfl
  | .bl a => by simp [D.beq]
  | .int a => by simp [D.beq]
  | .str a => by simp [D.beq]
  | .tup a => by unfold D.beq; exact D.beqs_refl a
  | .lst a => by unfold D.beq; exact D.beqs_refl a
  | .ref a => by simp [D.beq]
  | .scr a => by simp [D.beq]
  | .exn a o => by simp [D.beq]
theorem D.beqs_refl : ∀ ds : List D, D.beqs ds ds = true
  | [] => rfl
  | x :: xs => by unfold D.beqs; rw [D.beq_refl x, D.beqs_refl xs]; rfl
end
mutual
theorem D.eq_of_beq : ∀ (d e : D), D.beq d e = true → d = e
  | .non, e, h => by cases e <;> simp_all [D.beq]
  | .bl a, e, h => by cases e <;> simp_all [D.beq]
  | .int a, e, h => by cases e <;> simp_all [D.beq]
  | .str a, e, h => by cases e <;> simp_all [D.beq]
  | .ref a, e, h => by cases e <;> simp_all [D.beq]
  | .scr a, e, h => by cases e <;> simp_all [D.beq]
  | .exn a o, e, h => by cases e <;> simp_all [D.beq]
  | .tup a, e, h => by
    cases e with
    | tup b => unfold D.beq at h; rw [D.eqs_of_beqs a b h]
    | _ => simp [D.beq] at h
  | .lst a, e, h => by
    cases e with
    | lst b => unfold D.beq at h; rw [D.eqs_of_beqs a b h]
    | _ => simp [D.beq] at h
theorem D.eqs_of_beqs : ∀ (ds es : List D), D.beqs ds es = true → ds = es
  | [], es, h => by cases es <;> simp_all [D.beqs]
  | x :: xs, es, h => by
    cases es with
    | nil => simp [D.beqs] at h
    | cons y ys =>
      unfold D.beqs at h
      rw [Bool.and_eq_true] at h
      rw [D.eq_of_beq x y h.1, D.eqs_of_beqs xs ys h.2]
end
/-- what stands in the store -/
inductive Ob where
  | lst (ds : List D)
  | ins (C : Nat) (fs : List (Str × D))
  | dK (kvs : List (Key × D))
  | dT (kvs : List (List Key × D))
  | dead
abbrev Store := List Ob
abbrev Env := List (Option D)
/-- the longest text, list -/
def LIM : Nat := 1000000
/-- how an end came: a value, an exception (its class, what it bears), or no word is said -/
inductive R (A : Type) where
  | ok (a : A)
  | exc (c : Nat) (p : Option D) (st : Store)
  | bad
def R.bind {A B : Type} (r : R A) (f : A → R B) : R B := match r with
  | .ok a => f a
  | .exc c p st => .exc c p st
  | .bad => .bad
@[simp] theorem R.bind_ok {A B : Type} (a : A) (f : A → R B) : (R.ok a).bind f = f a := rfl
@[simp] theorem R.bind_exc {A B : Type} (c : Nat) (p : Option D) (st : Store) (f : A → R B) : (R.exc c p st).bind f = .exc c p st := rfl
@[simp] theorem R.bind_bad {A B : Type} (f : A → R B) : (R.bad).bind f = R.bad := rfl
/-- a value that may lack -/
def R.of {A : Type} : Option A → R A
  | some a => .ok a
  | none => .bad
@[simp] theorem R.of_some {A : Type} (a : A) : R.of (some a) = .ok a := rfl
@[simp] theorem R.of_none {A : Type} : R.of (none : Option A) = .bad := rfl
/-- the world: the written part, the classes by number, the one field of an exception's class -/
structure Wd where
  K : PySem.W.Frag
  cls : Nat → Addr
  pay : Nat → Option Str
  /-- the tables of the defs that make lambdas, the lambdas' names -/
  tabs : List (Addr × Str)
/-- the script's list -/
def ScrAt (F : Hp) (a : Addr) (ns : List Int) : Prop := (∃ o, F a = some (.frz o (.lst (ns.map V.int)))) ∨ F a = some (.lst (ns.map V.int))
theorem ScrAt.mono {F F' : Hp} {a : Addr} {ns : List Int} (s : Same F F') : ScrAt F a ns → ScrAt F' a ns
  | .inl ⟨o, h⟩ => .inl ⟨o, s _ _ h⟩
  | .inr h => .inr (s _ _ h)
theorem ScrAt.sq {F H : Hp} {a : Addr} {ns : List Int} {K : PySem.W.Frag} (s : Same F H) : ScrAt F a ns → SqL K H a (ns.map V.int)
  | .inl ⟨o, h⟩ => .inl (.inr ⟨o, s _ _ h⟩)
  | .inr h => .of (s _ _ h)
mutual
inductive Rep (F : Hp) (rho : List Addr) : V → D → Prop
  | non : Rep F rho .non .non
  | bl (b : Bool) : Rep F rho (.bl b) (.bl b)
  | int (i : Int) : Rep F rho (.int i) (.int i)
  | str (s : List Nat) : s.all (fun c => decide (c < 128)) = true → s.length ≤ LIM → Rep F rho (.str ⟨s.toArray⟩) (.str s)
  | tup {a : Addr} {vs : List V} {ds : List D} : F a = some (.tup vs) → Reps F rho vs ds → Rep F rho (.ref a) (.tup ds)
  | lst {a : Addr} {vs : List V} {ds : List D} : F a = some (.lst vs) → Reps F rho vs ds → Rep F rho (.ref a) (.lst ds)
  | ref {a : Addr} {n : Nat} : rho[n]? = some a → Rep F rho (.ref a) (.ref n)
  | scr {a : Addr} {ns : List Int} : ScrAt F a ns → Rep F rho (.ref a) (.scr ns)
  | exn0 (a : Addr) : Rep F rho (.ref a) (.exn a none)
  | exn1 {a dd : Addr} {f : Str} {i : Int} : F dd = some (.xd [(f, .int i)]) → Rep F rho (.ref a) (.exn a (some (dd, f, i)))
inductive Reps (F : Hp) (rho : List Addr) : List V → List D → Prop
  | nil : Reps F rho [] []
  | cons {v : V} {vs : List V} {d : D} {ds : List D} : Rep F rho v d → Reps F rho vs ds → Reps F rho (v :: vs) (d :: ds)
end
def Ext (r r' : List Addr) : Prop := ∀ (i : Nat) (a : Addr), r[i]? = some a → r'[i]? = some a
theorem Ext.refl (r : List Addr) : Ext r r := fun _ _ h => h
theorem Ext.trans {a b c : List Addr} (h : Ext a b) (k : Ext b c) : Ext a c := fun i x e => k i x (h i x e)
theorem Ext.snoc (r : List Addr) (a : Addr) : Ext r (r ++ [a]) := fun i x e => by
  have h := (List.getElem?_eq_some_iff.mp e).1
  rw [List.getElem?_append_left h]; exact e
section
variable {F F' : Hp} {r r' : List Addr}
mutual
theorem Rep.mono (s : Same F F') (x : Ext r r') : ∀ {d : D} {v : V}, Rep F r v d → Rep F' r' v d
  | _, _, .non => .non
  | _, _, .bl b => .bl b
  | _, _, .int i => .int i
  | _, _, .str t h1 h2 => .str t h1 h2
  | _, _, .tup h k => .tup (s _ _ h) (Reps.mono s x k)
  | _, _, .lst h k => .lst (s _ _ h) (Reps.mono s x k)
  | _, _, .ref h => .ref (x _ _ h)
  | _, _, .scr h => .scr (h.mono s)
  | _, _, .exn0 a => .exn0 a
  | _, _, .exn1 h => .exn1 (s _ _ h)
theorem Reps.mono (s : Same F F') (x : Ext r r') : ∀ {ds : List D} {vs : List V}, Reps F r vs ds → Reps F' r' vs ds
  | _, _, .nil => .nil
  | _, _, .cons h k => .cons (Rep.mono s x h) (Reps.mono s x k)
end
end
section
variable {F : Hp} {r : List Addr}
theorem Reps.length : ∀ {vs : List V} {ds : List D}, Reps F r vs ds → vs.length = ds.length
  | _, _, .nil => rfl
  | _, _, .cons _ k => by simp [Reps.length k]
theorem Reps.get : ∀ {vs : List V} {ds : List D} {i : Nat} {d : D}, Reps F r vs ds → ds[i]? = some d → ∃ v, vs[i]? = some v ∧ Rep F r v d
  | _, _, _, _, .nil, e => by simp at e
  | _, _, 0, _, .cons h _, e => by simp at e; subst e; exact ⟨_, rfl, h⟩
  | _, _, i + 1, d, .cons _ k, e => by
    obtain ⟨v, h1, h2⟩ := Reps.get (i := i) k (by simpa using e)
    exact ⟨v, by simpa using h1, h2⟩
theorem Reps.append : ∀ {vs ws : List V} {ds es : List D}, Reps F r vs ds → Reps F r ws es → Reps F r (vs ++ ws) (ds ++ es)
  | _, _, _, _, .nil, k => k
  | _, _, _, _, .cons h t, k => .cons h (Reps.append t k)
theorem Reps.take : ∀ {vs : List V} {ds : List D} (n : Nat), Reps F r vs ds → Reps F r (vs.take n) (ds.take n)
  | _, _, 0, _ => .nil
  | _, _, _ + 1, .nil => .nil
  | _, _, n + 1, .cons h t => .cons h (Reps.take n t)
theorem Reps.drop : ∀ {vs : List V} {ds : List D} (n : Nat), Reps F r vs ds → Reps F r (vs.drop n) (ds.drop n)
  | _, _, 0, h => h
  | _, _, _ + 1, .nil => .nil
  | _, _, n + 1, .cons _ t => Reps.drop n t
theorem Reps.set {v : V} {d : D} (h : Rep F r v d) : ∀ {vs : List V} {ds : List D} (i : Nat), Reps F r vs ds → Reps F r (vs.set i v) (ds.set i d)
  | _, _, _, .nil => .nil
  | _, _, 0, .cons _ t => .cons h t
  | _, _, i + 1, .cons q t => .cons q (Reps.set h i t)
theorem Reps.eraseIdx : ∀ {vs : List V} {ds : List D} (i : Nat), Reps F r vs ds → Reps F r (vs.eraseIdx i) (ds.eraseIdx i)
  | _, _, _, .nil => .nil
  | _, _, 0, .cons _ t => t
  | _, _, i + 1, .cons q t => .cons q (Reps.eraseIdx i t)
theorem Reps.reverse : ∀ {vs : List V} {ds : List D}, Reps F r vs ds → Reps F r vs.reverse ds.reverse
  | _, _, .nil => .nil
  | _, _, .cons h t => by rw [List.reverse_cons, List.reverse_cons]; exact Reps.append (Reps.reverse t) (.cons h .nil)
theorem Reps.flat {vs : List V} {ds : List D} (h : Reps F r vs ds) : ∀ k : Nat, Reps F r (List.replicate k vs).flatten (List.replicate k ds).flatten
  | 0 => .nil
  | k + 1 => by rw [List.replicate_succ, List.replicate_succ, List.flatten_cons, List.flatten_cons]; exact Reps.append h (Reps.flat h k)
theorem Reps.snoc {vs : List V} {ds : List D} {v : V} {d : D} (h : Reps F r vs ds) (k : Rep F r v d) : Reps F r (vs ++ [v]) (ds ++ [d]) := Reps.append h (.cons k .nil)
end
/-- the fields of an instance -/
def Flds (F : Hp) (r : List Addr) : List (Str × V) → List (Str × D) → Prop
  | [], [] => True
  | (f, v) :: vs, (g, d) :: ds => f = g ∧ Rep F r v d ∧ Flds F r vs ds
  | _, _ => False
theorem Flds.mono {F F' : Hp} {r r' : List Addr} (s : Same F F') (x : Ext r r') : ∀ {vs : List (Str × V)} {ds : List (Str × D)}, Flds F r vs ds → Flds F' r' vs ds
  | [], [], _ => trivial
  | (f, v) :: vs, (g, d) :: ds, ⟨e, h, k⟩ => ⟨e, h.mono s x, Flds.mono s x k⟩
  | [], _ :: _, h => h.elim
  | _ :: _, [], h => h.elim
theorem Flds.look {F : Hp} {r : List Addr} {f : Str} : ∀ {vs : List (Str × V)} {ds : List (Str × D)} {d : D}, Flds F r vs ds → ds.lookup f = some d → ∃ v, vs.lookup f = some v ∧ Rep F r v d
  | [], [], _, _, e => by simp at e
  | (g, v) :: vs, (g', d') :: ds, d, ⟨e, h, k⟩, q => by
    subst e
    rw [List.lookup_cons] at q ⊢
    cases hb : f == g with
    | true => rw [hb] at q; cases q; exact ⟨v, rfl, h⟩
    | false => rw [hb] at q; exact Flds.look k q
  | [], _ :: _, _, h, _ => h.elim
  | _ :: _, [], _, h, _ => h.elim
theorem Flds.lookN {F : Hp} {r : List Addr} {f : Str} : ∀ {vs : List (Str × V)} {ds : List (Str × D)}, Flds F r vs ds → ds.lookup f = none → vs.lookup f = none
  | [], [], _, _ => rfl
  | (g, v) :: vs, (g', d') :: ds, ⟨e, h, k⟩, q => by
    subst e
    rw [List.lookup_cons] at q ⊢
    cases hb : f == g with
    | true => rw [hb] at q; cases q
    | false => rw [hb] at q; exact Flds.lookN k q
  | [], _ :: _, h, _ => h.elim
  | _ :: _, [], h, _ => h.elim
def putD (f : Str) (v : D) : List (Str × D) → List (Str × D)
  | [] => [(f, v)]
  | (g, u) :: r => if g = f then (g, v) :: r else (g, u) :: putD f v r
theorem Flds.put {F : Hp} {r : List Addr} {f : Str} {v : V} {d : D} (h : Rep F r v d) : ∀ {vs : List (Str × V)} {ds : List (Str × D)}, Flds F r vs ds → Flds F r (putF f v vs) (putD f d ds)
  | [], [], _ => ⟨rfl, h, trivial⟩
  | (g, v') :: vs, (g', d') :: ds, ⟨e, q, k⟩ => by
    subst e
    unfold putF putD
    split
    · exact ⟨rfl, h, k⟩
    · exact ⟨rfl, q, Flds.put h k⟩
  | [], _ :: _, h => h.elim
  | _ :: _, [], h => h.elim
theorem Flds.length {F : Hp} {r : List Addr} : ∀ {vs : List (Str × V)} {ds : List (Str × D)}, Flds F r vs ds → vs.length = ds.length
  | [], [], _ => rfl
  | (g, v) :: vs, (g', d) :: ds, ⟨_, _, k⟩ => by simp [Flds.length k]
  | [], _ :: _, h => h.elim
  | _ :: _, [], h => h.elim
def KVr {k : Type} (F : Hp) (r : List Addr) : List (k × V) → List (k × D) → Prop
  | [], [] => True
  | (f, v) :: vs, (g, d) :: ds => f = g ∧ Rep F r v d ∧ KVr F r vs ds
  | _, _ => False
theorem KVr.mono {k : Type} {F F' : Hp} {r r' : List Addr} (s : Same F F') (x : Ext r r') : ∀ {vs : List (k × V)} {ds : List (k × D)}, KVr F r vs ds → KVr F' r' vs ds
  | [], [], _ => trivial
  | (f, v) :: vs, (g, d) :: ds, ⟨e, h, k⟩ => ⟨e, h.mono s x, KVr.mono s x k⟩
  | [], _ :: _, h => h.elim
  | _ :: _, [], h => h.elim
/-- the object at a is the store's o -/
def ObOk (W : Wd) (F : Hp) (r : List Addr) (H : Hp) (a : Addr) : Ob → Prop
  | .lst ds => ∃ vs, H a = some (.lst vs) ∧ Reps F r vs ds
  | .ins C fs => ∃ dx vfs, H a = some (.ins (W.cls C) dx vfs) ∧ Flds F r vfs fs
  | .dK kvs => ∃ vs, H a = some (.dK vs) ∧ KVr F r vs kvs
  | .dT kvs => ∃ vs, H a = some (.dT vs) ∧ KVr F r vs kvs
  | .dead => ∃ o, H a = some o ∧ (∀ ps, o ≠ .tbl ps) ∧ ∀ φ, o ≠ .ext φ
theorem ObOk.mono {W : Wd} {F F' H H' : Hp} {r r' : List Addr} {a : Addr} (s : Same F F') (x : Ext r r') (h : H' a = H a) : ∀ {o : Ob}, ObOk W F r H a o → ObOk W F' r' H' a o
  | .lst _, ⟨vs, e, k⟩ => ⟨vs, h.trans e, k.mono s x⟩
  | .ins _ _, ⟨dx, vs, e, k⟩ => ⟨dx, vs, h.trans e, k.mono s x⟩
  | .dK _, ⟨vs, e, k⟩ => ⟨vs, h.trans e, k.mono s x⟩
  | .dT _, ⟨vs, e, k⟩ => ⟨vs, h.trans e, k.mono s x⟩
  | .dead, ⟨o, e, k⟩ => ⟨o, h.trans e, k⟩
theorem ObOk.ne {W : Wd} {F H : Hp} {r : List Addr} {a : Addr} : ∀ {o : Ob}, ObOk W F r H a o → H a ≠ none
  | .lst _, ⟨vs, e, k⟩ => by rw [e]; simp
  | .ins _ _, ⟨dx, vs, e, k⟩ => by rw [e]; simp
  | .dK _, ⟨vs, e, k⟩ => by rw [e]; simp
  | .dT _, ⟨vs, e, k⟩ => by rw [e]; simp
  | .dead, ⟨o, e, k⟩ => by rw [e]; simp
theorem ObOk.kind {W : Wd} {F H : Hp} {r : List Addr} {a : Addr} : ∀ {o : Ob}, ObOk W F r H a o → ∃ u, H a = some u ∧ (∀ ps, u ≠ .tbl ps) ∧ ∀ φ, u ≠ .ext φ
  | .lst _, ⟨vs, e, k⟩ => ⟨_, e, (fun _ z => by cases z), fun _ z => by cases z⟩
  | .ins _ _, ⟨dx, vs, e, k⟩ => ⟨_, e, (fun _ z => by cases z), fun _ z => by cases z⟩
  | .dK _, ⟨vs, e, k⟩ => ⟨_, e, (fun _ z => by cases z), fun _ z => by cases z⟩
  | .dT _, ⟨vs, e, k⟩ => ⟨_, e, (fun _ z => by cases z), fun _ z => by cases z⟩
  | .dead, h => h
/-- the tables are whole, and none of the rest -/
structure TabsOk (T : List (Addr × Str)) (F Rs H : Hp) (r : List Addr) : Prop where
  at_ : ∀ p ∈ T, LamX.TabS H p.1 p.2 ∧ F p.1 = none ∧ Rs p.1 = none ∧ p.1 ∉ r
  nF : ∀ a ps, F a ≠ some (.tbl ps)
  nR : ∀ a ps, Rs a ≠ some (.tbl ps)
theorem tabs_keep {H H' : Hp} {P : Addr} {q : Str} (t : LamX.TabS H P q) (k : ∀ a o, H a = some o → ((∃ ps, o = .tbl ps) ∨ ∃ φ, o = .ext φ) → H' a = some o) : LamX.TabS H' P q := by
  obtain ⟨ps, h1, h2, h3⟩ := t
  refine ⟨ps, k _ _ h1 (.inl ⟨ps, rfl⟩), h2, fun pos cv hc => ?_⟩
  obtain ⟨c, e1, e2⟩ := h3 pos cv hc
  exact ⟨c, e1, k _ _ e2 (.inr ⟨_, rfl⟩)⟩
theorem tabs_here {H : Hp} {P : Addr} {q : Str} (t : LamX.TabS H P q) : H P ≠ none := by
  obtain ⟨ps, h1, _⟩ := t
  rw [h1]; simp
/-- the heap H is the frozen part F, the store's objects at r, a part Rs that is none of ours, and waste -/
structure Holds (W : Wd) (Rs F H : Hp) (r : List Addr) (st : Store) : Prop where
  sF : Same F H
  sR : Same Rs H
  dj : ∀ a, F a ≠ none → Rs a = none
  len : r.length = st.length
  nd : r.Nodup
  own : ∀ a ∈ r, F a = none ∧ Rs a = none
  ob : ∀ (i : Nat) (a : Addr) (o : Ob), r[i]? = some a → st[i]? = some o → ObOk W F r H a o
  tb : TabsOk W.tabs F Rs H r
section
variable {W : Wd} {Rs F H : Hp} {r : List Addr} {st : Store}
theorem Holds.freeF (h : Holds W Rs F H r st) {p : Addr} (e : H p = none) : F p = none := h.sF.free e
theorem Holds.freeR (h : Holds W Rs F H r st) {p : Addr} (e : H p = none) : Rs p = none := h.sR.free e
theorem Holds.there (h : Holds W Rs F H r st) {a : Addr} (e : a ∈ r) : H a ≠ none := by
  obtain ⟨i, hi, rfl⟩ := List.mem_iff_getElem.mp e
  have hs : i < st.length := by rw [← h.len]; exact hi
  exact (h.ob i r[i] st[i] (by simp [hi]) (by simp [hs])).ne
theorem Holds.notin (h : Holds W Rs F H r st) {p : Addr} (e : H p = none) : p ∉ r := fun m => h.there m e
/-- a new frozen object -/
theorem Holds.kindOf (h : Holds W Rs F H r st) {a : Addr} (e : a ∈ r) : ∃ u, H a = some u ∧ (∀ ps, u ≠ .tbl ps) ∧ ∀ φ, u ≠ .ext φ := by
  obtain ⟨i, hi, rfl⟩ := List.mem_iff_getElem.mp e
  have hs : i < st.length := by rw [← h.len]; exact hi
  exact (h.ob i r[i] st[i] (by simp [hi]) (by simp [hs])).kind
theorem Holds.frozen (h : Holds W Rs F H r st) {p : Addr} {o : HO} (e : H p = none) (hn : ∀ ps, o ≠ .tbl ps := by intro _ z; cases z) : Same F (upd F p o) ∧ Holds W Rs (upd F p o) (upd H p o) r st := by
  have sF : Same F (upd F p o) := fun b u q => by rw [upd_ne (ne_of_none q (h.freeF e))]; exact q
  refine ⟨sF, ⟨fun b u q => ?_, fun b u q => ?_, fun b q => ?_, h.len, h.nd, fun b m => ?_, fun i a o' e1 e2 => ?_, ⟨fun t ht => ?_, fun b ps => ?_, h.tb.nR⟩⟩⟩
  · by_cases hb : b = p
    · subst hb; rw [upd_same] at q ⊢; exact q
    · rw [upd_ne hb] at q ⊢; exact h.sF _ _ q
  · rw [upd_ne (ne_of_none q (h.freeR e))]; exact h.sR _ _ q
  · by_cases hb : b = p
    · rw [hb]; exact h.freeR e
    · rw [upd_ne hb] at q; exact h.dj b q
  · have hb : b ≠ p := fun z => h.notin e (z ▸ m)
    rw [upd_ne hb]; exact h.own b m
  · have hb : a ≠ p := fun z => h.notin e (z ▸ List.mem_of_getElem? e1)
    exact (h.ob i a o' e1 e2).mono sF (Ext.refl _) (upd_ne hb)
  · obtain ⟨t1, t2, t3, t4⟩ := h.tb.at_ t ht
    exact ⟨t1.ext fun b u q => by rw [upd_ne (ne_of_none q e)]; exact q, by rw [upd_ne (fun (z : t.1 = p) => tabs_here t1 (by rw [z]; exact e))]; exact t2, t3, t4⟩
  · by_cases hb : b = p
    · rw [hb, upd_same]; exact fun z => hn ps (Option.some.inj z)
    · rw [upd_ne hb]; exact h.tb.nF b ps
/-- a new object of the store -/
theorem Holds.fresh (h : Holds W Rs F H r st) {p : Addr} {o : HO} {b : Ob} (e : H p = none) (k : ObOk W F (r ++ [p]) (upd H p o) p b) : Holds W Rs F (upd H p o) (r ++ [p]) (st ++ [b]) := by
  refine ⟨fun c u q => ?_, fun c u q => ?_, h.dj, by simp [h.len], ?_, fun c m => ?_, fun i a o' e1 e2 => ?_, ⟨fun t ht => ?_, h.tb.nF, h.tb.nR⟩⟩
  · rw [upd_ne (ne_of_none q (h.freeF e))]; exact h.sF _ _ q
  · rw [upd_ne (ne_of_none q (h.freeR e))]; exact h.sR _ _ q
  · rw [List.nodup_append]
    refine ⟨h.nd, by simp, fun a ha b hb => ?_⟩
    have : b = p := by simpa using hb
    subst this
    exact fun z => h.notin e (z ▸ ha)
  · rcases List.mem_append.mp m with m | m
    · exact h.own c m
    · have : c = p := by simpa using m
      subst this
      exact ⟨h.freeF e, h.freeR e⟩
  · by_cases hi : i < r.length
    · rw [List.getElem?_append_left hi] at e1
      rw [List.getElem?_append_left (by rw [← h.len]; exact hi)] at e2
      have hb : a ≠ p := fun z => h.notin e (z ▸ List.mem_of_getElem? e1)
      exact (h.ob i a o' e1 e2).mono (Same.refl _) (Ext.snoc _ _) (upd_ne hb)
    · have hl : i = r.length := by
        have := (List.getElem?_eq_some_iff.mp e1).1
        simp at this; omega
      subst hl
      rw [List.getElem?_append_right (Nat.le_refl _)] at e1
      rw [List.getElem?_append_right (by rw [h.len]; exact Nat.le_refl _)] at e2
      simp at e1
      rw [h.len] at e2
      simp at e2
      subst e1; subst e2
      exact k
  · obtain ⟨t1, t2, t3, t4⟩ := h.tb.at_ t ht
    refine ⟨t1.ext fun b u q => by rw [upd_ne (ne_of_none q e)]; exact q, t2, t3, fun m => ?_⟩
    rcases List.mem_append.mp m with m | m
    · exact t4 m
    · exact tabs_here t1 (by rw [List.mem_singleton.mp m]; exact e)
/-- an object of the store is changed -/
theorem Holds.write (h : Holds W Rs F H r st) {n : Nat} {p : Addr} {o : HO} {b : Ob} (e : r[n]? = some p) (k : ObOk W F r (upd H p o) p b) : Holds W Rs F (upd H p o) r (st.set n b) := by
  have mp : p ∈ r := List.mem_of_getElem? e
  obtain ⟨o1, o2⟩ := h.own p mp
  refine ⟨fun c u q => ?_, fun c u q => ?_, h.dj, by simp [h.len], h.nd, h.own, fun i a o' e1 e2 => ?_, ⟨fun t ht => ?_, h.tb.nF, h.tb.nR⟩⟩
  · rw [upd_ne (fun z => by rw [z, o1] at q; cases q)]; exact h.sF _ _ q
  · rw [upd_ne (fun z => by rw [z, o2] at q; cases q)]; exact h.sR _ _ q
  · by_cases hi : i = n
    · subst hi
      rw [e] at e1; cases e1
      have hl : i < st.length := by rw [← h.len]; exact (List.getElem?_eq_some_iff.mp e).1
      rw [List.getElem?_set_self hl] at e2; cases e2
      exact k
    · rw [List.getElem?_set_ne (Ne.symm hi)] at e2
      have hb : a ≠ p := fun z => by
        subst z
        obtain ⟨h1, q1⟩ := List.getElem?_eq_some_iff.mp e
        obtain ⟨h2, q2⟩ := List.getElem?_eq_some_iff.mp e1
        exact hi ((List.getElem_inj h.nd).mp (q2.trans q1.symm))
      exact (h.ob i a o' e1 e2).mono (Same.refl _) (Ext.refl _) (upd_ne hb)
  · obtain ⟨t1, t2, t3, t4⟩ := h.tb.at_ t ht
    obtain ⟨u, hu, k1, k2⟩ := h.kindOf mp
    refine ⟨tabs_keep t1 fun a v q z => ?_, t2, t3, t4⟩
    rw [upd_ne fun w => ?_]
    · exact q
    · rw [w, hu] at q
      cases q
      rcases z with ⟨ps, z⟩ | ⟨φ, z⟩
      · exact k1 ps z
      · exact k2 φ z
theorem Holds.get (h : Holds W Rs F H r st) {n : Nat} {o : Ob} (e : st[n]? = some o) : ∃ a, r[n]? = some a ∧ ObOk W F r H a o := by
  have hl : n < r.length := by rw [h.len]; exact (List.getElem?_eq_some_iff.mp e).1
  exact ⟨r[n], by simp [hl], h.ob n _ o (by simp [hl]) e⟩
/-- all else is put aside -/
def isTbl : Option HO → Bool
  | some (.tbl _) => true
  | _ => false
end
/-- the slots hold what the environment says -/
structure EnvOk (F : Hp) (r : List Addr) (sg : St) (env : Env) : Prop where
  len : sg.length = env.length
  at_ : ∀ (i : Nat) (d : D), env[i]? = some (some d) → ∃ v, sg[i]? = some (some v) ∧ Rep F r v d
theorem EnvOk.mono {F F' : Hp} {r r' : List Addr} {sg : St} {env : Env} (s : Same F F') (x : Ext r r') (h : EnvOk F r sg env) : EnvOk F' r' sg env :=
  ⟨h.len, fun i d e => let ⟨v, q, k⟩ := h.at_ i d e; ⟨v, q, k.mono s x⟩⟩
theorem EnvOk.set {F : Hp} {r : List Addr} {sg : St} {env : Env} {v : V} {d : D} (h : EnvOk F r sg env) (k : Rep F r v d) (i : Nat) : EnvOk F r (sg.set i (some v)) (env.set i (some d)) := by
  refine ⟨by simp [h.len], fun j e q => ?_⟩
  by_cases hj : i = j
  · subst hj
    by_cases hl : i < env.length
    · rw [List.getElem?_set_self hl] at q; cases q
      exact ⟨v, by rw [List.getElem?_set_self (by rw [h.len]; exact hl)], k⟩
    · rw [List.getElem?_eq_none (by simp; omega)] at q; cases q
  · rw [List.getElem?_set_ne hj] at q ⊢
    exact h.at_ j e q
theorem EnvOk.start {F : Hp} {r : List Addr} {vs : List V} {ds : List D} {n : Nat} (h : Reps F r vs ds) : EnvOk F r (vs.map some ++ List.replicate (n - vs.length) none) (ds.map some ++ List.replicate (n - ds.length) none) := by
  have hl := h.length
  refine ⟨by simp [hl], fun i d e => ?_⟩
  by_cases hi : i < ds.length
  · rw [List.getElem?_append_left (by simpa using hi), List.getElem?_map] at e
    cases q : ds[i]? with
    | none => rw [q] at e; simp at e
    | some d' =>
      rw [q] at e; simp at e; subst e
      obtain ⟨v, h1, h2⟩ := h.get q
      exact ⟨v, by rw [List.getElem?_append_left (by simp; omega), List.getElem?_map, h1]; rfl, h2⟩
  · rw [List.getElem?_append_right (by simpa using hi), List.getElem?_replicate] at e
    split at e <;> simp at e
def PayOk (W : Wd) (F : Hp) (r : List Addr) (H : Hp) (c : Nat) (od : Option Addr) : Option D → Prop
  | none => od = none
  | some d => ∃ f a i, W.pay c = some f ∧ od = some a ∧ F a = some (.xd [(f, .int i)]) ∧ d = .int i
def ExcPost (W : Wd) (Rs F : Hp) (r : List Addr) (c : Nat) (p : Option D) (st' : Store) (E : XK) : Prop :=
  ∀ F' H' r' od, Same F F' → Ext r r' → Holds W Rs F' H' r' st' → PayOk W F' r' H' c od p → E (.ref (W.cls c)) od H'
def PostX {A : Type} (W : Wd) (Rs F : Hp) (r : List Addr) (res : R A) (K : A → Prop) (E : XK) : Prop := match res with
  | .ok a => K a
  | .exc c p st' => ExcPost W Rs F r c p st' E
  | .bad => False
def onE (W : Wd) (Rs F : Hp) (r : List Addr) (Q : VK) : D × Store → Prop := fun a => ∀ F' H' r' v, Same F F' → Ext r r' → Holds W Rs F' H' r' a.2 → Rep F' r' v a.1 → Q v H'
def onA (W : Wd) (Rs F : Hp) (r : List Addr) (Q : List V → Hp → Prop) : List D × Store → Prop := fun a => ∀ F' H' r' vs, Same F F' → Ext r r' → Holds W Rs F' H' r' a.2 → Reps F' r' vs a.1 → Q vs H'
def onT (W : Wd) (Rs F : Hp) (r : List Addr) (Q : Bool → Hp → Prop) : Bool × Store → Prop := fun a => ∀ F' H' r', Same F F' → Ext r r' → Holds W Rs F' H' r' a.2 → Q a.1 H'
abbrev Post (W : Wd) (Rs F : Hp) (r : List Addr) (res : R (D × Store)) (Q : VK) (E : XK) : Prop := PostX W Rs F r res (onE W Rs F r Q) E
abbrev PostA (W : Wd) (Rs F : Hp) (r : List Addr) (res : R (List D × Store)) (Q : List V → Hp → Prop) (E : XK) : Prop := PostX W Rs F r res (onA W Rs F r Q) E
abbrev PostT (W : Wd) (Rs F : Hp) (r : List Addr) (res : R (Bool × Store)) (Q : Bool → Hp → Prop) (E : XK) : Prop := PostX W Rs F r res (onT W Rs F r Q) E
theorem ExcPost.later {W : Wd} {Rs F F1 : Hp} {r r1 : List Addr} {c : Nat} {p : Option D} {st' : Store} {E : XK} (s : Same F F1) (x : Ext r r1) (h : ExcPost W Rs F r c p st' E) : ExcPost W Rs F1 r1 c p st' E :=
  fun F' H' r' od s' x' => h F' H' r' od (s.trans s') (x.trans x')
section
variable {W : Wd} {Rs F F1 : Hp} {r r1 : List Addr} {E : XK}
theorem bindX {A B : Type} {res : R A} {f : A → R B} {K : B → Prop} {K' : A → Prop} (h : PostX W Rs F r (res.bind f) K E) (k : ∀ a, res = .ok a → PostX W Rs F r (f a) K E → K' a) : PostX W Rs F r res K' E := by
  cases res with
  | ok a => exact k a rfl h
  | exc c p st' => exact h
  | bad => exact h
theorem PostX.imp {A : Type} {res : R A} {K K' : A → Prop} (s : Same F F1) (x : Ext r r1) (h : PostX W Rs F r res K E) (k : ∀ a, K a → K' a) : PostX W Rs F1 r1 res K' E := by
  cases res with
  | ok a => exact k a h
  | exc c p st' => exact ExcPost.later s x h
  | bad => exact h
theorem Post.later {res : R (D × Store)} {Q : VK} (s : Same F F1) (x : Ext r r1) (h : Post W Rs F r res Q E) : Post W Rs F1 r1 res Q E :=
  PostX.imp s x h fun _ q F' H' r' v s' x' => q F' H' r' v (s.trans s') (x.trans x')
theorem PostA.later {res : R (List D × Store)} {Q : List V → Hp → Prop} (s : Same F F1) (x : Ext r r1) (h : PostA W Rs F r res Q E) : PostA W Rs F1 r1 res Q E :=
  PostX.imp s x h fun _ q F' H' r' v s' x' => q F' H' r' v (s.trans s') (x.trans x')
theorem PostT.later {res : R (Bool × Store)} {Q : Bool → Hp → Prop} (s : Same F F1) (x : Ext r r1) (h : PostT W Rs F r res Q E) : PostT W Rs F1 r1 res Q E :=
  PostX.imp s x h fun _ q F' H' r' s' x' => q F' H' r' (s.trans s') (x.trans x')
end
abbrev EV := Env → Store → R (D × Store)
abbrev TV := Env → Store → R (Bool × Store)
abbrev AV := Env → Store → R (List D × Store)
/-- e means f -/
def tDE (W : Wd) (E : XK) (f : EV) : TE := fun sg H Q => ∃ Rs F r env st, Holds W Rs F H r st ∧ EnvOk F r sg env ∧ Post W Rs F r (f env st) Q E
def DE (W : Wd) (X : Cx) (E : XK) (e : Expr) (f : EV) : Prop := PE X e (tDE W E f)
theorem DE.mk {W : Wd} {X : Cx} {E : XK} {e : Expr} {f : EV} {t : TE} (p : PE X e t) (q : ∀ Rs F H r sg env st Q, Holds W Rs F H r st → EnvOk F r sg env → Post W Rs F r (f env st) Q E → t sg H Q) : DE W X E e f :=
  ⟨fun pins s sg H Q I ⟨Rs, F, r, env, st, a, b, c⟩ => p.run pins s sg H Q I (q Rs F H r sg env st Q a b c)⟩
theorem DE.ex {W : Wd} {X : Cx} {E : XK} {e : Expr} {f : EV} (h : DE W X E e f) : ∃ t, PE X e t ∧ ∀ Rs F H r sg env st Q, Holds W Rs F H r st → EnvOk F r sg env → Post W Rs F r (f env st) Q E → t sg H Q :=
  ⟨_, h, fun Rs F H r sg env st Q a b c => ⟨Rs, F, r, env, st, a, b, c⟩⟩
def tDT (W : Wd) (E : XK) (f : TV) : TT := fun sg H Q => ∃ Rs F r env st, Holds W Rs F H r st ∧ EnvOk F r sg env ∧ PostT W Rs F r (f env st) Q E
def DT (W : Wd) (X : Cx) (E : XK) (e : Expr) (f : TV) : Prop := PT X e (tDT W E f)
theorem DT.mk {W : Wd} {X : Cx} {E : XK} {e : Expr} {f : TV} {t : TT} (p : PT X e t) (q : ∀ Rs F H r sg env st Q, Holds W Rs F H r st → EnvOk F r sg env → PostT W Rs F r (f env st) Q E → t sg H Q) : DT W X E e f :=
  ⟨fun pins s sg H Q I ⟨Rs, F, r, env, st, a, b, c⟩ => p.run pins s sg H Q I (q Rs F H r sg env st Q a b c)⟩
theorem DT.ex {W : Wd} {X : Cx} {E : XK} {e : Expr} {f : TV} (h : DT W X E e f) : ∃ t, PT X e t ∧ ∀ Rs F H r sg env st Q, Holds W Rs F H r st → EnvOk F r sg env → PostT W Rs F r (f env st) Q E → t sg H Q :=
  ⟨_, h, fun Rs F H r sg env st Q a b c => ⟨Rs, F, r, env, st, a, b, c⟩⟩
def tDW (W : Wd) (E : XK) (f : TV) : TT := fun sg H Q => ∃ Rs F r env st, Holds W Rs F H r st ∧ EnvOk F r sg env ∧ PostT W Rs F r (f env st) Q E
def DW (W : Wd) (X : Cx) (E : XK) (e : Expr) (f : TV) : Prop := PW X e (tDW W E f)
theorem DW.mk {W : Wd} {X : Cx} {E : XK} {e : Expr} {f : TV} {t : TT} (p : PW X e t) (q : ∀ Rs F H r sg env st Q, Holds W Rs F H r st → EnvOk F r sg env → PostT W Rs F r (f env st) Q E → t sg H Q) : DW W X E e f :=
  ⟨fun wh pins s sg H Q I ⟨Rs, F, r, env, st, a, b, c⟩ => p.run wh pins s sg H Q I (q Rs F H r sg env st Q a b c)⟩
theorem DW.ex {W : Wd} {X : Cx} {E : XK} {e : Expr} {f : TV} (h : DW W X E e f) : ∃ t, PW X e t ∧ ∀ Rs F H r sg env st Q, Holds W Rs F H r st → EnvOk F r sg env → PostT W Rs F r (f env st) Q E → t sg H Q :=
  ⟨_, h, fun Rs F H r sg env st Q a b c => ⟨Rs, F, r, env, st, a, b, c⟩⟩
def tDA (W : Wd) (E : XK) (f : AV) : TA := fun sg H Q => ∃ Rs F r env st, Holds W Rs F H r st ∧ EnvOk F r sg env ∧ PostA W Rs F r (f env st) Q E
def DA (W : Wd) (X : Cx) (E : XK) (e : List Expr) (f : AV) : Prop := PA X e (tDA W E f)
theorem DA.mk {W : Wd} {X : Cx} {E : XK} {e : List Expr} {f : AV} {t : TA} (p : PA X e t) (q : ∀ Rs F H r sg env st Q, Holds W Rs F H r st → EnvOk F r sg env → PostA W Rs F r (f env st) Q E → t sg H Q) : DA W X E e f :=
  ⟨fun pos pins s sg H Q I ⟨Rs, F, r, env, st, a, b, c⟩ => p.run pos pins s sg H Q I (q Rs F H r sg env st Q a b c)⟩
theorem DA.ex {W : Wd} {X : Cx} {E : XK} {e : List Expr} {f : AV} (h : DA W X E e f) : ∃ t, PA X e t ∧ ∀ Rs F H r sg env st Q, Holds W Rs F H r st → EnvOk F r sg env → PostA W Rs F r (f env st) Q E → t sg H Q :=
  ⟨_, h, fun Rs F H r sg env st Q a b c => ⟨Rs, F, r, env, st, a, b, c⟩⟩
/-- the ends of a statement -/
inductive SR where
  | nx (env : Env) (st : Store)
  | rt (d : D) (st : Store)
  | bk (env : Env) (st : Store)
  | ct (env : Env) (st : Store)
  | exc (c : Nat) (p : Option D) (st : Store)
  | bad
abbrev SV := Env → Store → SR
def PostF (W : Wd) (Rs F : Hp) (r : List Addr) (env' : Env) (st' : Store) (N : St → Hp → Prop) : Prop :=
  ∀ F' H' r' sg', Same F F' → Ext r r' → Holds W Rs F' H' r' st' → EnvOk F' r' sg' env' → N sg' H'
theorem PostF.later {W : Wd} {Rs F F1 : Hp} {r r1 : List Addr} {env' : Env} {st' : Store} {N : St → Hp → Prop} (s : Same F F1) (x : Ext r r1) (h : PostF W Rs F r env' st' N) : PostF W Rs F1 r1 env' st' N :=
  fun F' H' r' sg' s' x' => h F' H' r' sg' (s.trans s') (x.trans x')
def PostS (W : Wd) (Rs F : Hp) (r : List Addr) (res : SR) (D : Ends) (E : XK) : Prop := match res with
  | .nx env' st' => PostF W Rs F r env' st' D.nx
  | .rt d st' => ∀ F' H' r' v, Same F F' → Ext r r' → Holds W Rs F' H' r' st' → Rep F' r' v d → D.rt v H'
  | .bk env' st' => PostF W Rs F r env' st' D.bk
  | .ct env' st' => PostF W Rs F r env' st' D.ct
  | .exc c p st' => ExcPost W Rs F r c p st' E
  | .bad => False
theorem PostS.later {W : Wd} {Rs F F1 : Hp} {r r1 : List Addr} {res : SR} {D : Ends} {E : XK} (s : Same F F1) (x : Ext r r1) (h : PostS W Rs F r res D E) : PostS W Rs F1 r1 res D E := by
  cases res with
  | nx e t => exact PostF.later s x h
  | rt d t => exact fun F' H' r' v s' x' => h F' H' r' v (s.trans s') (x.trans x')
  | bk e t => exact PostF.later s x h
  | ct e t => exact PostF.later s x h
  | exc c p st' => exact ExcPost.later s x h
  | bad => exact h
def tDS (W : Wd) (E : XK) (f : SV) : TS := fun D sg H => ∃ Rs F r env st, Holds W Rs F H r st ∧ EnvOk F r sg env ∧ PostS W Rs F r (f env st) D E
def DS (W : Wd) (X : Cx) (E : XK) (e : Stmt) (f : SV) : Prop := PS X e (tDS W E f)
theorem DS.mk {W : Wd} {X : Cx} {E : XK} {e : Stmt} {f : SV} {t : TS} (p : PS X e t) (q : ∀ Rs F H r sg env st D, Holds W Rs F H r st → EnvOk F r sg env → PostS W Rs F r (f env st) D E → t D sg H) : DS W X E e f :=
  ⟨fun pins s sg H D I ⟨Rs, F, r, env, st, a, b, c⟩ => p.run pins s sg H D I (q Rs F H r sg env st D a b c)⟩
theorem DS.ex {W : Wd} {X : Cx} {E : XK} {e : Stmt} {f : SV} (h : DS W X E e f) : ∃ t, PS X e t ∧ ∀ Rs F H r sg env st D, Holds W Rs F H r st → EnvOk F r sg env → PostS W Rs F r (f env st) D E → t D sg H :=
  ⟨_, h, fun Rs F H r sg env st D a b c => ⟨Rs, F, r, env, st, a, b, c⟩⟩
def tDB (W : Wd) (E : XK) (f : SV) : TS := fun D sg H => ∃ Rs F r env st, Holds W Rs F H r st ∧ EnvOk F r sg env ∧ PostS W Rs F r (f env st) D E
def DB (W : Wd) (X : Cx) (E : XK) (e : List Stmt) (f : SV) : Prop := PSs X e (tDB W E f)
theorem DB.mk {W : Wd} {X : Cx} {E : XK} {e : List Stmt} {f : SV} {t : TS} (p : PSs X e t) (q : ∀ Rs F H r sg env st D, Holds W Rs F H r st → EnvOk F r sg env → PostS W Rs F r (f env st) D E → t D sg H) : DB W X E e f :=
  ⟨fun pins s sg H D I ⟨Rs, F, r, env, st, a, b, c⟩ => p.run pins s sg H D I (q Rs F H r sg env st D a b c)⟩
theorem DB.ex {W : Wd} {X : Cx} {E : XK} {e : List Stmt} {f : SV} (h : DB W X E e f) : ∃ t, PSs X e t ∧ ∀ Rs F H r sg env st D, Holds W Rs F H r st → EnvOk F r sg env → PostS W Rs F r (f env st) D E → t D sg H :=
  ⟨_, h, fun Rs F H r sg env st D a b c => ⟨Rs, F, r, env, st, a, b, c⟩⟩
/-- a def's meaning -/
abbrev FV := List D → Store → R (D × Store)
/-- a def's promise: it means g, for n arguments -/
def spD (W : Wd) (n : Nat) (g : FV) : Sp := fun vs H Q E => ∃ Rs F r st ds, Holds W Rs F H r st ∧ Reps F r vs ds ∧ ds.length = n ∧ Post W Rs F r (g ds st) Q E
def funD (n : Nat) (b : SV) : FV := fun ds st => match b (ds.map some ++ List.replicate (n - ds.length) none) st with
  | .nx _ st' => .ok (.non, st')
  | .rt d st' => .ok (d, st')
  | .exc c p st' => .exc c p st'
  | _ => .bad
end Dl
namespace Dl
open PySem L2
section
variable {W : Wd} {X : Cx} {E : XK}
def eV (i : Nat) : EV := fun env st => match env[i]? with
  | some (some d) => .ok (d, st)
  | _ => .bad
def eC (d : D) : EV := fun _ st => .ok (d, st)
theorem onE_here {Rs F H : Hp} {r : List Addr} {st : Store} {Q : VK} {v : V} {d : D} (h : Holds W Rs F H r st) (k : Rep F r v d) (q : onE W Rs F r Q (d, st)) : Q v H := q F H r v (Same.refl _) (Ext.refl _) h k
theorem de_var {i : Nat} {x : Str} {pos : Pos} (hN : X.N[i]? = some x) (hv : Vis X.env.scope x) (hd : (x == ("__debug__" : Str)) = false := by decide) (hcd : (x == ("__classdict__" : Str)) = false := by decide) : DE W X E (.Name x pos) (eV i) := by
  refine .mk (pe_var hN hv hd hcd) fun Rs F H r sg env st Q hH hE hP => ?_
  unfold eV at hP
  split at hP
  · rename_i d e
    obtain ⟨v, h1, h2⟩ := hE.at_ i d e
    exact ⟨v, h1, onE_here hH h2 hP⟩
  · exact hP.elim
theorem de_c {e : Expr} {v : V} {d : D} (h : PE X e (tC v)) (k : ∀ F r, Rep F r v d) : DE W X E e (eC d) :=
  .mk h fun Rs F H r sg env st Q hH hE hP => onE_here hH (k F r) hP
theorem de_int {i j pos} : DE W X E (.Constant (.int i) j pos) (eC (.int i)) := de_c pe_int fun _ _ => .int i
theorem de_bl {b j pos} : DE W X E (.Constant (.bool b) j pos) (eC (.bl b)) := de_c pe_bl fun _ _ => .bl b
theorem de_non {j pos} : DE W X E (.Constant .none j pos) (eC .non) := de_c pe_non fun _ _ => .non
theorem rep_str {x : Str} {s : List Nat} (h : x.cps.toList = s) (a : (s.all (fun c => decide (c < 128)) && decide (s.length ≤ LIM)) = true) (F : Hp) (r : List Addr) : Rep F r (.str x) (.str s) := by
  have e : x = ⟨s.toArray⟩ := by subst h; cases x; rfl
  rw [Bool.and_eq_true] at a
  rw [e]
  exact .str s a.1 (of_decide_eq_true a.2)
theorem de_str {x : Str} {s : List Nat} {j pos} (h : x.cps.toList = s) (a : (s.all (fun c => decide (c < 128)) && decide (s.length ≤ LIM)) = true) : DE W X E (.Constant (.str x) j pos) (eC (.str s)) := de_c pe_str (rep_str h a)
/-- a constant of the module -/
theorem de_globI {x : Str} {i : Int} {t : Tok} {pos : Pos} (hg : Gl X x) (hm : X.mg x = some (.int i t)) (hd : (x == ("__debug__" : Str)) = false := by decide) : DE W X E (.Name x pos) (eC (.int i)) := de_c (pe_glob hg hm (v := .int i) ⟨_, rfl⟩ hd) fun _ _ => .int i
theorem de_globS {x y : Str} {s : List Nat} {t : Tok} {pos : Pos} (hg : Gl X x) (hm : X.mg x = some (.str y t)) (h : y.cps.toList = s) (a : (s.all (fun c => decide (c < 128)) && decide (s.length ≤ LIM)) = true) (hd : (x == ("__debug__" : Str)) = false := by decide) : DE W X E (.Name x pos) (eC (.str s)) :=
  de_c (pe_glob hg hm (v := .str y) ⟨_, rfl⟩ hd) (rep_str h a)
abbrev G2 := Store → D → D → R (D × Store)
def eOp (g : G2) (fa fb : EV) : EV := fun env st => (fa env st).bind fun a => (fb env a.2).bind fun b => g b.2 a.1 b.1
/-- an operation of two values means g -/
def DOp (W : Wd) (X : Cx) (f : Value → Value → Sem Value) (g : G2) : Prop :=
  ∃ r, OpR X f r ∧ ∀ Rs F H rr st x y dx dy Q E, Holds W Rs F H rr st → Rep F rr x dx → Rep F rr y dy → Post W Rs F rr (g st dx dy) Q E → r x y H Q
theorem eOp_post {ta tb : TE} {rd : R2} {fa fb : EV} {g : G2}
    (qa : ∀ Rs F H r sg env st Q, Holds W Rs F H r st → EnvOk F r sg env → Post W Rs F r (fa env st) Q E → ta sg H Q)
    (qb : ∀ Rs F H r sg env st Q, Holds W Rs F H r st → EnvOk F r sg env → Post W Rs F r (fb env st) Q E → tb sg H Q)
    (qr : ∀ Rs F H rr st x y dx dy Q E, Holds W Rs F H rr st → Rep F rr x dx → Rep F rr y dy → Post W Rs F rr (g st dx dy) Q E → rd x y H Q)
    {Rs F H r sg env st Q} (hH : Holds W Rs F H r st) (hE : EnvOk F r sg env) (hP : Post W Rs F r (eOp g fa fb env st) Q E) : tOp rd ta tb sg H Q := by
  refine qa Rs F H r sg env st _ hH hE (bindX hP fun a ea q F1 H1 r1 v1 s1 x1 h1 k1 => ?_)
  refine qb Rs F1 H1 r1 sg env a.2 _ h1 (hE.mono s1 x1) (bindX (Post.later s1 x1 (res := (fb env a.2).bind _) q) fun b eb q2 F2 H2 r2 v2 s2 x2 h2 k2 => ?_)
  exact qr Rs F2 H2 r2 b.2 v1 v2 a.1 b.1 Q E h2 (k1.mono s2 x2) k2 (Post.later s2 x2 q2)
variable {a b : Expr} {fa fb : EV} {pos : Pos}
theorem de_op {op : Operator} {g : G2} (ho : DOp W X (binaryOp op) g) (ha : DE W X E a fa) (hb : DE W X E b fb) : DE W X E (.BinOp a op b pos) (eOp g fa fb) := by
  obtain ⟨r, hr, qr⟩ := ho
  obtain ⟨ta, pa, qa⟩ := ha.ex
  obtain ⟨tb, pb, qb⟩ := hb.ex
  exact .mk (pe_op hr pa pb) fun Rs F H rr sg env st Q hH hE hP => eOp_post qa qb qr hH hE hP
theorem de_cmp {op : CmpOp} {g : G2} (ho : DOp W X (compareOp op) g) (ha : DE W X E a fa) (hb : DE W X E b fb) (hm : behindInMarks op b = false) : DE W X E (.Compare a [op] [b] pos) (eOp g fa fb) := by
  obtain ⟨r, hr, qr⟩ := ho
  obtain ⟨ta, pa, qa⟩ := ha.ex
  obtain ⟨tb, pb, qb⟩ := hb.ex
  exact .mk (pe_cmpR hr pa pb hm) fun Rs F H rr sg env st Q hH hE hP => eOp_post qa qb qr hH hE hP
/-- a value that is a bool, as a test -/
def tv (f : EV) : TV := fun env st => (f env st).bind fun a => match a.1 with
  | .bl b => .ok (b, a.2)
  | _ => .bad
theorem tv_post {ta : TE} {f : EV} (qa : ∀ Rs F H r sg env st Q, Holds W Rs F H r st → EnvOk F r sg env → Post W Rs F r (f env st) Q E → ta sg H Q)
    {Rs F H r sg env st} {Q : Bool → Hp → Prop} (hH : Holds W Rs F H r st) (hE : EnvOk F r sg env) (hP : PostT W Rs F r (tv f env st) Q E) : ta sg H fun x H1 => ∃ k, x = .bl k ∧ Q k H1 := by
  refine qa Rs F H r sg env st _ hH hE (bindX hP fun a ea q F1 H1 r1 v1 s1 x1 h1 k1 => ?_)
  obtain ⟨d, st1⟩ := a
  cases d with
  | bl c => cases k1; exact ⟨c, rfl, q F1 H1 r1 s1 x1 h1⟩
  | _ => exact q.elim
theorem dt_cmp {op : CmpOp} {g : G2} (ho : DOp W X (compareOp op) g) (ha : DE W X E a fa) (hb : DE W X E b fb) (hm : behindInMarks op b = false) : DT W X E (.Compare a [op] [b] pos) (tv (eOp g fa fb)) := by
  obtain ⟨r, hr, qr⟩ := ho
  obtain ⟨ta, pa, qa⟩ := ha.ex
  obtain ⟨tb, pb, qb⟩ := hb.ex
  exact .mk (pt_cmpR hr pa pb hm) fun Rs F H rr sg env st Q hH hE hP => tv_post (fun Rs F H r sg env st Q hH hE hP => eOp_post qa qb qr hH hE hP) hH hE hP
theorem dt_val {e : Expr} {f : EV} (h : DE W X E e f) (he : ∀ whole, isTrue e X.env whole = (do let v ← whole; standAt e.pos; holding [v] (truthy v)) := by intro _; rfl) : DT W X E e (tv f) := by
  obtain ⟨t, p, q⟩ := h.ex
  exact .mk (pt_val p he) fun Rs F H rr sg env st Q hH hE hP => tv_post q hH hE hP
/-- a < b < c -/
def eChain (g g' : G2) (fa fb fc : EV) : EV := fun env st => (fa env st).bind fun a => (fb env a.2).bind fun b => (g b.2 a.1 b.1).bind fun z => match z.1 with
  | .bl true => (fc env z.2).bind fun c => g' c.2 b.1 c.1
  | .bl false => .ok (.bl false, z.2)
  | _ => .bad
theorem chain_post {c : Expr} {ta tb tc : TE} {rd rd' : R2} {fa fb fc : EV} {g g' : G2}
    (qa : ∀ Rs F H r sg env st Q, Holds W Rs F H r st → EnvOk F r sg env → Post W Rs F r (fa env st) Q E → ta sg H Q)
    (qb : ∀ Rs F H r sg env st Q, Holds W Rs F H r st → EnvOk F r sg env → Post W Rs F r (fb env st) Q E → tb sg H Q)
    (qc : ∀ Rs F H r sg env st Q, Holds W Rs F H r st → EnvOk F r sg env → Post W Rs F r (fc env st) Q E → tc sg H Q)
    (qr : ∀ Rs F H rr st x y dx dy Q E, Holds W Rs F H rr st → Rep F rr x dx → Rep F rr y dy → Post W Rs F rr (g st dx dy) Q E → rd x y H Q)
    (qr' : ∀ Rs F H rr st x y dx dy Q E, Holds W Rs F H rr st → Rep F rr x dx → Rep F rr y dy → Post W Rs F rr (g' st dx dy) Q E → rd' x y H Q)
    {Rs F H r sg env st Q} (hH : Holds W Rs F H r st) (hE : EnvOk F r sg env) (hP : Post W Rs F r (eChain g g' fa fb fc env st) Q E) : tChain rd rd' ta tb tc sg H Q := by
  refine qa Rs F H r sg env st _ hH hE (bindX hP fun a ea q F1 H1 r1 v1 s1 x1 h1 k1 => ?_)
  refine qb Rs F1 H1 r1 sg env a.2 _ h1 (hE.mono s1 x1) (bindX (Post.later s1 x1 (res := (fb env a.2).bind _) q) fun b eb q2 F2 H2 r2 v2 s2 x2 h2 k2 => ?_)
  refine qr Rs F2 H2 r2 b.2 v1 v2 a.1 b.1 _ E h2 (k1.mono s2 x2) k2 (bindX (Post.later s2 x2 (res := (g b.2 a.1 b.1).bind _) q2) fun z ez q3 F3 H3 r3 v3 s3 x3 h3 k3 => ?_)
  obtain ⟨dz, st3⟩ := z
  cases dz with
  | bl k =>
    cases k3
    refine ⟨k, rfl, ?_⟩
    cases k with
    | true =>
      show tc sg H3 fun u H4 => rd' v2 u H4 Q
      refine qc Rs F3 H3 r3 sg env st3 _ h3 (hE.mono ((s1.trans s2).trans s3) ((x1.trans x2).trans x3)) (bindX (Post.later s3 x3 (res := (fc env st3).bind _) q3) fun c ec q4 F4 H4 r4 v4 s4 x4 h4 k4 => ?_)
      exact qr' Rs F4 H4 r4 c.2 v2 v4 b.1 c.1 Q E h4 (k2.mono (s3.trans s4) (x3.trans x4)) k4 (Post.later s4 x4 q4)
    | false => exact q3 F3 H3 r3 (.bl false) s3 x3 h3 (.bl false)
  | _ => exact q3.elim
theorem de_chain {c : Expr} {fc : EV} {op op' : CmpOp} {g g' : G2} (ho : DOp W X (compareOp op) g) (ho' : DOp W X (compareOp op') g') (ha : DE W X E a fa) (hb : DE W X E b fb) (hc : DE W X E c fc)
    (hm : lastMarks [op, op'] [b, c] = false) : DE W X E (.Compare a [op, op'] [b, c] pos) (eChain g g' fa fb fc) := by
  obtain ⟨r, hr, qr⟩ := ho
  obtain ⟨r', hr', qr'⟩ := ho'
  obtain ⟨ta, pa, qa⟩ := ha.ex
  obtain ⟨tb, pb, qb⟩ := hb.ex
  obtain ⟨tc, pc, qc⟩ := hc.ex
  exact .mk (pe_chain hr hr' pa pb pc hm) fun Rs F H rr sg env st Q hH hE hP => chain_post (c := c) qa qb qc qr qr' hH hE hP
theorem dt_chain {c : Expr} {fc : EV} {op op' : CmpOp} {g g' : G2} (ho : DOp W X (compareOp op) g) (ho' : DOp W X (compareOp op') g') (ha : DE W X E a fa) (hb : DE W X E b fb) (hc : DE W X E c fc)
    (hm : lastMarks [op, op'] [b, c] = false) : DT W X E (.Compare a [op, op'] [b, c] pos) (tv (eChain g g' fa fb fc)) := by
  obtain ⟨r, hr, qr⟩ := ho
  obtain ⟨r', hr', qr'⟩ := ho'
  obtain ⟨ta, pa, qa⟩ := ha.ex
  obtain ⟨tb, pb, qb⟩ := hb.ex
  obtain ⟨tc, pc, qc⟩ := hc.ex
  exact .mk (pt_chain hr hr' pa pb pc hm) fun Rs F H rr sg env st Q hH hE hP => tv_post (fun Rs F H r sg env st Q hH hE hP => chain_post (c := c) qa qb qc qr qr' hH hE hP) hH hE hP
def tAndD (f g : TV) : TV := fun env st => (f env st).bind fun a => if a.1 = true then g env a.2 else .ok (false, a.2)
def tOrD (f g : TV) : TV := fun env st => (f env st).bind fun a => if a.1 = true then .ok (true, a.2) else g env a.2
def tNotD (f : TV) : TV := fun env st => (f env st).bind fun a => .ok (!a.1, a.2)
variable {rest : List Expr} {ga gb : TV}
theorem onT_here {Rs F H : Hp} {r : List Addr} {st : Store} {Q : Bool → Hp → Prop} {b : Bool} (h : Holds W Rs F H r st) (q : onT W Rs F r Q (b, st)) : Q b H := q F H r (Same.refl _) (Ext.refl _) h
theorem dw_and1 (h : DT W X E a ga) : DW W X E (.BoolOp .And [a] pos) ga := let ⟨t, p, q⟩ := h.ex; .mk (pw_and1 p) q
theorem dw_or1 (h : DT W X E a ga) : DW W X E (.BoolOp .Or [a] pos) ga := let ⟨t, p, q⟩ := h.ex; .mk (pw_or1 p) q
theorem dw_and (ha : DT W X E a ga) (hb : DW W X E (.BoolOp .And (b :: rest) pos) gb) : DW W X E (.BoolOp .And (a :: b :: rest) pos) (tAndD ga gb) := by
  obtain ⟨ta, pa, qa⟩ := ha.ex
  obtain ⟨tb, pb, qb⟩ := hb.ex
  refine .mk (pw_and pa pb) fun Rs F H rr sg env st Q hH hE hP => ?_
  refine qa Rs F H rr sg env st _ hH hE (bindX hP fun a ea q F1 H1 r1 s1 x1 h1 => ?_)
  obtain ⟨c, st1⟩ := a
  cases c with
  | true => exact qb Rs F1 H1 r1 sg env st1 Q h1 (hE.mono s1 x1) (PostT.later s1 x1 q)
  | false => exact q F1 H1 r1 s1 x1 h1
theorem dw_or (ha : DT W X E a ga) (hb : DW W X E (.BoolOp .Or (b :: rest) pos) gb) : DW W X E (.BoolOp .Or (a :: b :: rest) pos) (tOrD ga gb) := by
  obtain ⟨ta, pa, qa⟩ := ha.ex
  obtain ⟨tb, pb, qb⟩ := hb.ex
  refine .mk (pw_or pa pb) fun Rs F H rr sg env st Q hH hE hP => ?_
  refine qa Rs F H rr sg env st _ hH hE (bindX hP fun a ea q F1 H1 r1 s1 x1 h1 => ?_)
  obtain ⟨c, st1⟩ := a
  cases c with
  | true => exact q F1 H1 r1 s1 x1 h1
  | false => exact qb Rs F1 H1 r1 sg env st1 Q h1 (hE.mono s1 x1) (PostT.later s1 x1 q)
theorem dt_w (h : DW W X E a ga) : DT W X E a ga := let ⟨t, p, q⟩ := h.ex; .mk (p.pt) q
theorem dt_not (h : DT W X E a ga) : DT W X E (.UnaryOp .Not a pos) (tNotD ga) := by
  obtain ⟨ta, pa, qa⟩ := h.ex
  refine .mk (pt_not pa) fun Rs F H rr sg env st Q hH hE hP => ?_
  exact qa Rs F H rr sg env st _ hH hE (bindX hP fun a ea q F1 H1 r1 s1 x1 h1 => q F1 H1 r1 s1 x1 h1)
def eAnd (f g : EV) : EV := fun env st => (f env st).bind fun a => match a.1 with
  | .bl true => g env a.2
  | .bl false => .ok (.bl false, a.2)
  | _ => .bad
def eOr (f g : EV) : EV := fun env st => (f env st).bind fun a => match a.1 with
  | .bl true => .ok (.bl true, a.2)
  | .bl false => g env a.2
  | _ => .bad
def eNot (f : EV) : EV := fun env st => (f env st).bind fun a => match a.1 with
  | .bl b => .ok (.bl (!b), a.2)
  | _ => .bad
theorem de_one {op} {f : EV} (h : DE W X E a f) : DE W X E (.BoolOp op [a] pos) f := let ⟨t, p, q⟩ := h.ex; .mk (pe_one p) q
theorem de_and (ha : DE W X E a fa) (hb : DE W X E (.BoolOp .And (b :: rest) pos) fb) : DE W X E (.BoolOp .And (a :: b :: rest) pos) (eAnd fa fb) := by
  obtain ⟨ta, pa, qa⟩ := ha.ex
  obtain ⟨tb, pb, qb⟩ := hb.ex
  refine .mk (pe_and pa pb) fun Rs F H rr sg env st Q hH hE hP => ?_
  refine qa Rs F H rr sg env st _ hH hE (bindX hP fun a ea q F1 H1 r1 v1 s1 x1 h1 k1 => ?_)
  obtain ⟨d, st1⟩ := a
  cases d with
  | bl c =>
    cases k1
    refine ⟨c, rfl, ?_⟩
    cases c with
    | true => exact qb Rs F1 H1 r1 sg env st1 Q h1 (hE.mono s1 x1) (Post.later s1 x1 q)
    | false => exact q F1 H1 r1 _ s1 x1 h1 (.bl false)
  | _ => exact q.elim
theorem de_not (h : DE W X E a fa) : DE W X E (.UnaryOp .Not a pos) (eNot fa) := by
  obtain ⟨ta, pa, qa⟩ := h.ex
  refine .mk (pe_not pa) fun Rs F H rr sg env st Q hH hE hP => ?_
  refine qa Rs F H rr sg env st _ hH hE (bindX hP fun a ea q F1 H1 r1 v1 s1 x1 h1 k1 => ?_)
  obtain ⟨d, st1⟩ := a
  cases d with
  | bl c => cases k1; exact ⟨c, rfl, q F1 H1 r1 _ s1 x1 h1 (.bl _)⟩
  | _ => exact q.elim
def eIf (t : TV) (f g : EV) : EV := fun env st => (t env st).bind fun a => if a.1 = true then f env a.2 else g env a.2
theorem de_if {c : Expr} (hc : DT W X E c ga) (ha : DE W X E a fa) (hb : DE W X E b fb) : DE W X E (.IfExp c a b pos) (eIf ga fa fb) := by
  obtain ⟨tc, pc, qc⟩ := hc.ex
  obtain ⟨ta, pa, qa⟩ := ha.ex
  obtain ⟨tb, pb, qb⟩ := hb.ex
  refine .mk (pe_ifExp pc pa pb) fun Rs F H rr sg env st Q hH hE hP => ?_
  refine qc Rs F H rr sg env st _ hH hE (bindX hP fun a ea q F1 H1 r1 s1 x1 h1 => ?_)
  obtain ⟨c, st1⟩ := a
  cases c with
  | true => exact qa Rs F1 H1 r1 sg env st1 Q h1 (hE.mono s1 x1) (Post.later s1 x1 q)
  | false => exact qb Rs F1 H1 r1 sg env st1 Q h1 (hE.mono s1 x1) (Post.later s1 x1 q)
def aNil : AV := fun _ st => .ok ([], st)
def aCons (f : EV) (g : AV) : AV := fun env st => (f env st).bind fun a => (g env a.2).bind fun b => .ok (a.1 :: b.1, b.2)
theorem da_nil : DA W X E [] aNil := .mk pa_nil fun Rs F H rr sg env st Q hH hE hP => hP F H rr [] (Same.refl _) (Ext.refl _) hH .nil
theorem da_cons {e : Expr} {es : List Expr} {f : EV} {g : AV} (he : DE W X E e f) (hr : DA W X E es g) (hs : starEach (e :: es) X.env = (false, eval e X.env) :: starEach es X.env := by rfl) : DA W X E (e :: es) (aCons f g) := by
  obtain ⟨te, pe, qe⟩ := he.ex
  obtain ⟨tr, pr, qr⟩ := hr.ex
  refine .mk (pa_cons pe pr hs) fun Rs F H rr sg env st Q hH hE hP => ?_
  refine qe Rs F H rr sg env st _ hH hE (bindX hP fun a ea q F1 H1 r1 v1 s1 x1 h1 k1 => ?_)
  refine qr Rs F1 H1 r1 sg env a.2 _ h1 (hE.mono s1 x1) (bindX (PostA.later s1 x1 (res := (g env a.2).bind _) q) fun b eb q2 F2 H2 r2 vs s2 x2 h2 k2 => ?_)
  exact q2 F2 H2 r2 (v1 :: vs) s2 x2 h2 (.cons (k1.mono s2 x2) k2)
/-- a list laid: frozen, or into the store -/
def newL (m : Bool) (ds : List D) (st : Store) : R (D × Store) := if m = true then .ok (.ref st.length, st ++ [.lst ds]) else .ok (.lst ds, st)
theorem newL_post {m : Bool} {Rs F H : Hp} {r : List Addr} {st : Store} {Q : VK} {vs : List V} {ds : List D} {p : Addr} (h : Holds W Rs F H r st) (k : Reps F r vs ds) (q : Post W Rs F r (newL m ds st) Q E) (e : H p = none) : Q (.ref p) (upd H p (.lst vs)) := by
  unfold newL at q
  cases m with
  | true =>
    refine q F (upd H p (.lst vs)) (r ++ [p]) (.ref p) (Same.refl _) (Ext.snoc _ _) (h.fresh e ⟨vs, upd_same, k.mono (Same.refl _) (Ext.snoc _ _)⟩) (.ref ?_)
    show (r ++ [p])[st.length]? = some p
    rw [← h.len, List.getElem?_append_right (Nat.le_refl _)]; simp
  | false =>
    obtain ⟨s, h'⟩ := h.frozen (o := .lst vs) e
    exact q _ _ r (.ref p) s (Ext.refl _) h' (.lst upd_same (k.mono s (Ext.refl _)))
theorem tup_post {Rs F H : Hp} {r : List Addr} {st : Store} {Q : VK} {vs : List V} {ds : List D} {p : Addr} (h : Holds W Rs F H r st) (k : Reps F r vs ds) (q : onE W Rs F r Q (.tup ds, st)) (e : H p = none) : Q (.ref p) (upd H p (.tup vs)) := by
  obtain ⟨s, h'⟩ := h.frozen (o := .tup vs) e
  exact q _ _ r (.ref p) s (Ext.refl _) h' (.tup upd_same (k.mono s (Ext.refl _)))
theorem lim_line {n : Nat} (h : n ≤ LIM) : n ≤ sizeLine := Nat.le_trans h (by decide)
theorem lim_lt {n : Nat} (h : n ≤ LIM) : n < sizeLine := Nat.lt_of_le_of_lt h (by decide)
def eTup (g : AV) : EV := fun env st => (g env st).bind fun a => if a.1.length ≤ LIM then .ok (.tup a.1, a.2) else .bad
def eLst (m : Bool) (g : AV) : EV := fun env st => (g env st).bind fun a => if a.1.length ≤ LIM then newL m a.1 a.2 else .bad
theorem de_tup {es : List Expr} {g : AV} {x1} (h : DA W X E es g) : DE W X E (.Tuple es x1 pos) (eTup g) := by
  obtain ⟨t, p, q⟩ := h.ex
  refine .mk (pe_tup p) fun Rs F H rr sg env st Q hH hE hP => ?_
  refine q Rs F H rr sg env st _ hH hE (bindX hP fun a ea q F1 H1 r1 vs s1 x1 h1 k1 => ?_)
  by_cases hl : a.1.length ≤ LIM
  · rw [if_pos hl] at q
    exact ⟨by rw [k1.length]; exact lim_line hl, fun pp hp => tup_post h1 k1 (Post.later s1 x1 (res := .ok (.tup a.1, a.2)) q) hp⟩
  · rw [if_neg hl] at q; exact q.elim
theorem de_lst (m : Bool) {es : List Expr} {g : AV} (h : DA W X E es g) : DE W X E (.List es pos) (eLst m g) := by
  obtain ⟨t, p, q⟩ := h.ex
  refine .mk (pe_lst p) fun Rs F H rr sg env st Q hH hE hP => ?_
  refine q Rs F H rr sg env st _ hH hE (bindX hP fun a ea q F1 H1 r1 vs s1 x1 h1 k1 => ?_)
  by_cases hl : a.1.length ≤ LIM
  · rw [if_pos hl] at q
    exact ⟨by rw [k1.length]; exact lim_line hl, fun pp hp => newL_post (m := m) h1 k1 (Post.later s1 x1 q) hp⟩
  · rw [if_neg hl] at q; exact q.elim
end
def lstOf (st : Store) : D → Option (List D)
  | .lst ds => some ds
  | .ref n => match st[n]? with
    | some (.lst ds) => some ds
    | _ => none
  | _ => none
theorem lstOf_ok {W : Wd} {Rs F H : Hp} {r : List Addr} {st : Store} {v : V} {d : D} {ds : List D} (h : Holds W Rs F H r st) (k : Rep F r v d) (e : lstOf st d = some ds) : ∃ a vs, v = .ref a ∧ H a = some (.lst vs) ∧ Reps F r vs ds := by
  cases k with
  | lst q k => cases e; exact ⟨_, _, rfl, h.sF _ _ q, k⟩
  | @ref a n q =>
    unfold lstOf at e
    simp only at e
    split at e
    · rename_i ds' e'
      cases e
      have hh := h.ob n a _ q e'
      obtain ⟨vs, e1, k⟩ := hh
      exact ⟨a, vs, rfl, e1, k⟩
    · cases e
  | _ => cases e
end Dl
namespace Dl
open PySem L2
section
variable {W : Wd} {X : Cx} {E : XK}
theorem DOp.of {f : Value → Value → Sem Value} {r : R2} {g : G2} (h : OpR X f r) (k : ∀ Rs F H rr st x y dx dy Q E, Holds W Rs F H rr st → Rep F rr x dx → Rep F rr y dy → Post W Rs F rr (g st dx dy) Q E → r x y H Q) : DOp W X f g := ⟨r, h, k⟩
def optAll {A : Type} : List (Option A) → Option (List A)
  | [] => some []
  | none :: _ => none
  | some a :: r => match optAll r with
    | some l => some (a :: l)
    | none => none
def toP (st : Store) : Nat → D → Option PyData
  | 0, _ => none
  | n + 1, d => match d with
    | .non => some .none
    | .bl b => some (.bool b)
    | .int i => some (.int i)
    | .str s => some (.str ⟨s.toArray⟩)
    | .tup ds => match optAll (ds.map (toP st n)) with
      | some ps => some (.tuple ps)
      | none => none
    | .lst ds => match optAll (ds.map (toP st n)) with
      | some ps => some (.list ps)
      | none => none
    | .ref k => match st[k]? with
      | some (.lst ds) => match optAll (ds.map (toP st n)) with
        | some ps => some (.list ps)
        | none => none
      | _ => none
    | .scr _ => none
    | .exn _ _ => none
theorem strOk_of {s : List Nat} (h : s.all (fun c => decide (c < 128)) = true) : PyData.strOk ⟨s.toArray⟩ = true := by
  unfold PyData.strOk
  rw [List.all_eq_true] at h
  simp only [List.size_toArray, List.all_toArray', List.all_eq_true, decide_eq_true_eq]
  intro x hx
  have := of_decide_eq_true (h x hx)
  omega
section
variable {Rs F H : Hp} {r : List Addr} {st : Store}
theorem toP_ok (h : Holds W Rs F H r st) : ∀ (n : Nat) (d : D) (v : V) (p : PyData), Rep F r v d → toP st n d = some p → Dp W.K H v p ∧ p.canLay0 = true ∧ p.depth ≤ n
  | 0, _, _, _, _, e => by cases e
  | n + 1, d, v, p, k, e => by
    have all : ∀ (ds : List D) (vs : List V) (ps : List PyData), Reps F r vs ds → optAll (ds.map (toP st n)) = some ps → DpAll W.K H vs ps ∧ PyData.canLayAll0 ps = true ∧ PyData.depthAll ps ≤ n := by
      intro ds
      induction ds with
      | nil => intro vs ps k e; cases k; cases e; exact ⟨.nil, rfl, Nat.zero_le _⟩
      | cons d ds ih =>
        intro vs ps k e
        cases k with
        | cons k1 k2 =>
          rw [List.map_cons] at e
          cases e1 : toP st n d with
          | none => rw [e1] at e; cases e
          | some p1 =>
            rw [e1] at e
            unfold optAll at e
            cases e2 : optAll (ds.map (toP st n)) with
            | none => rw [e2] at e; cases e
            | some ps2 =>
              rw [e2] at e
              cases e
              obtain ⟨a1, a2, a3⟩ := toP_ok h n d _ _ k1 e1
              obtain ⟨b1, b2, b3⟩ := ih _ _ k2 e2
              refine ⟨.cons a1 b1, ?_, ?_⟩
              · unfold PyData.canLayAll0; rw [a2, b2]; rfl
              · unfold PyData.depthAll; omega
    cases k with
    | non => cases e; exact ⟨.non, rfl, Nat.zero_le _⟩
    | bl b => cases e; exact ⟨.bl b, rfl, Nat.zero_le _⟩
    | int i => cases e; exact ⟨.int i, rfl, Nat.zero_le _⟩
    | str s a l => cases e; exact ⟨.str _, strOk_of a, Nat.zero_le _⟩
    | scr q => cases e
    | exn0 => cases e
    | exn1 q => cases e
    | tup q k =>
      unfold toP at e
      simp only at e
      split at e
      · rename_i ps e'
        cases e
        obtain ⟨a1, a2, a3⟩ := all _ _ _ k e'
        refine ⟨.tup (.of (h.sF _ _ q)) a1, ?_, ?_⟩
        · unfold PyData.canLay0; exact a2
        · unfold PyData.depth; omega
      · cases e
    | lst q k =>
      unfold toP at e
      simp only at e
      split at e
      · rename_i ps e'
        cases e
        obtain ⟨a1, a2, a3⟩ := all _ _ _ k e'
        refine ⟨.lst (.of (h.sF _ _ q)) a1, ?_, ?_⟩
        · unfold PyData.canLay0; exact a2
        · unfold PyData.depth; omega
      · cases e
    | @ref a m q =>
      unfold toP at e
      simp only at e
      split at e
      · rename_i ds e0
        split at e
        · rename_i ps e'
          cases e
          obtain ⟨vs, q', k⟩ := h.ob m a _ q e0
          obtain ⟨a1, a2, a3⟩ := all _ _ _ k e'
          refine ⟨.lst (.of q') a1, ?_, ?_⟩
          · unfold PyData.canLay0; exact a2
          · unfold PyData.depth; omega
        · cases e
      · cases e
end
def eqG (neg : Bool) : G2 := fun st d e => match toP st 40 d, toP st 40 e with
  | some p, some q => .ok (.bl (if neg = true then !PyData.eqv p q else PyData.eqv p q), st)
  | _, _ => .bad
theorem shaped_of {p : PyData} (a : p.canLay0 = true) (b : p.depth ≤ 40) : SeqAt.shaped p = true := by
  unfold SeqAt.shaped
  rw [a, decide_eq_true (show p.depth ≤ 64 by omega)]; rfl
theorem dop_eq (hK : X.K = W.K) (hu : X.A.units + 64 < cLine) : DOp W X (compareOp .Eq) (eqG false) := .of (op_eqD hu) fun Rs F H rr st x y dx dy Q E h kx ky hP => by
  unfold eqG at hP
  split at hP
  · rename_i p q e1 e2
    obtain ⟨a1, a2, a3⟩ := toP_ok h _ _ _ _ kx e1
    obtain ⟨b1, b2, b3⟩ := toP_ok h _ _ _ _ ky e2
    exact ⟨p, q, by rw [hK]; exact a1, by rw [hK]; exact b1, shaped_of a2 a3, shaped_of b2 b3, onE_here h (.bl _) hP⟩
  · exact hP.elim
theorem dop_ne (hK : X.K = W.K) (hu : X.A.units + 64 < cLine) : DOp W X (compareOp .NotEq) (eqG true) := .of (op_neD hu) fun Rs F H rr st x y dx dy Q E h kx ky hP => by
  unfold eqG at hP
  split at hP
  · rename_i p q e1 e2
    obtain ⟨a1, a2, a3⟩ := toP_ok h _ _ _ _ kx e1
    obtain ⟨b1, b2, b3⟩ := toP_ok h _ _ _ _ ky e2
    exact ⟨p, q, by rw [hK]; exact a1, by rw [hK]; exact b1, shaped_of a2 a3, shaped_of b2 b3, onE_here h (.bl _) hP⟩
  · exact hP.elim
def ltG : G2 := fun st d e => match d, e with
  | .int i, .int j => .ok (.bl (decide (i < j)), st)
  | _, _ => .bad
def gtG : G2 := fun st d e => match d, e with
  | .int i, .int j => .ok (.bl (decide (j < i)), st)
  | _, _ => .bad
def geG : G2 := fun st d e => match d, e with
  | .int i, .int j => .ok (.bl (decide (j ≤ i)), st)
  | _, _ => .bad
def leG : G2 := fun st d e => match d, e with
  | .int i, .int j => .ok (.bl (decide (i ≤ j)), st)
  | .str a, .str b => .ok (.bl (!decide (b < a)), st)
  | _, _ => .bad
theorem dop_lt : DOp W X (compareOp .Lt) ltG := .of op_lt fun Rs F H rr st x y dx dy Q E h kx ky hP => by
  cases kx <;> cases ky <;> first | exact hP.elim | exact ⟨_, _, rfl, rfl, onE_here h (.bl _) hP⟩
theorem dop_gt : DOp W X (compareOp .Gt) gtG := .of op_gt fun Rs F H rr st x y dx dy Q E h kx ky hP => by
  cases kx <;> cases ky <;> first | exact hP.elim | exact ⟨_, _, rfl, rfl, onE_here h (.bl _) hP⟩
theorem dop_ge : DOp W X (compareOp .GtE) geG := .of op_ge fun Rs F H rr st x y dx dy Q E h kx ky hP => by
  cases kx <;> cases ky <;> first | exact hP.elim | exact ⟨_, _, rfl, rfl, onE_here h (.bl _) hP⟩
theorem dop_le : DOp W X (compareOp .LtE) leG := .of (op_le.or op_le_str) fun Rs F H rr st x y dx dy Q E h kx ky hP => by
  cases kx <;> cases ky <;> first | exact hP.elim | exact .inl ⟨_, _, rfl, rfl, onE_here h (.bl _) hP⟩ | exact .inr ⟨_, _, rfl, rfl, onE_here h (.bl _) hP⟩
def isG (neg : Bool) : G2 := fun st d e => match d, e with
  | .bl a, .bl b => .ok (.bl (if neg = true then !decide (a = b) else decide (a = b)), st)
  | .non, .non => .ok (.bl (!neg), st)
  | _, .non => .ok (.bl neg, st)
  | _, _ => .bad
theorem dop_is : DOp W X (compareOp .Is) (isG false) := .of (op_isN.or op_isBl) fun Rs F H rr st x y dx dy Q E h kx ky hP => by
  cases kx <;> cases ky <;> first | exact hP.elim | exact .inl ⟨rfl, onE_here h (.bl _) hP⟩ | exact .inr ⟨_, _, rfl, rfl, onE_here h (.bl _) hP⟩
theorem dop_isnot : DOp W X (compareOp .IsNot) (isG true) := .of (op_notN.or op_notBl) fun Rs F H rr st x y dx dy Q E h kx ky hP => by
  cases kx <;> cases ky <;> first | exact hP.elim | exact .inl ⟨rfl, onE_here h (.bl _) hP⟩ | exact .inr ⟨_, _, rfl, rfl, onE_here h (.bl _) hP⟩
def addG (m : Bool) : G2 := fun st d e => match d, e with
  | .int i, .int j => .ok (.int (i + j), st)
  | .str a, .str b => if a.length + b.length ≤ LIM then .ok (.str (a ++ b), st) else .bad
  | .tup a, .tup b => if a.length + b.length ≤ LIM then .ok (.tup (a ++ b), st) else .bad
  | d, e => match lstOf st d, lstOf st e with
    | some a, some b => if a.length + b.length ≤ LIM then newL m (a ++ b) st else .bad
    | _, _ => .bad
theorem str_app (a b : List Nat) : ((⟨a.toArray⟩ : Str) ++ ⟨b.toArray⟩) = ⟨(a ++ b).toArray⟩ := TL.ext_tl (by rw [TL.tl_append])
theorem len_mk (a : List Nat) : (⟨a.toArray⟩ : Str).length = a.length := by simp [Str.length]
theorem rep_app {F : Hp} {r : List Addr} {a b : List Nat} (h1 : a.all (fun c => decide (c < 128)) = true) (h2 : b.all (fun c => decide (c < 128)) = true) (h : a.length + b.length ≤ LIM) : Rep F r (.str ((⟨a.toArray⟩ : Str) ++ ⟨b.toArray⟩)) (.str (a ++ b)) := by
  rw [str_app]
  exact .str _ (by rw [List.all_append, h1, h2]; rfl) (by simpa using h)
theorem addL {m : Bool} {st : Store} {d e : D} (h1 : ∀ i, d ≠ .int i) (h2 : ∀ i, d ≠ .str i) (h3 : ∀ i, d ≠ .tup i) : addG m st d e = match lstOf st d, lstOf st e with
    | some a, some b => if a.length + b.length ≤ LIM then newL m (a ++ b) st else .bad
    | _, _ => .bad := by
  cases d <;> first | rfl | exact absurd rfl (h1 _) | exact absurd rfl (h2 _) | exact absurd rfl (h3 _)
theorem dop_add (m : Bool) : DOp W X (binaryOp .Add) (addG m) := .of (op_add.or (op_add_str.or (op_catA.or op_cat))) fun Rs F H rr st x y dx dy Q E h kx ky hP => by
  have lists : (match lstOf st dx, lstOf st dy with
    | some a, some b => if a.length + b.length ≤ LIM then newL m (a ++ b) st else .bad
    | _, _ => (.bad : R (D × Store))) = addG m st dx dy → rCat x y H Q := fun eq => by
    rw [← eq] at hP
    split at hP
    · rename_i a b e1 e2
      by_cases hl : a.length + b.length ≤ LIM
      · rw [if_pos hl] at hP
        obtain ⟨p, vs, rfl, h1, k1⟩ := lstOf_ok h kx e1
        obtain ⟨q, ws, rfl, h2, k2⟩ := lstOf_ok h ky e2
        exact ⟨p, q, vs, ws, rfl, rfl, h1, h2, by rw [k1.length, k2.length]; exact lim_line hl, fun pp hp => newL_post h (Reps.append k1 k2) hP hp⟩
      · rw [if_neg hl] at hP; exact hP.elim
    · exact hP.elim
  cases kx with
  | int i =>
    cases ky with
    | int j => exact .inl ⟨_, _, rfl, rfl, onE_here h (.int _) hP⟩
    | _ => exact hP.elim
  | str a ha hal =>
    cases ky with
    | str b hb hbl =>
      refine .inr (.inl ⟨_, _, rfl, rfl, ?_⟩)
      by_cases hl : a.length + b.length ≤ LIM
      · unfold addG at hP
        simp only at hP
        rw [if_pos hl] at hP
        exact ⟨by rw [len_mk, len_mk]; exact lim_line hl, onE_here h (rep_app ha hb hl) hP⟩
      · unfold addG at hP
        simp only at hP
        rw [if_neg hl] at hP; exact hP.elim
    | _ => exact hP.elim
  | @tup p vs ds q1 k1 =>
    cases ky with
    | @tup p2 ws es q2 k2 =>
      refine .inr (.inr (.inl ?_))
      by_cases hl : ds.length + es.length ≤ LIM
      · unfold addG at hP
        simp only at hP
        rw [if_pos hl] at hP
        refine ⟨_, _, vs, ws, rfl, rfl, .of (h.sF _ _ q1), .of (h.sF _ _ q2), by rw [k1.length, k2.length]; exact lim_line hl, fun e => ?_, fun e1 e2 => ?_, fun e1 e2 pp hp => ?_⟩
        · subst e
          cases k1
          exact onE_here h (.tup q2 k2) hP
        · subst e2
          cases k2
          rw [List.append_nil] at hP
          exact onE_here h (.tup q1 k1) hP
        · exact tup_post h (Reps.append k1 k2) hP hp
      · unfold addG at hP
        simp only at hP
        rw [if_neg hl] at hP; exact hP.elim
    | _ => exact hP.elim
  | non => exact .inr (.inr (.inr (lists rfl)))
  | bl b => exact .inr (.inr (.inr (lists rfl)))
  | lst q k => exact .inr (.inr (.inr (lists rfl)))
  | ref q => exact .inr (.inr (.inr (lists rfl)))
  | scr q => exact .inr (.inr (.inr (lists rfl)))
  | exn0 => exact .inr (.inr (.inr (lists rfl)))
  | exn1 q => exact .inr (.inr (.inr (lists rfl)))
def subG : G2 := fun st d e => match d, e with
  | .int i, .int j => .ok (.int (i - j), st)
  | _, _ => .bad
theorem dop_sub : DOp W X (binaryOp .Sub) subG := .of op_sub fun Rs F H rr st x y dx dy Q E h kx ky hP => by
  cases kx <;> cases ky <;> first | exact hP.elim | exact ⟨_, _, rfl, rfl, onE_here h (.int _) hP⟩
def divG : G2 := fun st d e => match d, e with
  | .int i, .int j => if 0 < j ∧ j < 2 ^ 64 then .ok (.int (i / j), st) else .bad
  | _, _ => .bad
theorem dop_div : DOp W X (binaryOp .FloorDiv) divG := .of op_fdivW fun Rs F H rr st x y dx dy Q E h kx ky hP => by
  cases kx <;> cases ky <;> first | exact hP.elim | skip
  rename_i i j
  unfold divG at hP
  simp only at hP
  by_cases hl : 0 < j ∧ j < 2 ^ 64
  · rw [if_pos hl] at hP
    exact ⟨_, _, rfl, rfl, wide_div hl.1 (b := 64) (by omega) (by decide) (by decide), onE_here h (.int _) hP⟩
  · rw [if_neg hl] at hP; exact hP.elim
def modG : G2 := fun st d e => match d, e with
  | .int i, .int j => if 0 < j then .ok (.int (i % j), st) else .bad
  | _, _ => .bad
theorem dop_mod : DOp W X (binaryOp .Mod) modG := .of op_mod fun Rs F H rr st x y dx dy Q E h kx ky hP => by
  cases kx <;> cases ky <;> first | exact hP.elim | skip
  rename_i i j
  unfold modG at hP
  simp only at hP
  by_cases hl : 0 < j
  · rw [if_pos hl] at hP
    exact ⟨_, _, rfl, rfl, hl, onE_here h (.int _) hP⟩
  · rw [if_neg hl] at hP; exact hP.elim
def powG : G2 := fun st d e => match d, e with
  | .int i, .int j => if 0 ≤ j ∧ j ≤ 1000 ∧ i.natAbs < 2 ^ 64 then .ok (.int (i ^ j.toNat), st) else .bad
  | _, _ => .bad
theorem dop_pow : DOp W X (binaryOp .Pow) powG := .of op_pow fun Rs F H rr st x y dx dy Q E h kx ky hP => by
  cases kx <;> cases ky <;> first | exact hP.elim | skip
  rename_i i j
  unfold powG at hP
  simp only at hP
  by_cases hl : 0 ≤ j ∧ j ≤ 1000 ∧ i.natAbs < 2 ^ 64
  · rw [if_pos hl] at hP
    exact ⟨_, _, rfl, rfl, ⟨hl.1, by omega, hl.2.2⟩, onE_here h (.int _) hP⟩
  · rw [if_neg hl] at hP; exact hP.elim
/-- a text taken several times -/
def rMulS : R2 := fun x y H Q => ∃ z n, x = .str z ∧ y = .int n ∧ n ≤ 1000000 ∧ -1000000 ≤ n ∧ z.length * n.toNat ≤ 1000000 ∧ Q (.str ⟨(List.replicate n.toNat z.cps.toList).flatten.toArray⟩) H
theorem foldl_arr (a : Array Nat) : ∀ (k : Nat) (acc : Array Nat), (List.replicate k a).foldl (· ++ ·) acc = (acc.toList ++ (List.replicate k a.toList).flatten).toArray
  | 0, acc => by simp
  | k + 1, acc => by
    rw [List.replicate_succ, List.foldl_cons, foldl_arr a k, List.replicate_succ, List.flatten_cons]
    simp
theorem op_mulS : OpR X (binaryOp .Mult) rMulS := by
  intro pins s sg H x y v u Q I rx ry h
  obtain ⟨z, n, rfl, rfl, h1, h2, h3, q⟩ := h
  obtain ⟨t, rfl⟩ := rx
  obtain ⟨t', rfl⟩ := ry
  have fin : ∀ (w : Str) (u : Value) (s' : Shared), RelV (.str w) u → Inv X pins sg H s' → w = ⟨(List.replicate n.toNat z.cps.toList).flatten.toArray⟩ → EP X pins sg Q u s' := fun w u s' r I' e => ⟨.str w, H, I', r, by rw [e]; exact q⟩
  by_cases hn : n < 1
  · refine PySem.P.mul_str_none hn (by omega) (fin Str.empty _ _ ⟨_, rfl⟩ (I.tok _) ?_)
    have e : n.toNat = 0 := by omega
    rw [e]; rfl
  · refine PySem.P.mul_str ?_ ?_ ?_ ?_
    · rw [decide_eq_false (by omega), decide_eq_false (by omega)]; rfl
    · intro _ hb
      have hz : z.length ≤ 1000000 := by
        have : 1 ≤ n.toNat := by omega
        exact Nat.le_trans (Nat.le_mul_of_pos_right _ this) h3
      have : (1000000 : Int) ≤ (2 ^ 63 - 1 : Int) / n := by
        rw [Int.le_ediv_iff_mul_le (by omega)]
        omega
      omega
    · intro _ hb
      unfold Builtin.Str.tooLong
      have hs : (sizeLine : Nat) = 16777216 := sizeLine_eq
      simp only [decide_eq_false_iff_not]
      omega
    · rw [if_neg hn]
      by_cases hb : (n == 1 || z.length == 0) = true
      · rw [if_pos hb]
        refine fin z _ _ ⟨_, rfl⟩ I ?_
        rw [Bool.or_eq_true, beq_iff_eq, beq_iff_eq] at hb
        apply TL.ext_tl
        rw [TL.tl_mk]
        rcases hb with hb | hb
        · subst hb; simp [TL.tl]
        · have : z.cps.toList = [] := by
            have : z.cps.toList.length = 0 := by simpa [Str.length] using hb
            exact List.length_eq_zero_iff.mp this
          rw [this]; simp [TL.tl, this]
      · rw [if_neg hb]
        have e : (List.replicate n.toNat z.cps).foldl (· ++ ·) #[] = (List.replicate n.toNat z.cps.toList).flatten.toArray := by rw [foldl_arr]; simp
        refine ⟨?_, fin _ _ _ ⟨_, rfl⟩ (I.tok _) (by rw [e])⟩
        rw [e]
        show (List.replicate n.toNat z.cps.toList).flatten.toArray.size ≤ sizeLine
        have hs : (sizeLine : Nat) = 16777216 := sizeLine_eq
        rw [List.size_toArray, List.length_flatten, List.map_replicate, List.sum_replicate_nat]
        have : z.cps.toList.length = z.length := by simp [Str.length]
        rw [this, Nat.mul_comm]
        omega
def mulG (m : Bool) : G2 := fun st d e => match d, e with
  | .int i, .int j => if (-(2 ^ 64) < i ∧ i < 2 ^ 64) ∨ (-(2 ^ 64) < j ∧ j < 2 ^ 64) then .ok (.int (i * j), st) else .bad
  | .str s, .int n => if -1000000 ≤ n ∧ n ≤ 1000000 ∧ s.length * n.toNat ≤ LIM then .ok (.str (List.replicate n.toNat s).flatten, st) else .bad
  | .tup ds, .int n => if ds ≠ [] ∧ 2 ≤ n ∧ n ≤ 1000 ∧ ds.length ≤ 1000 then .ok (.tup (List.replicate n.toNat ds).flatten, st) else .bad
  | d, .int n => match lstOf st d with
    | some ds => if -1000000 ≤ n ∧ n ≤ 1000000 ∧ ds.length * n.toNat ≤ LIM then newL m (List.replicate n.toNat ds).flatten st else .bad
    | none => .bad
  | _, _ => .bad
theorem all_rep {s : List Nat} {p : Nat → Bool} (h : s.all p = true) : ∀ k : Nat, (List.replicate k s).flatten.all p = true
  | 0 => rfl
  | k + 1 => by rw [List.replicate_succ, List.flatten_cons, List.all_append, h, all_rep h k]; rfl
theorem len_rep {A : Type} (s : List A) (k : Nat) : (List.replicate k s).flatten.length = s.length * k := by
  rw [List.length_flatten, List.map_replicate, List.sum_replicate_nat, Nat.mul_comm]
theorem dop_mul (m : Bool) : DOp W X (binaryOp .Mult) (mulG m) := .of (op_mul.or (op_mulS.or (op_repT.or op_rep))) fun Rs F H rr st x y dx dy Q E h kx ky hP => by
  have lists : ∀ n, y = .int n → (match lstOf st dx with
    | some ds => if -1000000 ≤ n ∧ n ≤ 1000000 ∧ ds.length * n.toNat ≤ LIM then newL m (List.replicate n.toNat ds).flatten st else .bad
    | none => (.bad : R (D × Store))) = mulG m st dx dy → rRep x y H Q := fun n ey eq => by
    rw [← eq] at hP
    split at hP
    · rename_i a e1
      by_cases hl : -1000000 ≤ n ∧ n ≤ 1000000 ∧ a.length * n.toNat ≤ LIM
      · rw [if_pos hl] at hP
        obtain ⟨p, vs, rfl, h1, k1⟩ := lstOf_ok h kx e1
        exact ⟨p, n, vs, rfl, ey, h1, by omega, by omega, by rw [k1.length]; exact lim_line hl.2.2, fun pp hp => newL_post h (Reps.flat k1 _) hP hp⟩
      · rw [if_neg hl] at hP; exact hP.elim
    · exact hP.elim
  cases ky with
  | int n =>
    cases kx with
    | int i =>
      unfold mulG at hP
      simp only at hP
      split at hP
      · rename_i hc
        exact .inl ⟨_, _, rfl, rfl, hc, onE_here h (.int _) hP⟩
      · exact hP.elim
    | str a ha hal =>
      unfold mulG at hP
      simp only at hP
      split at hP
      · rename_i hc
        refine .inr (.inl ⟨_, _, rfl, rfl, hc.2.1, hc.1, by rw [len_mk]; exact hc.2.2, ?_⟩)
        refine onE_here h ?_ hP
        exact .str _ (all_rep ha _) (by rw [len_rep]; exact hc.2.2)
      · exact hP.elim
    | @tup p vs ds q1 k1 =>
      unfold mulG at hP
      simp only at hP
      split at hP
      · rename_i hc
        refine .inr (.inr (.inl ⟨_, _, vs, rfl, rfl, .of (h.sF _ _ q1), fun e => hc.1 ?_, hc.2.1, hc.2.2.1, by rw [k1.length]; exact hc.2.2.2, fun pp hp => tup_post h (Reps.flat k1 _) hP hp⟩))
        subst e; cases k1; rfl
      · exact hP.elim
    | non => exact .inr (.inr (.inr (lists _ rfl rfl)))
    | bl b => exact .inr (.inr (.inr (lists _ rfl rfl)))
    | lst q k => exact .inr (.inr (.inr (lists _ rfl rfl)))
    | ref q => exact .inr (.inr (.inr (lists _ rfl rfl)))
    | scr q => exact .inr (.inr (.inr (lists _ rfl rfl)))
    | exn0 => exact .inr (.inr (.inr (lists _ rfl rfl)))
    | exn1 q => exact .inr (.inr (.inr (lists _ rfl rfl)))
  | _ => cases kx <;> exact hP.elim
def flatD : D → Bool
  | .non => true
  | .bl _ => true
  | .int _ => true
  | .str _ => true
  | _ => false
def eqFl : D → D → Bool
  | .non, .non => true
  | .bl a, .bl b => a == b
  | .bl a, .int b => (if a then 1 else 0) == b
  | .int a, .bl b => a == (if b then 1 else 0)
  | .int a, .int b => a == b
  | .str a, .str b => a == b
  | _, _ => false
theorem flatD_ok {F : Hp} {r : List Addr} {v : V} {d : D} (k : Rep F r v d) (h : flatD d = true) : flatV v = true := by cases k <;> first | rfl | cases h
theorem str_beq (a b : List Nat) : ((⟨a.toArray⟩ : Str) == ⟨b.toArray⟩) = (a == b) := by
  by_cases e : a = b
  · subst e; simp
  · rw [beq_eq_false_iff_ne.mpr e, beq_eq_false_iff_ne]
    intro q
    apply e
    have := congrArg (fun (x : Str) => x.cps.toList) q
    simpa using this
theorem eqFl_ok {F : Hp} {r : List Addr} {v w : V} {d e : D} (k : Rep F r v d) (l : Rep F r w e) (h : flatD d = true) (h' : flatD e = true) : eqV v w = eqFl d e := by
  cases k <;> first | (exact absurd h Bool.false_ne_true) | skip
  all_goals (cases l <;> first | rfl | exact str_beq _ _ | (exact absurd h' Bool.false_ne_true))
def seqOf (st : Store) : D → Option (List D)
  | .tup ds => some ds
  | d => lstOf st d
theorem inSeq_ok {F : Hp} {r : List Addr} {v : V} {d : D} (k : Rep F r v d) (h : flatD d = true) : ∀ {vs : List V} {ds : List D}, Reps F r vs ds → ds.all flatD = true → vs.all flatV = true ∧ inV v vs = ds.any fun e => eqFl e d
  | _, _, .nil, _ => ⟨rfl, rfl⟩
  | _, _, .cons k1 k2, e => by
    rw [List.all_cons, Bool.and_eq_true] at e
    obtain ⟨a, b⟩ := inSeq_ok k h k2 e.2
    refine ⟨by rw [List.all_cons, flatD_ok k1 e.1, a]; rfl, ?_⟩
    unfold inV at b ⊢
    rw [List.any_cons, List.any_cons, eqFl_ok k1 k e.1 h, b]
def inG (neg : Bool) : G2 := fun st d e => match d, e with
  | .str [c], .str b => .ok (.bl (if neg = true then !decide (c ∈ b) else decide (c ∈ b)), st)
  | .str _, .str _ => .bad
  | d, e => match seqOf st e with
    | some ds => if flatD d = true ∧ ds.all flatD = true then .ok (.bl (if neg = true then !(ds.any fun z => eqFl z d) else ds.any fun z => eqFl z d), st) else .bad
    | none => .bad
theorem inG_seq {neg : Bool} {st : Store} {d e : D} (h : ∀ s, e ≠ .str s) : inG neg st d e = match seqOf st e with
    | some ds => if flatD d = true ∧ ds.all flatD = true then .ok (.bl (if neg = true then !(ds.any fun z => eqFl z d) else ds.any fun z => eqFl z d), st) else .bad
    | none => .bad := by
  cases e <;> first | exact absurd rfl (h _) | (cases d <;> first | rfl | (rename_i s; cases s <;> first | rfl | (rename_i t; cases t <;> rfl)))
theorem in_seq_ok {neg : Bool} (hK : X.K = W.K) {Rs F H : Hp} {rr : List Addr} {st : Store} {x y : V} {dx dy : D} {Q : VK} (h : Holds W Rs F H rr st) (kx : Rep F rr x dx) (ky : Rep F rr y dy) (hP : Post W Rs F rr (match seqOf st dy with
    | some ds => if flatD dx = true ∧ ds.all flatD = true then .ok (.bl (if neg = true then !(ds.any fun z => eqFl z dx) else ds.any fun z => eqFl z dx), st) else .bad
    | none => (.bad : R (D × Store))) Q E) : rIn X.K neg x y H Q := by
  split at hP
  · rename_i ds e1
    split at hP
    · rename_i hc
      obtain ⟨p, vs, rfl, hs, k1⟩ : ∃ p vs, y = .ref p ∧ (SqL X.K H p vs ∨ SqT X.K H p vs) ∧ Reps F rr vs ds := by
        cases ky with
        | tup q k => cases e1; exact ⟨_, _, rfl, .inr (.of (h.sF _ _ q)), k⟩
        | lst q k => cases e1; exact ⟨_, _, rfl, .inl (.of (h.sF _ _ q)), k⟩
        | ref q =>
          obtain ⟨a, vs, e, q', k⟩ := lstOf_ok h (.ref q) e1
          exact ⟨a, vs, e, .inl (.of q'), k⟩
        | _ => cases e1
      obtain ⟨a1, a2⟩ := inSeq_ok kx hc.1 k1 hc.2
      refine ⟨p, vs, rfl, hs, flatD_ok kx hc.1, a1, ?_⟩
      rw [a2]
      exact onE_here h (.bl _) hP
    · exact hP.elim
  · exact hP.elim
theorem dop_notin (hK : X.K = W.K) : DOp W X (compareOp .NotIn) (inG true) := .of (op_notIn_sign.or op_notIn_seq) fun Rs F H rr st x y dx dy Q E h kx ky hP => by
  cases ky with
  | str b hb hbl =>
    cases kx with
    | str a ha hal =>
      cases a with
      | nil => exact hP.elim
      | cons c t =>
        cases t with
        | nil => exact .inl ⟨c, _, rfl, rfl, onE_here h (.bl _) hP⟩
        | cons _ _ => exact hP.elim
    | _ => exact hP.elim
  | _ => rw [inG_seq (by intro s z; cases z)] at hP; exact .inr (in_seq_ok hK h kx (by first | exact .non | exact .bl _ | exact .int _ | exact .tup ‹_› ‹_› | exact .lst ‹_› ‹_› | exact .ref ‹_› | exact .scr (by assumption) | exact .exn0 _ | exact .exn1 (by assumption)) hP)
end
end Dl
namespace Dl
open PySem L2
section
variable {W : Wd} {X : Cx} {E : XK} {Rs F F1 H : Hp} {r r1 : List Addr}
def sOf {A : Type} (res : R A) (k : A → SR) : SR := match res with
  | .ok a => k a
  | .exc c p st => .exc c p st
  | .bad => .bad
@[simp] theorem sOf_ok {A : Type} (a : A) (k : A → SR) : sOf (R.ok a) k = k a := rfl
@[simp] theorem sOf_exc {A : Type} (c : Nat) (p : Option D) (st : Store) (k : A → SR) : sOf (R.exc c p st : R A) k = .exc c p st := rfl
@[simp] theorem sOf_bad {A : Type} (k : A → SR) : sOf (R.bad : R A) k = .bad := rfl
theorem bindS {A : Type} {res : R A} {k : A → SR} {D : Ends} {K' : A → Prop} (h : PostS W Rs F r (sOf res k) D E) (q : ∀ a, res = .ok a → PostS W Rs F r (k a) D E → K' a) : PostX W Rs F r res K' E := by
  cases res with
  | ok a => exact q a rfl h
  | exc c p st' => exact h
  | bad => exact h
def sNext : SV := fun env st => .nx env st
def sCons (f g : SV) : SV := fun env st => match f env st with
  | .nx e s => g e s
  | .rt d s => .rt d s
  | .bk e s => .bk e s
  | .ct e s => .ct e s
  | .exc c p s => .exc c p s
  | .bad => .bad
def sPass : SV := sNext
def sExpr (f : EV) : SV := fun env st => sOf (f env st) fun a => .nx env a.2
def sRet (f : EV) : SV := fun env st => sOf (f env st) fun a => .rt a.1 a.2
def sIf (t : TV) (f g : SV) : SV := fun env st => sOf (t env st) fun a => if a.1 = true then f env a.2 else g env a.2
def sBad : SV := fun _ _ => .bad
theorem PostF.here {env : Env} {st : Store} {N : St → Hp → Prop} {sg : St} (h : Holds W Rs F H r st) (k : EnvOk F r sg env) (q : PostF W Rs F r env st N) : N sg H := q F H r sg (Same.refl _) (Ext.refl _) h k
variable {st : Stmt} {rest : List Stmt} {f g : SV} {e : Expr} {fe : EV} {pos : Pos}
theorem db_nil : DB W X E [] sNext := .mk pss_nil fun Rs F H r sg env st D hH hE hP => PostF.here hH hE hP
theorem db_one (h : DS W X E st f) : DB W X E [st] f := let ⟨t, p, q⟩ := h.ex; .mk (pss_one p) q
theorem db_cons (h1 : DS W X E st f) (h2 : DB W X E rest g) : DB W X E (st :: rest) (sCons f g) := by
  obtain ⟨t, p, q⟩ := h1.ex
  obtain ⟨t2, p2, q2⟩ := h2.ex
  refine .mk (pss_cons p p2) fun Rs F H r sg env st D hH hE hP => ?_
  refine q Rs F H r sg env st _ hH hE ?_
  unfold sCons at hP
  cases ef : f env st with
  | nx e1 s1 =>
    rw [ef] at hP
    exact fun F' H' r' sg' s x h k => q2 Rs F' H' r' sg' e1 s1 D h k (PostS.later s x hP)
  | rt d s1 => rw [ef] at hP; exact hP
  | bk e1 s1 => rw [ef] at hP; exact hP
  | ct e1 s1 => rw [ef] at hP; exact hP
  | exc c p s1 => rw [ef] at hP; exact hP
  | bad => rw [ef] at hP; exact hP
theorem ds_bad : DS W X E st sBad := .mk ps_never fun Rs F H r sg env st D hH hE hP => hP
theorem ds_pass : DS W X E (.Pass pos) sPass := .mk ps_pass fun Rs F H r sg env st D hH hE hP => PostF.here hH hE hP
theorem ds_expr (h : DE W X E e fe) (hs : swapsWith e none pos.line X.env = pure false := by rfl) : DS W X E (.Expr e pos) (sExpr fe) := by
  obtain ⟨t, p, q⟩ := h.ex
  refine .mk (ps_expr p hs) fun Rs F H r sg env st D hH hE hP => ?_
  exact q Rs F H r sg env st _ hH hE (bindS hP fun a ea k F1 H1 r1 v1 s1 x1 h1 k1 => k F1 H1 r1 sg s1 x1 h1 (hE.mono s1 x1))
theorem ds_ret (h : DE W X E e fe) : DS W X E (.Return (some e) pos) (sRet fe) := by
  obtain ⟨t, p, q⟩ := h.ex
  refine .mk (ps_ret p) fun Rs F H r sg env st D hH hE hP => ?_
  exact q Rs F H r sg env st _ hH hE (bindS hP fun a ea k F1 H1 r1 v1 s1 x1 h1 k1 => k F1 H1 r1 v1 s1 x1 h1 k1)
theorem ds_if {c : Expr} {a b : List Stmt} {tc : TV} (hc : DT W X E c tc) (ha : DB W X E a f) (hb : DB W X E b g) : DS W X E (.If c a b pos) (sIf tc f g) := by
  obtain ⟨t, p, q⟩ := hc.ex
  obtain ⟨t1, p1, q1⟩ := ha.ex
  obtain ⟨t2, p2, q2⟩ := hb.ex
  refine .mk (ps_if p p1 p2) fun Rs F H r sg env st D hH hE hP => ?_
  refine q Rs F H r sg env st _ hH hE (bindS hP fun a ea k F1 H1 r1 s1 x1 h1 => ?_)
  obtain ⟨c, st1⟩ := a
  cases c with
  | true => exact q1 Rs F1 H1 r1 sg env st1 D h1 (hE.mono s1 x1) (PostS.later s1 x1 k)
  | false => exact q2 Rs F1 H1 r1 sg env st1 D h1 (hE.mono s1 x1) (PostS.later s1 x1 k)
abbrev GV := D → Env → Store → R (Env × Store)
def DG (W : Wd) (X : Cx) (E : XK) (tg : Expr) (g : GV) : Prop := ∃ t, PG X tg t ∧ ∀ Rs F H r sg env st v d N, Holds W Rs F H r st → EnvOk F r sg env → Rep F r v d → PostX W Rs F r (g d env st) (fun a => PostF W Rs F r a.1 a.2 N) E → t v sg H N
abbrev GVs := List D → Env → Store → R (Env × Store)
def DGs (W : Wd) (X : Cx) (E : XK) (tg : List Expr) (g : GVs) : Prop := ∃ t, PGs X tg t ∧ ∀ Rs F H r sg env st vs ds N, Holds W Rs F H r st → EnvOk F r sg env → Reps F r vs ds → PostX W Rs F r (g ds env st) (fun a => PostF W Rs F r a.1 a.2 N) E → t vs sg H N
def gN (i : Nat) : GV := fun d env st => .ok (env.set i (some d), st)
theorem dg_name {i : Nat} {x : Str} {pos : Pos} (hN : X.N.Nodup) (hi : X.N[i]? = some x) (hx : Loc X.env.scope x) (hf : X.fn x = true ∨ X.env.scope.names.lookup x = some .local := by first | exact .inl rfl | exact .inr rfl | assumption) : DG W X E (.Name x pos) (gN i) :=
  ⟨_, pg_name hN hi hx hf, fun Rs F H r sg env st v d N hH hE k hP => PostF.here hH (hE.set k i) hP⟩
def gsNil : GVs := fun ds env st => match ds with
  | [] => .ok (env, st)
  | _ => .bad
def gsCons (g : GV) (h : GVs) : GVs := fun ds env st => match ds with
  | d :: ds => (g d env st).bind fun a => h ds a.1 a.2
  | [] => .bad
theorem dgs_nil : DGs W X E [] gsNil := ⟨_, pgs_nil, fun Rs F H r sg env st vs ds N hH hE k hP => by
  cases k with
  | nil => exact ⟨rfl, PostF.here hH hE hP⟩
  | cons _ _ => exact hP.elim⟩
theorem dgs_cons {tg : Expr} {tgs : List Expr} {g : GV} {h : GVs} (h1 : DG W X E tg g) (h2 : DGs W X E tgs h)
    (hs : (assignEach (tg :: tgs) X.env).map (·.2) = assign tg X.env :: (assignEach tgs X.env).map (·.2) := by rfl) : DGs W X E (tg :: tgs) (gsCons g h) := by
  obtain ⟨t, p, q⟩ := h1
  obtain ⟨t2, p2, q2⟩ := h2
  refine ⟨_, pgs_cons p p2 hs, fun Rs F H r sg env st vs ds N hH hE k hP => ?_⟩
  cases k with
  | nil => exact hP.elim
  | @cons v vs d ds k1 k2 =>
    refine ⟨v, vs, rfl, q Rs F H r sg env st v d _ hH hE k1 (bindX hP fun a ea z F1 H1 r1 sg1 s1 x1 h1 e1 => ?_)⟩
    exact q2 Rs F1 H1 r1 sg1 a.1 a.2 vs ds N h1 e1 (k2.mono s1 x1) (PostX.imp s1 x1 z fun _ y => PostF.later s1 x1 y)
/-- (a, b, ..) = a tuple -/
def gTp (n : Nat) (h : GVs) : GV := fun d env st => match d with
  | .tup ds => if ds.length = n then h ds env st else .bad
  | _ => .bad
theorem dg_tup {es : List Expr} {k n : Nat} {h : GVs} {pos : Pos} (hc : X.calm = true) (hh : DGs W X E es h)
    (hn : (assignEach es X.env).length = n := by rfl) (hst : (assignEach es X.env).findIdx? (·.1) = none := by rfl) : DG W X E (.Tuple es k pos) (gTp n h) := by
  obtain ⟨t, p, q⟩ := hh
  refine ⟨_, pg_tup hc p hn hst, fun Rs F H r sg env st v d N hH hE k hP => ?_⟩
  cases d with
  | tup ds =>
    unfold gTp at hP
    simp only at hP
    split at hP
    · rename_i hl
      cases k with
      | @tup a vs _ e k1 => exact ⟨a, vs, rfl, .of (hH.sF _ _ e), by rw [k1.length, hl], q Rs F H r sg env st vs ds N hH hE k1 hP⟩
    · exact hP.elim
  | _ => exact hP.elim
/-- o[i] = e, by values -/
abbrev SetV := Store → D → D → D → Option Store
def DSet (W : Wd) (X : Cx) (g : SetV) : Prop := ∃ t, PSet X t ∧ ∀ Rs F H r st o i v dO di dv N, Holds W Rs F H r st → Rep F r o dO → Rep F r i di → Rep F r v dv →
  ∀ st', g st dO di dv = some st' → (∀ H', Holds W Rs F H' r st' → N H') → t o i v H N
def gSb (fo fi : EV) (g : SetV) : GV := fun d env st => (fo env st).bind fun a => (fi env a.2).bind fun b => match g b.2 a.1 b.1 d with
  | some st' => .ok (env, st')
  | none => .bad
theorem dg_sub {o i : Expr} {fo fi : EV} {g : SetV} {pos : Pos} (ho : DE W X E o fo) (hi : DE W X E i fi) (hs : DSet W X g)
    (ha : ∀ v, assign (.Subscript o i pos) X.env v = (do
      let ov ← holding [v] (eval o X.env)
      let iv ← holding [v, ov] (eval i X.env)
      standAt pos
      holding [v, ov, iv] (setItem ov iv v)
      release [v, ov, iv] []) := by intro _; rfl) : DG W X E (.Subscript o i pos) (gSb fo fi g) := by
  obtain ⟨to, po, qo⟩ := ho.ex
  obtain ⟨ti, pi, qi⟩ := hi.ex
  obtain ⟨ts, ps, qs⟩ := hs
  refine ⟨_, pg_sub po pi ps ha, fun Rs F H r sg env st v d N hH hE k hP => ?_⟩
  refine qo Rs F H r sg env st _ hH hE (bindX hP fun a ea z F1 H1 r1 v1 s1 x1 h1 k1 => ?_)
  refine qi Rs F1 H1 r1 sg env a.2 _ h1 (hE.mono s1 x1) (bindX (PostX.imp s1 x1 z fun _ y => PostF.later s1 x1 y) fun b eb z2 F2 H2 r2 v2 s2 x2 h2 k2 => ?_)
  cases e : g b.2 a.1 b.1 d with
  | none => rw [e] at z2; exact z2.elim
  | some st' =>
    rw [e] at z2
    exact qs Rs F2 H2 r2 b.2 v1 v2 v a.1 b.1 d _ h2 (k1.mono s2 x2) k2 (k.mono (s1.trans s2) (x1.trans x2)) st' e fun H' h' => z2 F2 H' r2 sg s2 x2 h' (hE.mono (s1.trans s2) (x1.trans x2))
def setLG : SetV := fun st o i v => match o, i with
  | .ref n, .int k => match st[n]? with
    | some (.lst ds) => match ixN ds.length k with
      | some j => some (st.set n (.lst (ds.set j v)))
      | none => none
    | _ => none
  | _, _ => none
theorem dset_list : DSet W X setLG := ⟨_, set_list, fun Rs F H r st o i v dO di dv N hH ko ki kv st' e hN => by
  cases ko with
  | @ref a n q =>
    cases ki with
    | int k =>
      unfold setLG at e
      simp only at e
      split at e
      · rename_i ds e1
        split at e
        · rename_i j e2
          cases e
          obtain ⟨vs, h1, k1⟩ := hH.ob n a _ q e1
          refine ⟨a, vs, k, j, rfl, rfl, h1, by rw [k1.length]; exact e2, hN _ (hH.write q ⟨_, upd_same, Reps.set kv j k1⟩)⟩
        · cases e
      · cases e
    | _ => cases e
  | _ => cases e⟩
def sAsg (f : EV) (g : GV) : SV := fun env st => sOf (f env st) fun a => sOf (g a.1 env a.2) fun b => .nx b.1 b.2
theorem sAsg_post {te : TE} {tg : TG} {f : EV} {g : GV} (q : ∀ Rs F H r sg env st Q, Holds W Rs F H r st → EnvOk F r sg env → Post W Rs F r (f env st) Q E → te sg H Q)
    (qg : ∀ Rs F H r sg env st v d N, Holds W Rs F H r st → EnvOk F r sg env → Rep F r v d → PostX W Rs F r (g d env st) (fun a => PostF W Rs F r a.1 a.2 N) E → tg v sg H N)
    {Rs F H r sg env st D} (hH : Holds W Rs F H r st) (hE : EnvOk F r sg env) (hP : PostS W Rs F r (sAsg f g env st) D E) : tAsg te tg D sg H := by
  refine q Rs F H r sg env st _ hH hE (bindS hP fun a ea z F1 H1 r1 v1 s1 x1 h1 k1 => ?_)
  refine qg Rs F1 H1 r1 sg env a.2 v1 a.1 D.nx h1 (hE.mono s1 x1) k1 (bindS (D := D) (PostS.later s1 x1 z) fun b eb z2 => z2)
theorem ds_asg {tg e : Expr} {f : EV} {g : GV} (he : DE W X E e f) (hg : DG W X E tg g) (hs : swapsWithSole [tg] e pos.line X.env = pure false := by rfl) (hw : swappedStores [tg] e X.env = pure none := by rfl)
    (h1 : (assignEach [tg] X.env).map (·.2) = [assign tg X.env] := by rfl) : DS W X E (.Assign [tg] e pos) (sAsg f g) := by
  obtain ⟨t, p, q⟩ := he.ex
  obtain ⟨tg, pg, qg⟩ := hg
  exact .mk (ps_asg p pg hs hw h1) fun Rs F H r sg env st D hH hE hP => sAsg_post q qg hH hE hP
theorem gN_ok {i : Nat} : ∀ Rs F H r sg env st v d N, Holds W Rs F H r st → EnvOk F r sg env → Rep F r v d → PostX W Rs F r (gN i d env st) (fun a => PostF W Rs F r a.1 a.2 N) E → gName i v sg H N :=
  fun Rs F H r sg env st v d N hH hE k hP => PostF.here hH (hE.set k i) hP
theorem ds_set {i : Nat} {x : Str} {e : Expr} {f : EV} {pos' : Pos} (hN : X.N.Nodup) (hi : X.N[i]? = some x) (hx : Loc X.env.scope x) (he : DE W X E e f) (hs : swapsWith e (some (.Name x pos')) pos.line X.env = pure false := by rfl) (hf : X.fn x = true ∨ X.env.scope.names.lookup x = some .local := by first | exact .inl rfl | exact .inr rfl | assumption) :
    DS W X E (.Assign [.Name x pos'] e pos) (sAsg f (gN i)) := by
  obtain ⟨t, p, q⟩ := he.ex
  exact .mk (ps_set hN hi hx p hs hf) fun Rs F H r sg env st D hH hE hP => sAsg_post q gN_ok hH hE hP
/-- a, b = x, y by swapped stores -/
def sPar (i j : Nat) (f : AV) : SV := fun env st => sOf (f env st) fun a => match a.1 with
  | [d, e] => .nx ((env.set i (some d)).set j (some e)) a.2
  | _ => .bad
theorem ds_par {i j : Nat} {x y : Str} {a b : Expr} {fa : AV} {px py pt : Pos} {kt k2 pt2} (hc : X.calm = true) (hN : X.N.Nodup) (hi : X.N[i]? = some x) (hj : X.N[j]? = some y) (hij : i ≠ j)
    (hx : X.env.scope.names.lookup x = some .local) (hy : X.env.scope.names.lookup y = some .local) (ha : DA W X E [a, b] fa)
    (hw : swappedStores [.Tuple [.Name x px, .Name y py] kt pt] (.Tuple [a, b] k2 pt2) X.env = pure (some [x, y]))
    (hs : swapsWithSole [.Tuple [.Name x px, .Name y py] kt pt] (.Tuple [a, b] k2 pt2) pos.line X.env = pure false := by rfl) :
    DS W X E (.Assign [.Tuple [.Name x px, .Name y py] kt pt] (.Tuple [a, b] k2 pt2) pos) (sPar i j fa) := by
  obtain ⟨t, p, q⟩ := ha.ex
  refine .mk (ps_par hc hN hi hj hij hx hy p hw hs) fun Rs F H r sg env st D hH hE hP => ?_
  refine q Rs F H r sg env st _ hH hE (bindS hP fun a ea z F1 H1 r1 vs s1 x1 h1 k1 => ?_)
  obtain ⟨ds, st1⟩ := a
  cases k1 with
  | nil => exact z.elim
  | cons k1 k2 =>
    cases k2 with
    | nil => exact z.elim
    | cons k2 k3 =>
      cases k3 with
      | nil => exact ⟨_, _, rfl, z F1 H1 r1 _ s1 x1 h1 (((hE.mono s1 x1).set k1 i).set k2 j)⟩
      | cons _ _ => exact z.elim
def sPar3 (i j l : Nat) (f : AV) : SV := fun env st => sOf (f env st) fun a => match a.1 with
  | [d, e, c] => .nx (((env.set i (some d)).set j (some e)).set l (some c)) a.2
  | _ => .bad
def whileGo (t : TV) (b : SV) : Nat → Env → Store → SR
  | 0, _, _ => .bad
  | n + 1, env, st => sOf (t env st) fun a => if a.1 = true then (match b env a.2 with
      | .nx e s => whileGo t b n e s
      | .ct e s => whileGo t b n e s
      | .bk e s => .nx e s
      | .rt d s => .rt d s
      | .exc c p s => .exc c p s
      | .bad => .bad) else .nx env a.2
theorem ds_while (n : Nat) {c : Expr} {body : List Stmt} {tc : TV} {tb : SV} (hp : PassesOwn (model X.prog X.w) X.A X.env X.xe) (hc : DT W X E c tc) (hb : DB W X E body tb) : DS W X E (.While c body [] pos) (whileGo tc tb n) := by
  obtain ⟨t, p, q⟩ := hc.ex
  obtain ⟨t1, p1, q1⟩ := hb.ex
  refine .mk (ps_while hp p p1) fun Rs F H r sg env st D hH hE hP => ?_
  refine ⟨fun m sg' H' => ∃ F' r' env' st', Holds W Rs F' H' r' st' ∧ EnvOk F' r' sg' env' ∧ PostS W Rs F' r' (whileGo tc tb m env' st') D E, ⟨n, F, r, env, st, hH, hE, hP⟩, ?_⟩
  rintro m sg H ⟨F, r, env, st, hH, hE, hP⟩
  cases m with
  | zero => exact hP.elim
  | succ m =>
    unfold whileGo at hP
    refine q Rs F H r sg env st _ hH hE (bindS hP fun a ea k F1 H1 r1 s1 x1 h1 => ?_)
    obtain ⟨c, st1⟩ := a
    cases c with
    | false => exact k F1 H1 r1 sg s1 x1 h1 (hE.mono s1 x1)
    | true =>
      show ∃ N : St → Hp → Prop, _ ∧ _
      refine ⟨fun sg' H' => ∃ F' r' env' st', Holds W Rs F' H' r' st' ∧ EnvOk F' r' sg' env' ∧ PostS W Rs F' r' (whileGo tc tb m env' st') D E, fun sg' H' z => ⟨m, Nat.lt_succ_self m, z⟩, ?_⟩
      refine q1 Rs F1 H1 r1 sg env st1 _ h1 (hE.mono s1 x1) ?_
      replace k := PostS.later s1 x1 k
      simp only [if_true] at k
      cases eb : tb env st1 with
      | nx e s => rw [eb] at k; exact fun F2 H2 r2 sg2 s2 x2 h2 k2 => ⟨F2, r2, e, s, h2, k2, PostS.later s2 x2 k⟩
      | ct e s => rw [eb] at k; exact fun F2 H2 r2 sg2 s2 x2 h2 k2 => ⟨F2, r2, e, s, h2, k2, PostS.later s2 x2 k⟩
      | bk e s => rw [eb] at k; exact k
      | rt d s => rw [eb] at k; exact k
      | exc c p s => rw [eb] at k; exact k
      | bad => rw [eb] at k; exact k
def still (sub : List (Nat × List D)) (st : Store) : Bool := sub.all fun p => match st[p.1]? with
  | some (.lst ds) => D.beqs ds p.2
  | _ => false
theorem still_at {sub : List (Nat × List D)} {st : Store} (h : still sub st = true) {n : Nat} {ds : List D} (m : (n, ds) ∈ sub) : st[n]? = some (.lst ds) := by
  unfold still at h
  have q := List.all_eq_true.mp h (n, ds) m
  simp only at q
  split at q
  · rename_i es e
    rw [e, D.eqs_of_beqs _ _ q]
  · cases q
@[simp] theorem still_nil (st : Store) : still [] st = true := rfl
theorem still_one {n : Nat} {ds : List D} {st : Store} (h : st[n]? = some (.lst ds)) : still [(n, ds)] st = true := by
  unfold still
  simp [h, D.beqs_refl]
abbrev Wk := List D × List (Nat × List D)
abbrev IV := Env → Store → R (Wk × Store)
def Drv (W : Wd) (F0 : Hp) (r0 : List Addr) (J : It) (w : Wk) : Prop := ∀ (i : Nat) Rs F H r st, Same F0 F → Ext r0 r → Holds W Rs F H r st → still w.2 st = true →
  (∀ d, w.1[i]? = some d → J.go i H ∧ ∀ x H', J.yld i H x H' → ∃ F', Same F F' ∧ Holds W Rs F' H' r st ∧ Rep F' r x d) ∧ (w.1.length ≤ i → J.stop i H)
def DI (W : Wd) (X : Cx) (E : XK) (tg iter : Expr) (f : IV) : Prop := ∃ wi, PI X tg iter wi ∧ ∀ Rs F H r sg env st (Q : It → Hp → Prop), Holds W Rs F H r st → EnvOk F r sg env →
  PostX W Rs F r (f env st) (fun a => ∀ J F' H' r', Same F F' → Ext r r' → Holds W Rs F' H' r' a.2 → Drv W F' r' J a.1 → Q J H') E → wi sg H Q
def forGo (sub : List (Nat × List D)) (g : GV) (b : SV) : List D → Env → Store → SR
  | [], env, st => if still sub st = true then .nx env st else .bad
  | d :: ds, env, st => if still sub st = true then sOf (g d env st) fun a => (match b a.1 a.2 with
      | .nx e s => forGo sub g b ds e s
      | .ct e s => forGo sub g b ds e s
      | .bk e s => .nx e s
      | .rt d s => .rt d s
      | .exc c p s => .exc c p s
      | .bad => .bad) else .bad
def sFor (it : IV) (g : GV) (b : SV) : SV := fun env st => sOf (it env st) fun a => forGo a.1.2 g b a.1.1 env a.2
theorem ds_for {tg iter : Expr} {body : List Stmt} {it : IV} {g : GV} {tb : SV} (hp : PassesOwn (model X.prog X.w) X.A X.env X.xe) (hc : X.calm = true) (hi : DI W X E tg iter it) (hg : DG W X E tg g) (hb : DB W X E body tb)
    (hs : ∀ x, foldedSetIterable iter X.env x = pure x := by intro _; rfl) : DS W X E (.For tg iter body [] pos) (sFor it g tb) := by
  obtain ⟨wi, p, q⟩ := hi
  obtain ⟨t, pg, qg⟩ := hg
  obtain ⟨t1, p1, q1⟩ := hb.ex
  refine .mk (ps_for hp hc p pg p1 hs) fun Rs F H r sg env st D hH hE hP => ?_
  refine q Rs F H r sg env st _ hH hE (bindS hP fun a ea z J F0 H0 r0 s0 x0 h0 drv => ?_)
  obtain ⟨⟨items, sub⟩, st0⟩ := a
  refine ⟨fun i m sg' H' => m = items.length - i ∧ i ≤ items.length ∧ ∃ F' r' env' st', Same F0 F' ∧ Ext r0 r' ∧ Holds W Rs F' H' r' st' ∧ EnvOk F' r' sg' env' ∧ PostS W Rs F' r' (forGo sub g tb (items.drop i) env' st') D E,
    ⟨items.length, by simp, Nat.zero_le _, F0, r0, env, st0, Same.refl _, Ext.refl _, h0, hE.mono s0 x0, PostS.later s0 x0 z⟩, ?_⟩
  rintro i m sg H ⟨rfl, hi, F, r, env, st, s, x, hH, hE, hP⟩
  by_cases hl : i < items.length
  · rw [List.drop_eq_getElem_cons hl] at hP
    unfold forGo at hP
    by_cases hst : still sub st = true
    · rw [if_pos hst] at hP
      obtain ⟨d1, _⟩ := drv i Rs F H r st s x hH hst
      obtain ⟨go, yld⟩ := d1 items[i] (by simp [hl])
      refine .inr ⟨go, fun sg' H' => i + 1 ≤ items.length ∧ ∃ F' r' env' st', Same F0 F' ∧ Ext r0 r' ∧ Holds W Rs F' H' r' st' ∧ EnvOk F' r' sg' env' ∧ PostS W Rs F' r' (forGo sub g tb (items.drop (i + 1)) env' st') D E,
        fun sg' H' z => ⟨items.length - (i + 1), by omega, rfl, z⟩, fun v H1 y => ?_⟩
      obtain ⟨F1, s1, h1, k1⟩ := yld v H1 y
      have hP1 := PostS.later s1 (Ext.refl r) hP
      refine qg Rs F1 H1 r sg env st v items[i] _ h1 (hE.mono s1 (Ext.refl _)) k1 (bindS hP1 fun b eb z2 F2 H2 r2 sg2 s2 x2 h2 k2 => ?_)
      refine q1 Rs F2 H2 r2 sg2 b.1 b.2 _ h2 k2 ?_
      replace z2 := PostS.later s2 x2 z2
      cases ebb : tb b.1 b.2 with
      | nx e s' => rw [ebb] at z2; exact fun F3 H3 r3 sg3 s3 x3 h3 k3 => ⟨hl, F3, r3, e, s', ((s.trans s1).trans s2).trans s3, (x.trans x2).trans x3, h3, k3, PostS.later s3 x3 z2⟩
      | ct e s' => rw [ebb] at z2; exact fun F3 H3 r3 sg3 s3 x3 h3 k3 => ⟨hl, F3, r3, e, s', ((s.trans s1).trans s2).trans s3, (x.trans x2).trans x3, h3, k3, PostS.later s3 x3 z2⟩
      | bk e s' => rw [ebb] at z2; exact z2
      | rt d s' => rw [ebb] at z2; exact z2
      | exc c p s' => rw [ebb] at z2; exact z2
      | bad => rw [ebb] at z2; exact z2
    · rw [if_neg hst] at hP; exact hP.elim
  · have e : items.drop i = [] := List.drop_eq_nil_of_le (by omega)
    rw [e] at hP
    unfold forGo at hP
    by_cases hst : still sub st = true
    · rw [if_pos hst] at hP
      obtain ⟨_, d2⟩ := drv i Rs F H r st s x hH hst
      exact .inl ⟨d2 (by simpa using hl), PostF.here hH hE hP⟩
    · rw [if_neg hst] at hP; exact hP.elim
theorem drv_list {K : PySem.W.Frag} {F0 : Hp} {r0 : List Addr} {a : Addr} {w : Wk} (h : ∀ Rs F H r st, Same F0 F → Ext r0 r → Holds W Rs F H r st → still w.2 st = true → ∃ vs, SqL K H a vs ∧ Reps F r vs w.1) : Drv W F0 r0 (Itl K a) w := fun i Rs F H r st s x hH hst => by
  obtain ⟨vs, h1, k1⟩ := h Rs F H r st s x hH hst
  refine ⟨fun d e => ?_, fun hl => ⟨vs, h1, by rw [k1.length]; exact hl⟩⟩
  obtain ⟨v, e1, k⟩ := k1.get e
  refine ⟨⟨vs, v, h1, e1⟩, fun y H' yl => ?_⟩
  obtain ⟨e2, yl⟩ := yl
  subst e2
  have := yl vs h1
  rw [e1] at this; cases this
  exact ⟨F, Same.refl _, hH, k⟩
theorem drv_tup {K : PySem.W.Frag} {F0 : Hp} {r0 : List Addr} {a : Addr} {w : Wk} {vs : List V} (h : F0 a = some (.tup vs)) (k1 : Reps F0 r0 vs w.1) : Drv W F0 r0 (Itt K a) w := fun i Rs F H r st s x hH hst => by
  have h1 : SqT K H a vs := .of (hH.sF _ _ (s _ _ h))
  replace k1 := k1.mono s x
  refine ⟨fun d e => ?_, fun hl => ⟨vs, h1, by rw [k1.length]; exact hl⟩⟩
  obtain ⟨v, e1, k⟩ := k1.get e
  refine ⟨⟨vs, v, h1, e1⟩, fun y H' yl => ?_⟩
  obtain ⟨e2, yl⟩ := yl
  subst e2
  have := yl vs h1
  rw [e1] at this; cases this
  exact ⟨F, Same.refl _, hH, k⟩
theorem drv_str {F0 : Hp} {r0 : List Addr} {s : List Nat} {w : Wk} (hw : w.1 = s.map fun c => D.str [c]) (ha : s.all (fun c => decide (c < 128)) = true) : Drv W F0 r0 (Its ⟨s.toArray⟩) w := fun i Rs F H r st ss x hH hst => by
  refine ⟨fun d e => ?_, fun hl => by show s.toArray.size ≤ i; rw [hw, List.length_map] at hl; simpa using hl⟩
  rw [hw, List.getElem?_map] at e
  cases q : s[i]? with
  | none => rw [q] at e; cases e
  | some c =>
    rw [q] at e; cases e
    refine ⟨by show i < s.toArray.size; simpa using (List.getElem?_eq_some_iff.mp q).1, fun y H' yl => ?_⟩
    obtain ⟨e2, c', e3, e4⟩ := yl
    have e3' : s[i]? = some c' := by simpa using e3
    rw [q] at e3'; cases e3'
    subst e2 e4
    have hc := List.all_eq_true.mp ha c (List.mem_of_getElem? q)
    exact ⟨F, Same.refl _, hH, .str [c] (by simpa using hc) (by simp [LIM])⟩
def itemsOf (st : Store) : D → Option Wk
  | .lst ds => some (ds, [])
  | .tup ds => some (ds, [])
  | .str s => some (s.map fun c => D.str [c], [])
  | .scr ns => some (ns.map D.int, [])
  | .ref n => match st[n]? with
    | some (.lst ds) => some (ds, [(n, ds)])
    | _ => none
  | _ => none
def iSeq (f : EV) : IV := fun env st => (f env st).bind fun a => match itemsOf a.2 a.1 with
  | some w => .ok (w, a.2)
  | none => .bad
theorem reps_ints {F : Hp} {r : List Addr} : ∀ ns : List Int, Reps F r (ns.map V.int) (ns.map D.int)
  | [] => .nil
  | n :: ns => .cons (.int n) (reps_ints ns)
theorem pi_or {tg iter : Expr} {wi wi' : TI} (h : PI X tg iter wi) (h' : PI X tg iter wi') : PI X tg iter (fun sg H Q => wi sg H Q ∨ wi' sg H Q) :=
  ⟨fun pins s sg H Q I q => q.elim (h.run pins s sg H Q I) (h'.run pins s sg H Q I)⟩
theorem di_seq {tg e : Expr} {f : EV} (he : DE W X E e f) : DI W X E tg e (iSeq f) := by
  obtain ⟨t, p, q⟩ := he.ex
  refine ⟨_, pi_or (pi_list p) (pi_or (pi_tup p) (pi_str p)), fun Rs F H r sg env st Q hH hE hP => ?_⟩
  -- which one it is, by what the data are
  have lists : (∀ a, f env st = .ok a → ∀ w, itemsOf a.2 a.1 = some w → (∀ ds, a.1 ≠ .tup ds) ∧ (∀ s, a.1 ≠ .str s)) → iList X.K t sg H Q := fun hk => by
    refine q Rs F H r sg env st _ hH hE (bindX hP fun a ea z F1 H1 r1 v1 s1 x1 h1 k1 => ?_)
    cases ew : itemsOf a.2 a.1 with
    | none => rw [ew] at z; exact z.elim
    | some w =>
      rw [ew] at z
      obtain ⟨n1, n2⟩ := hk a ea w ew
      obtain ⟨d, st1⟩ := a
      have fin : ∀ p vs, v1 = .ref p → SqL X.K H1 p vs → Drv W F1 r1 (Itl X.K p) w → ∃ a, v1 = .ref a ∧ (∃ xs, SqL X.K H1 a xs) ∧ Q (Itl X.K a) H1 := fun p vs e h dr => ⟨p, e, ⟨vs, h⟩, z _ F1 H1 r1 s1 x1 h1 dr⟩
      cases k1 with
      | tup _ _ => exact absurd rfl (n1 _)
      | str _ _ _ => exact absurd rfl (n2 _)
      | lst e k => cases ew; exact fin _ _ rfl (.of (h1.sF _ _ e)) (drv_list fun Rs F H r st s x hH _ => ⟨_, .of (hH.sF _ _ (s _ _ e)), k.mono s x⟩)
      | @scr a ns e => cases ew; exact fin _ _ rfl (e.sq h1.sF) (drv_list fun Rs F H r st s x hH _ => ⟨_, e.sq (fun _ _ z => hH.sF _ _ (s _ _ z)), reps_ints ns⟩)
      | @ref a n e =>
        unfold itemsOf at ew
        simp only at ew
        split at ew
        · rename_i ds e1
          cases ew
          obtain ⟨vs, q1, k⟩ := h1.ob n a _ e e1
          refine fin a vs rfl (.of q1) (drv_list fun Rs F H r st s x hH hst => ?_)
          obtain ⟨vs', q1', k'⟩ := hH.ob n a _ (x _ _ e) (still_at (ds := ds) hst (List.mem_cons_self))
          exact ⟨vs', .of q1', k'⟩
        · cases ew
      | _ => cases ew
  cases ef : f env st with
  | bad => unfold iSeq at hP; rw [ef] at hP; exact hP.elim
  | exc c p' s' => exact .inl (lists fun a ea => by rw [ef] at ea; cases ea)
  | ok a =>
    obtain ⟨d, st1⟩ := a
    cases d with
    | tup ds =>
      refine .inr (.inl (q Rs F H r sg env st _ hH hE (bindX hP fun a ea z F1 H1 r1 v1 s1 x1 h1 k1 => ?_)))
      rw [ef] at ea; cases ea
      cases k1 with
      | tup e k => exact ⟨_, rfl, ⟨_, .of (h1.sF _ _ e)⟩, z _ F1 H1 r1 s1 x1 h1 (drv_tup e k)⟩
    | str s =>
      refine .inr (.inr (q Rs F H r sg env st _ hH hE (bindX hP fun a ea z F1 H1 r1 v1 s1 x1 h1 k1 => ?_)))
      rw [ef] at ea; cases ea
      cases k1 with
      | str s ha hl => exact ⟨_, rfl, z _ F1 H1 r1 s1 x1 h1 (drv_str rfl ha)⟩
    | _ => exact .inl (lists fun a ea w ew => by rw [ef] at ea; cases ea; exact ⟨(fun _ z => nomatch z), (fun _ z => nomatch z)⟩)
end
end Dl
namespace Dl
open PySem L2
section
variable {W : Wd} {Rs F H : Hp} {r : List Addr} {st : Store} {p : Addr} {o o' : HO}
theorem Holds.guard (h : Holds W Rs F H r st) (e : H p = none) (hn : ∀ ps, o ≠ .tbl ps := by intro _ z; cases z) : Holds W (upd Rs p o) F (upd H p o) r st := by
  refine ⟨fun c u q => ?_, fun c u q => ?_, fun c q => ?_, h.len, h.nd, fun c m => ⟨(h.own c m).1, ?_⟩, fun i a b e1 e2 => ?_, ⟨fun t ht => ?_, h.tb.nF, fun b ps => ?_⟩⟩
  · rw [upd_ne (ne_of_none q (h.freeF e))]; exact h.sF _ _ q
  · by_cases hc : c = p
    · subst hc; rw [upd_same] at q ⊢; exact q
    · rw [upd_ne hc] at q ⊢; exact h.sR _ _ q
  · by_cases hc : c = p
    · subst hc; exact absurd (h.freeF e) q
    · rw [upd_ne hc]; exact h.dj c q
  · have hc : c ≠ p := fun z => h.notin e (z ▸ m)
    rw [upd_ne hc]; exact (h.own c m).2
  · have hc : a ≠ p := fun z => h.notin e (z ▸ List.mem_of_getElem? e1)
    exact (h.ob i a b e1 e2).mono (Same.refl _) (Ext.refl _) (upd_ne hc)
  · obtain ⟨t1, t2, t3, t4⟩ := h.tb.at_ t ht
    exact ⟨t1.ext fun b u q => by rw [upd_ne (ne_of_none q e)]; exact q, t2, by rw [upd_ne (fun (z : t.1 = p) => tabs_here t1 (by rw [z]; exact e))]; exact t3, t4⟩
  · by_cases hb : b = p
    · rw [hb, upd_same]; exact fun z => hn ps (Option.some.inj z)
    · rw [upd_ne hb]; exact h.tb.nR b ps
theorem Holds.at_guard (h : Holds W (upd Rs p o) F H r st) : H p = some o ∧ F p = none ∧ p ∉ r := by
  refine ⟨h.sR _ _ upd_same, ?_, fun m => ?_⟩
  · cases q : F p with
    | none => rfl
    | some u =>
      have := h.dj p (by rw [q]; simp)
      rw [upd_same] at this; cases this
  · have := (h.own p m).2
    rw [upd_same] at this; cases this
theorem Holds.reguard (h : Holds W (upd Rs p o) F H r st) (hn : ∀ ps, o' ≠ .tbl ps := by intro _ z; cases z) (hx : ∀ φ, o ≠ .ext φ := by intro _ z; cases z) : Holds W (upd Rs p o') F (upd H p o') r st := by
  obtain ⟨e0, e1, e2⟩ := h.at_guard
  refine ⟨fun c u q => ?_, fun c u q => ?_, fun c q => ?_, h.len, h.nd, fun c m => ⟨(h.own c m).1, ?_⟩, fun i a b e1' e2' => ?_, ⟨fun t ht => ?_, h.tb.nF, fun b ps => ?_⟩⟩
  · rw [upd_ne (fun z => by rw [z, e1] at q; cases q)]; exact h.sF _ _ q
  · by_cases hc : c = p
    · subst hc; rw [upd_same] at q ⊢; exact q
    · rw [upd_ne hc] at q ⊢
      exact h.sR c u (by rw [upd_ne hc]; exact q)
  · by_cases hc : c = p
    · subst hc; exact absurd e1 q
    · have := h.dj c q
      rw [upd_ne hc] at this ⊢; exact this
  · have hc : c ≠ p := fun z => e2 (z ▸ m)
    have := (h.own c m).2
    rw [upd_ne hc] at this ⊢; exact this
  · have hc : a ≠ p := fun z => e2 (z ▸ List.mem_of_getElem? e1')
    exact (h.ob i a b e1' e2').mono (Same.refl _) (Ext.refl _) (upd_ne hc)
  · obtain ⟨t1, t2, t3, t4⟩ := h.tb.at_ t ht
    have hp : t.1 ≠ p := fun z => by rw [z, upd_same] at t3; cases t3
    refine ⟨tabs_keep t1 fun a v q z => ?_, t2, by rw [upd_ne hp] at t3 ⊢; exact t3, t4⟩
    rw [upd_ne fun w => ?_]
    · exact q
    · rw [w, e0] at q
      cases q
      rcases z with ⟨ps, z⟩ | ⟨φ, z⟩
      · exact h.tb.nR p ps (by rw [upd_same, z])
      · exact hx φ z
  · by_cases hb : b = p
    · rw [hb, upd_same]; exact fun z => hn ps (Option.some.inj z)
    · have := h.tb.nR b ps
      rw [upd_ne hb] at this ⊢; exact this
theorem Holds.thaw (h : Holds W (upd Rs p o) F H r st) (e : Rs p = none) : Same F (upd F p o) ∧ Holds W Rs (upd F p o) H r st := by
  obtain ⟨e0, e1, e2⟩ := h.at_guard
  have sF : Same F (upd F p o) := fun b u q => by rw [upd_ne (ne_of_none q e1)]; exact q
  refine ⟨sF, ⟨fun c u q => ?_, fun c u q => ?_, fun c q => ?_, h.len, h.nd, fun c m => ?_, fun i a b e1' e2' => ?_, ⟨fun t ht => ?_, fun b ps => ?_, fun b ps z => ?_⟩⟩⟩
  · by_cases hc : c = p
    · subst hc; rw [upd_same] at q; cases q; exact e0
    · rw [upd_ne hc] at q; exact h.sF _ _ q
  · have hc : c ≠ p := ne_of_none q e
    exact h.sR c u (by rw [upd_ne hc]; exact q)
  · by_cases hc : c = p
    · rw [hc]; exact e
    · rw [upd_ne hc] at q
      have := h.dj c q
      rw [upd_ne hc] at this; exact this
  · have hc : c ≠ p := fun z => e2 (z ▸ m)
    have := h.own c m
    rw [upd_ne hc] at this ⊢; exact this
  · exact (h.ob i a b e1' e2').mono sF (Ext.refl _) rfl
  · obtain ⟨t1, t2, t3, t4⟩ := h.tb.at_ t ht
    have hp : t.1 ≠ p := fun z => by rw [z, upd_same] at t3; cases t3
    exact ⟨t1, by rw [upd_ne hp]; exact t2, by rw [upd_ne hp] at t3; exact t3, t4⟩
  · by_cases hb : b = p
    · rw [hb, upd_same]
      intro z
      exact h.tb.nR p ps (by rw [upd_same]; exact z)
    · rw [upd_ne hb]; exact h.tb.nF b ps
  · by_cases hb : b = p
    · rw [hb, e] at z; cases z
    · exact h.tb.nR b ps (by rw [upd_ne hb]; exact z)
theorem Holds.adopt {b : Ob} (h : Holds W (upd Rs p o) F H r st) (e : Rs p = none) (k : ObOk W F (r ++ [p]) H p b) : Holds W Rs F H (r ++ [p]) (st ++ [b]) := by
  obtain ⟨e0, e1, e2⟩ := h.at_guard
  refine ⟨h.sF, fun c u q => ?_, fun c q => ?_, by simp [h.len], ?_, fun c m => ?_, fun i a o' e1' e2' => ?_, ⟨fun t ht => ?_, h.tb.nF, fun b ps z => ?_⟩⟩
  · have hc : c ≠ p := ne_of_none q e
    exact h.sR c u (by rw [upd_ne hc]; exact q)
  · by_cases hc : c = p
    · rw [hc]; exact e
    · have := h.dj c q
      rw [upd_ne hc] at this; exact this
  · rw [List.nodup_append]
    refine ⟨h.nd, by simp, fun a ha b hb => ?_⟩
    have : b = p := by simpa using hb
    subst this
    exact fun z => e2 (z ▸ ha)
  · rcases List.mem_append.mp m with m | m
    · have hc : c ≠ p := fun z => e2 (z ▸ m)
      have := h.own c m
      rw [upd_ne hc] at this; exact this
    · have : c = p := by simpa using m
      subst this
      exact ⟨e1, e⟩
  · by_cases hi : i < r.length
    · rw [List.getElem?_append_left hi] at e1'
      rw [List.getElem?_append_left (by rw [← h.len]; exact hi)] at e2'
      exact (h.ob i a o' e1' e2').mono (Same.refl _) (Ext.snoc _ _) rfl
    · have hl : i = r.length := by
        have := (List.getElem?_eq_some_iff.mp e1').1
        simp at this; omega
      subst hl
      rw [List.getElem?_append_right (Nat.le_refl _)] at e1'
      rw [List.getElem?_append_right (by rw [h.len]; exact Nat.le_refl _)] at e2'
      simp at e1'
      rw [h.len] at e2'
      simp at e2'
      subst e1'; subst e2'
      exact k
  · obtain ⟨t1, t2, t3, t4⟩ := h.tb.at_ t ht
    have hp : t.1 ≠ p := fun z => by rw [z, upd_same] at t3; cases t3
    refine ⟨t1, t2, by rw [upd_ne hp] at t3; exact t3, fun m => ?_⟩
    rcases List.mem_append.mp m with m | m
    · exact t4 m
    · exact hp (List.mem_singleton.mp m)
  · by_cases hb : b = p
    · rw [hb, e] at z; cases z
    · exact h.tb.nR b ps (by rw [upd_ne hb]; exact z)
end
section
variable {W : Wd} {X : Cx} {E : XK}
/-- no exception is borne -/
def noX {A : Type} (res : R A) : R A := match res with
  | .ok a => .ok a
  | _ => .bad
@[simp] theorem noX_ok {A : Type} (a : A) : noX (R.ok a) = .ok a := rfl
@[simp] theorem noX_exc {A : Type} (c : Nat) (p : Option D) (st : Store) : noX (R.exc c p st : R A) = .bad := rfl
@[simp] theorem noX_bad {A : Type} : noX (R.bad : R A) = .bad := rfl
theorem bindN {A B : Type} {Rs Rs' F F' : Hp} {r r' : List Addr} {E E' : XK} {res : R A} {f : A → R B} {K : B → Prop} {K' : A → Prop} (h : PostX W Rs F r ((noX res).bind f) K E) (k : ∀ a, res = .ok a → PostX W Rs F r (f a) K E → K' a) : PostX W Rs' F' r' res K' E' := by
  cases res with
  | ok a => exact k a rfl h
  | exc c p st' => exact h.elim
  | bad => exact h
def DTs (W : Wd) (X : Cx) (E : XK) (ifs : List Expr) (f : TV) : Prop := PTs X ifs (tDT W E f)
def tYesD : TV := fun _ st => .ok (true, st)
theorem dts_nil : DTs W X E [] tYesD := ⟨fun pins s sg H Q I ⟨Rs, F, r, env, st, a, b, c⟩ => pts_nil.run pins s sg H Q I (onT_here a c)⟩
theorem dts_one {c : Expr} {f : TV} (h : DT W X E c f) : DTs W X E [c] f := pts_one h
def wipeD (env : Env) : List Nat → Env
  | [] => env
  | v :: vs => (wipeD env vs).set v none
theorem wipe_ok {F : Hp} {r : List Addr} {sg : St} {env : Env} (h : EnvOk F r sg env) : ∀ vs : List Nat, EnvOk F r (wipe sg vs) (wipeD env vs)
  | [] => h
  | v :: vs => by
    have ih := wipe_ok h vs
    unfold wipe wipeD
    refine ⟨by simp [ih.len], fun j e q => ?_⟩
    by_cases hj : v = j
    · subst hj
      by_cases hl : v < (wipeD env vs).length
      · rw [List.getElem?_set_self hl] at q; cases q
      · rw [List.getElem?_eq_none (by simp; omega)] at q; cases q
    · rw [List.getElem?_set_ne hj] at q ⊢
      exact ih.at_ j e q
/-- the block's target: one name, or two -/
inductive Tg1 where
  | one (j : Nat)
  | two (j k : Nat)
def Tg1.put : Tg1 → D → Env → Option Env
  | .one j, d, env => some (env.set j (some d))
  | .two j k, .tup [a, b], env => some ((env.set j (some a)).set k (some b))
  | _, _, _ => none
def Tg1.inside : Tg1 → List Nat → Bool
  | .one j, vs => vs.contains j
  | .two j k, vs => vs.contains j && vs.contains k
def Tg1.rd (K : PySem.W.Frag) : Tg1 → TG
  | .one j => gName j
  | .two j k => gTup K 2 (gCons (gName j) (gCons (gName k) gNil))
def Tg1.On (X : Cx) (tg : Expr) (t : Tg1) : Prop := PG X tg (t.rd X.K)
theorem tg_one {x : Str} {pos : Pos} {j : Nat} (hN : X.N.Nodup) (hi : X.N[j]? = some x) (hx : Loc X.env.scope x) (hf : X.fn x = true ∨ X.env.scope.names.lookup x = some .local := by first | exact .inl rfl | exact .inr rfl | assumption) : Tg1.On X (.Name x pos) (.one j) := pg_name hN hi hx hf
theorem wipe_set {sg : St} {x : Option V} {j : Nat} : ∀ {vs : List Nat}, vs.contains j = true → wipe (sg.set j x) vs = wipe sg vs
  | [], h => by simp at h
  | v :: vs, h => by
    unfold wipe
    by_cases hj : j = v
    · subst hj
      have : ∀ (vs : List Nat) (sg : St), (wipe (sg.set j x) vs).set j none = (wipe sg vs).set j none := by
        intro vs
        induction vs with
        | nil => intro sg; unfold wipe; rw [List.set_set]
        | cons u us ih =>
          intro sg
          unfold wipe
          by_cases hu : u = j
          · subst hu; rw [List.set_set, List.set_set, ih]
          · rw [List.set_comm _ _ hu, List.set_comm _ _ hu, ih]
      exact this vs sg
    · have : vs.contains j = true := by
        rw [List.contains_cons] at h
        simp [hj] at h
        simpa using h
      rw [wipe_set this]
theorem wipe_wipe {sg : St} : ∀ {vs : List Nat}, wipe (wipe sg vs) vs = wipe sg vs := by
  intro vs
  have : ∀ (us : List Nat) (sg : St), (∀ u ∈ us, vs.contains u = true) → wipe (wipe sg us) vs = wipe sg vs := by
    intro us
    induction us with
    | nil => intro sg _; rfl
    | cons u us ih =>
      intro sg h
      rw [wipe, wipe_set (h u (by simp)), ih sg fun v hv => h v (by simp [hv])]
  exact this vs sg fun u hu => by simpa using hu
theorem Tg1.post {t : Tg1} {vs : List Nat} (hin : t.inside vs = true) {Rs F H : Hp} {r : List Addr} {st : Store} {sg : St} {env : Env} {v : V} {d : D} {env1 : Env} {N : St → Hp → Prop} (hH : Holds W Rs F H r st) (hE : EnvOk F r (wipe sg vs) env) (k : Rep F r v d) (e : t.put d env = some env1)
    (q : ∀ sg2, EnvOk F r sg2 env1 → wipe sg2 vs = wipe sg vs → N sg2 H) : t.rd X.K v (wipe sg vs) H N := by
  cases t with
  | one j =>
    cases e
    exact q _ (hE.set k j) (by rw [wipe_set hin, wipe_wipe])
  | two j l =>
    unfold Tg1.inside at hin
    rw [Bool.and_eq_true] at hin
    cases d with
    | tup ds =>
      match ds, e, k with
      | [a, b], e, .tup h (.cons k1 (.cons k2 .nil)) =>
        cases e
        refine ⟨_, _, rfl, .of (hH.sF _ _ h), rfl, _, _, rfl, _, _, rfl, rfl, q _ ((hE.set k1 j).set k2 l) ?_⟩
        rw [wipe_set hin.2, wipe_set hin.1, wipe_wipe]
      | [], e, _ => cases e
      | [_], e, _ => cases e
      | _ :: _ :: _ :: _, e, _ => cases e
    | _ => cases e
def lcGo (sub : List (Nat × List D)) (t : Tg1) (tt : TV) (te : EV) (env0 : Env) : List D → List D → Store → R (List D × Store)
  | [], acc, st => if still sub st = true then .ok (acc, st) else .bad
  | d :: ds, acc, st => if still sub st = true then (match t.put d env0 with
    | some env1 => (noX (tt env1 st)).bind fun b => if b.1 = true then (noX (te env1 b.2)).bind fun y => lcGo sub t tt te env0 ds (acc ++ [y.1]) y.2 else lcGo sub t tt te env0 ds acc b.2
    | none => .bad) else .bad
def eLc (m : Bool) (it : IV) (vs : List Nat) (t : Tg1) (tt : TV) (te : EV) : EV := fun env st => (it env st).bind fun a => if a.1.1.length ≤ LIM then
  (lcGo a.1.2 t tt te (wipeD env vs) a.1.1 [] a.2).bind fun b => newL m b.1 b.2 else .bad
theorem lc_post {m : Bool} {tg iter : Expr} {wi : TI} {it : IV} {vs : List Nat} {t : Tg1} {tt : TV} {te : EV} (hin : t.inside vs = true)
    (qi : ∀ Rs F H r sg env st (Q : It → Hp → Prop), Holds W Rs F H r st → EnvOk F r sg env → PostX W Rs F r (it env st) (fun a => ∀ J F' H' r', Same F F' → Ext r r' → Holds W Rs F' H' r' a.2 → Drv W F' r' J a.1 → Q J H') E → wi sg H Q)
    {Rs F H r sg env st Q} (hH : Holds W Rs F H r st) (hE : EnvOk F r sg env) (hP : Post W Rs F r (eLc m it vs t tt te env st) Q E) : tLc wi (t.rd X.K) (tDT W E0 tt) (tDE W E0 te) vs sg H Q := by
  refine qi Rs F H r sg env st _ hH hE (bindX hP fun a ea z J F0 H0 r0 s0 x0 h0 drv => ?_)
  obtain ⟨⟨items, sub⟩, st0⟩ := a
  by_cases hl : items.length ≤ LIM
  · simp only [if_pos hl] at z
    intro D hD
    have z0 : Post W Rs F0 r0 ((lcGo sub t tt te (wipeD env vs) items [] st0).bind fun b => newL m b.1 b.2) Q E := Post.later s0 x0 z
    have hE0 := wipe_ok (hE.mono s0 x0) vs
    have hRD : Rs D = none := h0.freeR hD
    refine ⟨fun i mm H' => mm = items.length - i ∧ i ≤ items.length ∧ ∃ F' r' st' acc accV, Same F0 F' ∧ Ext r0 r' ∧ Holds W (upd Rs D (.lst accV)) F' H' r' st' ∧ Reps F' r' accV acc ∧ acc.length ≤ i ∧
      Post W Rs F' r' ((lcGo sub t tt te (wipeD env vs) (items.drop i) acc st').bind fun b => newL m b.1 b.2) Q E,
      ⟨items.length, by simp, Nat.zero_le _, F0, r0, st0, [], [], Same.refl _, Ext.refl _, h0.guard hD, .nil, Nat.le_refl _, z0⟩, ?_⟩
    rintro i mm H' ⟨rfl, hi, F', r', st', acc, accV, s, x, hH', kacc, hacc, hP'⟩
    have hlen := kacc.length
    by_cases hlt : i < items.length
    · rw [List.drop_eq_getElem_cons hlt] at hP'
      unfold lcGo at hP'
      by_cases hst : still sub st' = true
      · rw [if_pos hst] at hP'
        cases ep : t.put items[i] (wipeD env vs) with
        | none => rw [ep] at hP'; exact hP'.elim
        | some env1 =>
          rw [ep] at hP'
          simp only at hP'
          obtain ⟨d1, _⟩ := drv i _ F' H' r' st' s x hH' hst
          obtain ⟨go, yld⟩ := d1 items[i] (by simp [hlt])
          refine .inr ⟨go, fun H2 => i + 1 ≤ items.length ∧ ∃ F' r' st' acc accV, Same F0 F' ∧ Ext r0 r' ∧ Holds W (upd Rs D (.lst accV)) F' H2 r' st' ∧ Reps F' r' accV acc ∧ acc.length ≤ i + 1 ∧
            Post W Rs F' r' ((lcGo sub t tt te (wipeD env vs) (items.drop (i + 1)) acc st').bind fun b => newL m b.1 b.2) Q E, fun H2 y => ⟨items.length - (i + 1), by omega, rfl, y⟩, fun v H1 y => ?_⟩
          obtain ⟨F1, s1, h1, k1⟩ := yld v H1 y
          refine Tg1.post hin h1 (hE0.mono (s.trans s1) x) k1 ep fun sg2 hE2 hw => ⟨hw, ?_⟩
          have hP1 := Post.later s1 (Ext.refl _) hP'
          -- the tests
          have asc : ((noX (tt env1 st')).bind fun b => if b.1 = true then (noX (te env1 b.2)).bind fun y => lcGo sub t tt te (wipeD env vs) (items.drop (i + 1)) (acc ++ [y.1]) y.2 else lcGo sub t tt te (wipeD env vs) (items.drop (i + 1)) acc b.2).bind (fun b => newL m b.1 b.2) =
              (noX (tt env1 st')).bind fun b => (if b.1 = true then (noX (te env1 b.2)).bind fun y => lcGo sub t tt te (wipeD env vs) (items.drop (i + 1)) (acc ++ [y.1]) y.2 else lcGo sub t tt te (wipeD env vs) (items.drop (i + 1)) acc b.2).bind (fun b => newL m b.1 b.2) := by
            cases noX (tt env1 st') <;> rfl
          rw [asc] at hP1
          refine ⟨_, F1, r', env1, st', h1, hE2, bindN hP1 fun b eb z2 F2 H2 r2 s2 x2 h2 => ?_⟩
          obtain ⟨bb, st2⟩ := b
          cases bb with
          | false =>
            exact ⟨hlt, F2, r2, st2, acc, accV, (s.trans s1).trans s2, x.trans x2, h2, kacc.mono (s1.trans s2) x2, by omega, Post.later s2 x2 z2⟩
          | true =>
            have asc2 : ((noX (te env1 st2)).bind fun y => lcGo sub t tt te (wipeD env vs) (items.drop (i + 1)) (acc ++ [y.1]) y.2).bind (fun b => newL m b.1 b.2) = (noX (te env1 st2)).bind fun y => (lcGo sub t tt te (wipeD env vs) (items.drop (i + 1)) (acc ++ [y.1]) y.2).bind (fun b => newL m b.1 b.2) := by
              cases noX (te env1 st2) <;> rfl
            simp only [if_true] at z2
            rw [asc2] at z2
            refine ⟨_, F2, r2, env1, st2, h2, hE2.mono s2 x2, bindN (Post.later s2 x2 z2) fun y ey z3 F3 H3 r3 v3 s3 x3 h3 k3 => ?_⟩
            refine ⟨accV, h3.at_guard.1, by rw [hlen]; exact lim_lt (by omega), hlt, F3, r3, y.2, acc ++ [y.1], accV ++ [v3], ((s.trans s1).trans s2).trans s3, (x.trans x2).trans x3, h3.reguard, Reps.snoc (kacc.mono ((s1.trans s2).trans s3) (x2.trans x3)) k3, by simp; omega, Post.later s3 x3 z3⟩
      · rw [if_neg hst] at hP'; exact hP'.elim
    · have e : items.drop i = [] := List.drop_eq_nil_of_le (by omega)
      rw [e] at hP'
      unfold lcGo at hP'
      by_cases hst : still sub st' = true
      · rw [if_pos hst] at hP'
        obtain ⟨_, d2⟩ := drv i _ F' H' r' st' s x hH' hst
        refine .inl ⟨d2 (by simpa using hlt), ?_⟩
        change Post W Rs F' r' (newL m acc st') Q E at hP'
        unfold newL at hP'
        cases m with
        | true =>
          refine hP' F' H' (r' ++ [D]) (.ref D) (Same.refl _) (Ext.snoc _ _) (hH'.adopt hRD ⟨accV, hH'.at_guard.1, kacc.mono (Same.refl _) (Ext.snoc _ _)⟩) (.ref ?_)
          show (r' ++ [D])[st'.length]? = some D
          rw [← hH'.len, List.getElem?_append_right (Nat.le_refl _)]; simp
        | false =>
          obtain ⟨s2, h2⟩ := hH'.thaw hRD
          exact hP' _ H' r' (.ref D) s2 (Ext.refl _) h2 (.lst upd_same (kacc.mono s2 (Ext.refl _)))
      · rw [if_neg hst] at hP'; exact hP'.elim
  · simp only [if_neg hl] at z
    exact z.elim
theorem de_lc (m : Bool) {elt tg iter : Expr} {ifs : List Expr} {scope : Scope} {own : List (Str × Nat)} {vs : List Nat} {pos : Pos} {it : IV} {t : Tg1} {tt : TV} {te : EV} (hc : X.calm = true) (hN : X.N.Nodup) (hi : DI W X E tg iter it) (ok : BlkOk X.N X.env.scope scope own) (hv : own.map (·.2) = vs) (hin : t.inside vs = true)
    (hg : ∀ (s : Shared) (H : Hp) (C : Addr) (cl : List (Str × Addr)) (fp : List Addr), Tg1.On (X.blk s H scope (compEnvC scope cl C X.env) fp) tg t) (ht : ∀ (s : Shared) (H : Hp) (C : Addr) (cl : List (Str × Addr)) (fp : List Addr), DTs W (X.blk s H scope (compEnvC scope cl C X.env) fp) E0 ifs tt)
    (he : ∀ (s : Shared) (H : Hp) (C : Addr) (cl : List (Str × Addr)) (fp : List Addr), DE W (X.blk s H scope (compEnvC scope cl C X.env) fp) E0 elt te) (hs : ∀ x, foldedSetIterable iter X.env x = pure x := by intro _; rfl) :
    DE W X E (.ListComp elt [⟨tg, iter, ifs, 0⟩] scope pos) (eLc m it vs t tt te) := by
  obtain ⟨wi, pi, qi⟩ := hi
  subst hv
  exact .mk (pe_lc (g := t.rd X.K) hc hN pi ok (fun s H C cl fp => hg s H C cl fp) ht he hs) fun Rs F H r sg env st Q hH hE hP => lc_post (tg := tg) (iter := iter) hin qi hH hE hP
theorem ds_setLc (m : Bool) {i : Nat} {y : Str} {py : Pos} {elt tg iter : Expr} {ifs : List Expr} {scope : Scope} {own : List (Str × Nat)} {vs : List Nat} {pos spos : Pos} {it : IV} {t : Tg1} {tt : TV} {te : EV} (hc : X.calm = true) (hN : X.N.Nodup) (hy : X.N[i]? = some y) (hyl : X.env.scope.names.lookup y = some .local)
    (hsw : swapsWith (.ListComp elt [⟨tg, iter, ifs, 0⟩] scope pos) (some (.Name y py)) spos.line X.env = pure true) (hi : DI W X E tg iter it) (ok : BlkOk X.N X.env.scope scope own) (hv : own.map (·.2) = vs) (hin : t.inside vs = true)
    (hg : ∀ (s : Shared) (H : Hp) (C : Addr) (cl : List (Str × Addr)) (fp : List Addr), Tg1.On (X.blk s H scope (compEnvC scope cl C X.env) fp) tg t) (ht : ∀ (s : Shared) (H : Hp) (C : Addr) (cl : List (Str × Addr)) (fp : List Addr), DTs W (X.blk s H scope (compEnvC scope cl C X.env) fp) E0 ifs tt)
    (he : ∀ (s : Shared) (H : Hp) (C : Addr) (cl : List (Str × Addr)) (fp : List Addr), DE W (X.blk s H scope (compEnvC scope cl C X.env) fp) E0 elt te) (hs : ∀ x, foldedSetIterable iter X.env x = pure x := by intro _; rfl) :
    DS W X E (.Assign [.Name y py] (.ListComp elt [⟨tg, iter, ifs, 0⟩] scope pos) spos) (sAsg (eLc m it vs t tt te) (gN i)) := by
  obtain ⟨wi, pi, qi⟩ := hi
  subst hv
  exact .mk (ps_setLc (g := t.rd X.K) hc hN hy hyl hsw pi ok (fun s H C cl fp => hg s H C cl fp) ht he hs) fun Rs F H r sg env st D hH hE hP => sAsg_post (fun Rs F H r sg env st Q hH hE hP => lc_post (tg := tg) (iter := iter) hin qi hH hE hP) gN_ok hH hE hP
def intsD (lo : Int) (n : Nat) : List D := (List.range n).map fun (i : Nat) => D.int (lo + (i : Int))
theorem ints_at (lo : Int) (n i : Nat) (h : i < n) : (intsD lo n)[i]? = some (.int (lo + (i : Int))) := by simp [intsD, h]
theorem drv_range {F0 : Hp} {r0 : List Addr} {lo : Int} {n : Nat} : Drv W F0 r0 (Itr lo n) (intsD lo n, []) := fun i Rs F H r st s x hH hst => by
  refine ⟨fun d e => ?_, fun hl => by show n ≤ i; simpa [intsD] using hl⟩
  have hi : i < n := by
    have := (List.getElem?_eq_some_iff.mp e).1
    simpa [intsD] using this
  rw [show (intsD lo n, ([] : List (Nat × List D))).1 = intsD lo n from rfl, ints_at lo n i hi] at e
  cases e
  refine ⟨hi, fun y H' yl => ?_⟩
  obtain ⟨e2, e3⟩ := yl
  subst e2 e3
  exact ⟨F, Same.refl _, hH, .int _⟩
def iR1 (g : AV) : IV := fun env st => (g env st).bind fun a => match a.1 with
  | [.int n] => if -1000000 ≤ n ∧ n ≤ 1000000 then .ok ((intsD 0 n.toNat, []), a.2) else .bad
  | _ => .bad
def iR2 (g : AV) : IV := fun env st => (g env st).bind fun a => match a.1 with
  | [.int i, .int n] => if (-1000000 ≤ i ∧ i ≤ 1000000) ∧ -1000000 ≤ n ∧ n ≤ 1000000 then .ok ((intsD i (n - i).toNat, []), a.2) else .bad
  | _ => .bad
theorem di_r1 {tg a : Expr} {g : AV} {p pos : Pos} (hg : Gl X "range") (hm : X.mg "range" = none) (ha : DA W X E [a] g) (hs : starEach [a] X.env = [(false, eval a X.env)] := by rfl) : DI W X E tg (.Call (.Name "range" p) [a] [] pos) (iR1 g) := by
  obtain ⟨t, pa, q⟩ := ha.ex
  refine ⟨_, pi_range1 hg hm pa hs, fun Rs F H r sg env st Q hH hE hP => ?_⟩
  refine q Rs F H r sg env st _ hH hE (bindX hP fun a ea z F1 H1 r1 vs s1 x1 h1 k1 => ?_)
  obtain ⟨ds, st1⟩ := a
  simp only at z
  split at z
  · rename_i n
    split at z
    · rename_i hc
      match k1 with
      | .cons (.int _) .nil => exact ⟨n, rfl, by omega, by omega, z _ F1 H1 r1 s1 x1 h1 drv_range⟩
    · exact z.elim
  · exact z.elim
theorem di_r2 {tg a b : Expr} {g : AV} {p pos : Pos} (hg : Gl X "range") (hm : X.mg "range" = none) (ha : DA W X E [a, b] g) (hs : starEach [a, b] X.env = [(false, eval a X.env), (false, eval b X.env)] := by rfl) (hs2 : starEach [b] X.env = [(false, eval b X.env)] := by rfl) :
    DI W X E tg (.Call (.Name "range" p) [a, b] [] pos) (iR2 g) := by
  obtain ⟨t, pa, q⟩ := ha.ex
  refine ⟨_, pi_range2 hg hm pa hs hs2, fun Rs F H r sg env st Q hH hE hP => ?_⟩
  refine q Rs F H r sg env st _ hH hE (bindX hP fun a ea z F1 H1 r1 vs s1 x1 h1 k1 => ?_)
  obtain ⟨ds, st1⟩ := a
  simp only at z
  split at z
  · rename_i i n
    split at z
    · rename_i hc
      match k1 with
      | .cons (.int _) (.cons (.int _) .nil) => exact ⟨i, n, rfl, ⟨by omega, by omega, by omega, by omega⟩, z _ F1 H1 r1 s1 x1 h1 drv_range⟩
    · exact z.elim
  · exact z.elim
end
end Dl
namespace Dl
open PySem L2
section
variable {W : Wd} {X : Cx} {E : XK}
def pairUp (ds : List D) : List D := ds.mapIdx fun (i : Nat) d => D.tup [.int (i : Int), d]
theorem pairUp_len (ds : List D) : (pairUp ds).length = ds.length := by simp [pairUp]
theorem pairUp_at {ds : List D} {i : Nat} {e : D} (h : (pairUp ds)[i]? = some e) : ∃ d, ds[i]? = some d ∧ e = .tup [.int (i : Int), d] := by
  unfold pairUp at h
  rw [List.getElem?_mapIdx] at h
  cases q : ds[i]? with
  | none => rw [q] at h; cases h
  | some d => rw [q] at h; cases h; exact ⟨d, rfl, rfl⟩
/-- a list by its items, as it stands -/
def listOf (st : Store) : D → Option Wk
  | .lst ds => some (ds, [])
  | .ref n => match st[n]? with
    | some (.lst ds) => some (ds, [(n, ds)])
    | _ => none
  | _ => none
theorem listOf_ok {Rs F H : Hp} {r : List Addr} {st : Store} {v : V} {d : D} {w : Wk} (h : Holds W Rs F H r st) (k : Rep F r v d) (e : listOf st d = some w) :
    ∃ a, v = .ref a ∧ (∃ vs, H a = some (.lst vs) ∧ Reps F r vs w.1) ∧ ∀ Rs' F' H' r' st', Same F F' → Ext r r' → Holds W Rs' F' H' r' st' → still w.2 st' = true → ∃ vs, H' a = some (.lst vs) ∧ Reps F' r' vs w.1 := by
  cases k with
  | @lst a vs ds q k => cases e; exact ⟨a, rfl, ⟨vs, h.sF _ _ q, k⟩, fun Rs' F' H' r' st' s x h' _ => ⟨vs, h'.sF _ _ (s _ _ q), k.mono s x⟩⟩
  | @ref a n q =>
    unfold listOf at e
    simp only at e
    split at e
    · rename_i ds e1
      cases e
      obtain ⟨vs, q1, k⟩ := h.ob n a _ q e1
      refine ⟨a, rfl, ⟨vs, q1, k⟩, fun Rs' F' H' r' st' s x h' hst => ?_⟩
      obtain ⟨vs', q1', k'⟩ := h'.ob n a _ (x _ _ q) (still_at (ds := ds) hst List.mem_cons_self)
      exact ⟨vs', q1', k'⟩
    · cases e
  | _ => cases e
theorem drv_enum {K : PySem.W.Frag} {F0 : Hp} {r0 : List Addr} {a : Addr} {w : Wk} (h : ∀ Rs F H r st, Same F0 F → Ext r0 r → Holds W Rs F H r st → still w.2 st = true → ∃ vs, H a = some (.lst vs) ∧ Reps F r vs w.1) : Drv W F0 r0 (Ite K a) (pairUp w.1, w.2) := fun i Rs F H r st s x hH hst => by
  obtain ⟨vs, h1, k1⟩ := h Rs F H r st s x hH hst
  refine ⟨fun d e => ?_, fun hl => ⟨vs, .of h1, by rw [k1.length]; rw [pairUp_len] at hl; exact hl⟩⟩
  obtain ⟨d', e', rfl⟩ := pairUp_at e
  obtain ⟨v, e1, k⟩ := k1.get e'
  refine ⟨⟨vs, v, .of h1, e1⟩, fun y H' yl => ?_⟩
  obtain ⟨T, z, rfl, hT, rfl, yl⟩ := yl
  have := yl vs (.of h1)
  rw [e1] at this; cases this
  obtain ⟨s1, h2⟩ := hH.frozen (o := .tup [.int (i : Nat), v]) hT
  exact ⟨_, s1, h2, .tup upd_same (.cons (.int _) (.cons (k.mono s1 (Ext.refl _)) .nil))⟩
def iEn (g : AV) : IV := fun env st => (g env st).bind fun a => match a.1 with
  | [d] => match listOf a.2 d with
    | some w => .ok ((pairUp w.1, w.2), a.2)
    | none => .bad
  | _ => .bad
theorem di_enum {e : Expr} {g : AV} {p pos tpos : Pos} {elts : List Expr} {kk : Nat} (hg : Gl X "enumerate") (hm : X.mg "enumerate" = none) (ha : DA W X E [e] g) (hs : starEach [e] X.env = [(false, eval e X.env)] := by rfl) :
    DI W X E (.Tuple elts kk tpos) (.Call (.Name "enumerate" p) [e] [] pos) (iEn g) := by
  obtain ⟨t, pa, q⟩ := ha.ex
  refine ⟨_, pi_enum hg hm pa hs, fun Rs F H r sg env st Q hH hE hP => ?_⟩
  refine q Rs F H r sg env st _ hH hE (bindX hP fun a ea z F1 H1 r1 vs s1 x1 h1 k1 => ?_)
  obtain ⟨ds, st1⟩ := a
  simp only at z
  split at z
  · split at z
    · rename_i d w e
      match k1 with
      | .cons k .nil =>
        obtain ⟨a, rfl, ⟨vs, h2, k2⟩, hh⟩ := listOf_ok h1 k e
        exact ⟨a, vs, rfl, .of h2, z _ F1 H1 r1 s1 x1 h1 (drv_enum hh)⟩
    · exact z.elim
  · exact z.elim
def zipUp : List D → List D → List D
  | a :: as, b :: bs => .tup [a, b] :: zipUp as bs
  | _, _ => []
def iZp (g : AV) : IV := fun env st => (g env st).bind fun a => match a.1 with
  | [d, e] => match listOf a.2 d, listOf a.2 e with
    | some w, some w' => .ok ((zipUp w.1 w'.1, w.2 ++ w'.2), a.2)
    | _, _ => .bad
  | _ => .bad
end
end Dl
namespace Dl
open PySem L2
section
variable {P : Program} {w : World} {W : Wd} {X : Cx} {E : XK}
/-- THE RULE for a def -/
theorem fnD {mg : Str → Option Value} {base : Heap} {x qual : Str} {s : Stmt} {f : Addr} {fd : FuncData} {N ps : List Str} {k n : Nat} {b : SV} (F : Fun W.K x qual s f fd) (S : FnScope N ps (defScope s)) (hn : ps.length = n)
    (hbody : ∀ (cdv : Value) (A : Around) (outer : List PySem.Env) (sh : Shared) (H : Hp) (E : XK), Room k (A.deeper (PyProof.Rows.envOfC qual (defScope s) sh.heap.objs.size f cdv)) →
      DB W (cxOf (L2.CX P w) P w W.K mg base N qual (defScope s) f cdv A outer sh H E) E (defBody s) b) : FnOk P w W.K mg base (L2.CX P w) (k + 1) f fd ps (spD W n (funD N.length b)) := by
  refine F.okX S (fun vs H Q E h => ?_) (fun cdv A outer sh H vs Q E hr h => ?_)
  · obtain ⟨Rs, F, r, st, ds, _, h, hl, _⟩ := h
    rw [h.length, hl, hn]
  · obtain ⟨Rs, F, r, st, ds, hH, hk, hl, hP⟩ := h
    obtain ⟨t, p, q⟩ := (hbody cdv A outer sh H E hr).ex
    refine ⟨t, p, q Rs F H r _ _ st _ hH (EnvOk.start hk) ?_⟩
    unfold funD at hP
    cases eb : b (List.map some ds ++ List.replicate (N.length - ds.length) none) st with
    | nx e s' => rw [eb] at hP; exact fun F' H' r' sg' s1 x1 h1 k1 => hP F' H' r' .non s1 x1 h1 .non
    | rt d s' => rw [eb] at hP; exact hP
    | bk e s' => rw [eb] at hP; exact hP.elim
    | ct e s' => rw [eb] at hP; exact hP.elim
    | exc c p s' => rw [eb] at hP; exact hP
    | bad => rw [eb] at hP; exact hP.elim
def eCall (n : Nat) (g : FV) (ga : AV) : EV := fun env st => (ga env st).bind fun a => if a.1.length = n then g a.1 a.2 else .bad
section
variable {CX : CXT} {k j n : Nat} {f : Addr} {fd : FuncData} {ps : List Str} {g : FV} {x : Str} {e : Expr} {es : List Expr} {p pos apos : Pos} {ga : AV}
theorem de_call (hK : X.K = W.K) (F : FnOk X.prog X.w W.K X.mg X.base CX k f fd ps (spD W n g)) (hr : Room j X.A) (hj : k ≤ j) (hg : Gl X x) (hm : X.mg x = some (.ref f)) (hk : PySem.W.keepIn W.K (.ref f) = true) (hb : Binds W.K fd ps []) (hx : Passes CX X E)
    (ha : DA W X E (e :: es) ga) (hdb : (x == ("__debug__" : Str)) = false := by decide) (he : starEach (e :: es) X.env = (false, eval e X.env) :: starEach es X.env := by rfl) (hpl : (backTo pos (starEach es X.env)).any (·.1) = false := by rfl) :
    DE W X E (.Call (.Name x p) (e :: es) [] pos) (eCall n g ga) := by
  obtain ⟨t, pa, q⟩ := ha.ex
  refine .mk (pe_call (sp := spD W n g) (by rw [hK]; exact F) (hr.mono hj) hg hm (by rw [hK]; exact hk) (by rw [hK]; exact hb) .nil hx pa hdb he hpl) fun Rs F H r sg env st Q hH hE hP => ?_
  refine q Rs F H r sg env st _ hH hE (bindX hP fun a ea z F1 H1 r1 vs s1 x1 h1 k1 => ?_)
  by_cases hl : a.1.length = n
  · rw [if_pos hl] at z
    exact ⟨Rs, F1, r1, a.2, a.1, h1, by rw [List.append_nil]; exact k1, hl, Post.later s1 x1 z⟩
  · rw [if_neg hl] at z; exact z.elim
/-- o.m(..), o of the class c -/
def eMeth (c : Nat) (m : Str) (n : Nat) (g : FV) (fo : EV) (ga : AV) : EV := fun env st => (fo env st).bind fun o => match o.1 with
  | .ref i => match o.2[i]? with
    | some (.ins c' fs) => if c' = c ∧ fs.lookup m = none then (ga env o.2).bind fun a => if a.1.length + 1 = n then g (.ref i :: a.1) a.2 else .bad else .bad
    | _ => .bad
  | _ => .bad
theorem meth_post {m : Str} {c : Nat} {fo : EV} {to : TE} {ta : TA}
    (qo : ∀ Rs F H r sg env st Q, Holds W Rs F H r st → EnvOk F r sg env → Post W Rs F r (fo env st) Q E → to sg H Q)
    (qa : ∀ Rs F H r sg env st Q, Holds W Rs F H r st → EnvOk F r sg env → PostA W Rs F r (ga env st) Q E → ta sg H Q)
    {Rs F H r sg env st Q} (hH : Holds W Rs F H r st) (hE : EnvOk F r sg env) (hP : Post W Rs F r (eMeth c m n g fo ga env st) Q E) : tMeth (W.cls c) m (spD W n g) [] E to ta sg H Q := by
  refine qo Rs F H r sg env st _ hH hE (bindX hP fun o eo z F1 H1 r1 v1 s1 x1 h1 k1 => ?_)
  obtain ⟨d, st1⟩ := o
  cases k1 with
  | @ref a i e =>
    simp only at z
    split at z
    · rename_i c' fs e1
      split at z
      · rename_i hc
        obtain ⟨rfl, hm⟩ := hc
        obtain ⟨dx, vfs, e2, k2⟩ := h1.ob i a _ e e1
        refine ⟨a, dx, vfs, rfl, e2, k2.lookN hm, ?_⟩
        refine qa Rs F1 H1 r1 sg env st1 _ h1 (hE.mono s1 x1) (bindX (Post.later s1 x1 z) fun b eb z2 F2 H2 r2 vs s2 x2 h2 k2 => ?_)
        by_cases hl : b.1.length + 1 = n
        · rw [if_pos hl] at z2
          exact ⟨Rs, F2, r2, b.2, .ref i :: b.1, h2, by rw [List.append_nil]; exact .cons (.ref (x2 _ _ e)) k2, hl, Post.later s2 x2 z2⟩
        · rw [if_neg hl] at z2; exact z2.elim
      · exact z.elim
    · exact z.elim
  | _ => exact z.elim
theorem de_meth {o : Expr} {fo : EV} {c : Nat} {m : Str} {pl : Sem Bool} (hK : X.K = W.K) (he : DE W X E o fo) (cl : Cls W.K (W.cls c)) (hm : Meth W.K (W.cls c) m f) (F : FnOk X.prog X.w W.K X.mg X.base CX k f fd ps (spD W n g)) (hr : Room j X.A) (hj : k ≤ j) (hb : Binds W.K fd ps []) (hx : Passes CX X E) (ha : DA W X E (e :: es) ga)
    (hst : starEach (e :: es) X.env = (false, eval e X.env) :: starEach es X.env := by rfl) (hpl : (backTo pos (starEach es X.env)).any (·.1) = false := by rfl)
    (ht : eval (.Call (.Attribute o m apos) (e :: es) [] pos) X.env = (do
      let ov ← eval o X.env
      standAt apos.atName
      let (f, first) ← holding [ov] (getMethod ov m pl)
      callWith pos f first (backTo pos (starEach (e :: es) X.env)) (backToKw pos (keywordEach [] X.env))) := by rfl) :
    DE W X E (.Call (.Attribute o m apos) (e :: es) [] pos) (eMeth c m n g fo ga) := by
  obtain ⟨to, po, qo⟩ := he.ex
  obtain ⟨ta, pa, qa⟩ := ha.ex
  exact .mk (pe_meth (pl := pl) (C := W.cls c) (sp := spD W n g) po (by rw [hK]; exact cl) (by rw [hK]; exact hm) (by rw [hK]; exact F) (hr.mono hj) (by rw [hK]; exact hb) .nil hx pa hst hpl ht) fun Rs F H r sg env st Q hH hE hP => meth_post qo qa hH hE hP
theorem de_meth0 {o : Expr} {fo : EV} {c : Nat} {m : Str} {pl : Sem Bool} (hK : X.K = W.K) (he : DE W X E o fo) (cl : Cls W.K (W.cls c)) (hm : Meth W.K (W.cls c) m f) (F : FnOk X.prog X.w W.K X.mg X.base CX k f fd ps (spD W n g)) (hr : Room j X.A) (hj : k ≤ j) (hb : Binds W.K fd ps []) (hx : Passes CX X E)
    (h : ∀ {to : TE}, PE X o to → PE X (.Call (.Attribute o m apos) [] [] pos) (tMeth (W.cls c) m (spD W n g) [] E to tNil)) :
    DE W X E (.Call (.Attribute o m apos) [] [] pos) (eMeth c m n g fo aNil) := by
  obtain ⟨to, po, qo⟩ := he.ex
  exact .mk (h po) fun Rs F H r sg env st Q hH hE hP => meth_post (ga := aNil) qo (fun Rs F H r sg env st Q hH hE hP => hP F H r [] (Same.refl _) (Ext.refl _) hH .nil) hH hE hP
theorem Holds.waste {Rs F H : Hp} {r : List Addr} {st : Store} {q : Addr} {o : HO} (h : Holds W Rs F H r st) (e : H q = none) : Holds W Rs F (upd H q o) r st := by
  refine ⟨fun c u z => ?_, fun c u z => ?_, h.dj, h.len, h.nd, h.own, fun i a b e1 e2 => ?_, ⟨fun t ht => ?_, h.tb.nF, h.tb.nR⟩⟩
  · rw [upd_ne (ne_of_none z (h.freeF e))]; exact h.sF _ _ z
  · rw [upd_ne (ne_of_none z (h.freeR e))]; exact h.sR _ _ z
  · have hc : a ≠ q := fun z => h.notin e (z ▸ List.mem_of_getElem? e1)
    exact (h.ob i a b e1 e2).mono (Same.refl _) (Ext.refl _) (upd_ne hc)
  · obtain ⟨t1, t2, t3, t4⟩ := h.tb.at_ t ht
    exact ⟨t1.ext fun b u z => by rw [upd_ne (ne_of_none z e)]; exact z, t2, t3, t4⟩
/-- C(..) -/
def eMake (c : Nat) (n : Nat) (g : FV) (ga : AV) : EV := fun env st => (ga env st).bind fun a => if a.1.length + 1 = n then (g (.ref a.2.length :: a.1) (a.2 ++ [.ins c []])).bind fun b => match b.1 with
  | .non => .ok (.ref a.2.length, b.2)
  | _ => .bad else .bad
theorem make_post {c : Nat} {ta : TA}
    (qa : ∀ Rs F H r sg env st Q, Holds W Rs F H r st → EnvOk F r sg env → PostA W Rs F r (ga env st) Q E → ta sg H Q)
    {Rs F H r sg env st Q} (hH : Holds W Rs F H r st) (hE : EnvOk F r sg env) (hP : Post W Rs F r (eMake c n g ga env st) Q E) : tMake (W.cls c) (spD W n g) [] E ta sg H Q := by
  refine qa Rs F H r sg env st _ hH hE (bindX hP fun a ea z F1 H1 r1 vs s1 x1 h1 k1 => ?_)
  intro x dx hx hdx hne
  by_cases hl : a.1.length + 1 = n
  · rw [if_pos hl] at z
    have hx' : upd H1 dx (.own x) x = none := by rw [upd_ne (Ne.symm hne)]; exact hx
    have h2 := (h1.waste (o := .own x) hdx).fresh (o := .ins (W.cls c) dx []) (b := .ins c []) hx' ⟨dx, [], upd_same, trivial⟩
    have e1 : (r1 ++ [x])[a.2.length]? = some x := by rw [← h1.len, List.getElem?_append_right (Nat.le_refl _)]; simp
    refine ⟨Rs, F1, r1 ++ [x], a.2 ++ [.ins c []], .ref a.2.length :: a.1, h2, by rw [List.append_nil]; exact .cons (.ref e1) (k1.mono (Same.refl _) (Ext.snoc _ _)), hl, ?_⟩
    have z1 := Post.later s1 (x1.trans (Ext.snoc r1 x)) z
    refine bindX z1 fun b eb z2 F2 H2 r2 v2 s2 x2 h2 k2 => ?_
    obtain ⟨d, st2⟩ := b
    cases d with
    | non => cases k2; exact ⟨rfl, z2 F2 H2 r2 _ s2 x2 h2 (.ref (x2 _ _ e1))⟩
    | _ => exact z2.elim
  · rw [if_neg hl] at z; exact z.elim
theorem de_make {c : Nat} (hK : X.K = W.K) (M : Mk W.K (W.cls c) f) (F : FnOk X.prog X.w W.K X.mg X.base CX k f fd ps (spD W n g)) (hr : Room (j + 1) X.A) (hj : k ≤ j) (hg : Gl X x) (hm : X.mg x = some (.ref (W.cls c))) (hb : Binds W.K fd ps []) (hx : Passes CX X E)
    (ha : DA W X E (e :: es) ga) (hdb : (x == ("__debug__" : Str)) = false := by decide) (he : starEach (e :: es) X.env = (false, eval e X.env) :: starEach es X.env := by rfl) (hpl : (backTo pos (starEach es X.env)).any (·.1) = false := by rfl) :
    DE W X E (.Call (.Name x p) (e :: es) [] pos) (eMake c n g ga) := by
  obtain ⟨ta, pa, qa⟩ := ha.ex
  exact .mk (pe_make (C := W.cls c) (sp := spD W n g) (by rw [hK]; exact M) (by rw [hK]; exact F) (hr.mono (by omega)) hg hm (by rw [hK]; exact hb) .nil hx pa hdb he hpl) fun Rs F H r sg env st Q hH hE hP => make_post qa hH hE hP
end
def eFld (c : Nat) (f : Str) (fo : EV) : EV := fun env st => (fo env st).bind fun o => match o.1 with
  | .ref i => match o.2[i]? with
    | some (.ins c' fs) => if c' = c then (match fs.lookup f with
      | some d => .ok (d, o.2)
      | none => .bad) else .bad
    | _ => .bad
  | _ => .bad
theorem de_fld {o : Expr} {fo : EV} {c : Nat} {f : Str} {pos : Pos} (hK : X.K = W.K) (he : DE W X E o fo) (cl : Cls W.K (W.cls c)) (na : NoAttr W.K (W.cls c) f) (hb : attributeBase o f X.env (eval o X.env) = eval o X.env := by rfl) : DE W X E (.Attribute o f pos) (eFld c f fo) := by
  obtain ⟨to, po, qo⟩ := he.ex
  refine .mk (pe_fld po hb) fun Rs F H r sg env st Q hH hE hP => ?_
  refine qo Rs F H r sg env st _ hH hE (bindX hP fun o eo z F1 H1 r1 v1 s1 x1 h1 k1 => ?_)
  obtain ⟨d, st1⟩ := o
  cases k1 with
  | @ref a i e =>
    simp only at z
    split at z
    · rename_i c' fs e1
      split at z
      · rename_i hc
        subst hc
        split at z
        · rename_i d e3
          obtain ⟨dx, vfs, e2, k2⟩ := h1.ob i a _ e e1
          obtain ⟨v, e4, k4⟩ := k2.look e3
          rw [hK]
          exact ⟨a, _, dx, vfs, v, rfl, e2, cl, na, e4, z F1 H1 r1 v s1 x1 h1 k4⟩
        · exact z.elim
      · exact z.elim
    · exact z.elim
  | _ => exact z.elim
def sFldD (c : Nat) (f : Str) (fo fv : EV) : SV := fun env st => sOf (fv env st) fun v => sOf (fo env v.2) fun o => match o.1 with
  | .ref i => match o.2[i]? with
    | some (.ins c' fs) => if c' = c ∧ fs.length < 900 then .nx env (o.2.set i (.ins c' (putD f v.1 fs))) else .bad
    | _ => .bad
  | _ => .bad
theorem ds_fld {o value : Expr} {fo fv : EV} {c : Nat} {f : Str} {pos pos' : Pos} (hK : X.K = W.K) (he : DE W X E o fo) (hv : DE W X E value fv) (cl : Cls W.K (W.cls c)) (na : NoAttr W.K (W.cls c) f) (hs : swapsWith value (some (.Attribute o f pos')) pos.line X.env = pure false := by rfl) :
    DS W X E (.Assign [.Attribute o f pos'] value pos) (sFldD c f fo fv) := by
  obtain ⟨to, po, qo⟩ := he.ex
  obtain ⟨tv, pv, qv⟩ := hv.ex
  refine .mk (ps_fld po pv hs) fun Rs F H r sg env st D hH hE hP => ?_
  refine qv Rs F H r sg env st _ hH hE (bindS hP fun b eb zb F0 H0 r0 v0 s0 x0 h0 k0 => ?_)
  refine qo Rs F0 H0 r0 sg env b.2 _ h0 (hE.mono s0 x0) (bindS (PostS.later s0 x0 zb) fun o eo z F1 H1 r1 v1 s1 x1 h1 k1 => ?_)
  obtain ⟨d, st1⟩ := o
  cases k1 with
  | @ref a i e =>
    simp only at z
    split at z
    · rename_i c' fs e1
      split at z
      · rename_i hc
        obtain ⟨rfl, hl⟩ := hc
        obtain ⟨dx, vfs, e2, k2⟩ := h1.ob i a _ e e1
        rw [hK]
        refine ⟨a, _, dx, vfs, rfl, e2, cl, na, by rw [k2.length]; omega, ?_⟩
        exact z F1 _ r1 sg s1 x1 (h1.write e ⟨dx, _, upd_same, Flds.put (k0.mono s1 x1) k2⟩) (hE.mono (s0.trans s1) (x0.trans x1))
      · exact z.elim
    · exact z.elim
  | _ => exact z.elim
end
end Dl
namespace Dl
open PySem L2
section
variable {W : Wd} {X : Cx} {E : XK}
def ixG : G2 := fun st d e => match d, e with
  | .tup ds, .int i => R.of ((atI ds i).map fun x => (x, st))
  | .str s, .int i => R.of ((atI s i).map fun c => (.str [c], st))
  | d, .int i => match lstOf st d with
    | some ds => R.of ((atI ds i).map fun x => (x, st))
    | none => .bad
  | _, _ => .bad
theorem Reps.atI {F : Hp} {r : List Addr} {vs : List V} {ds : List D} {i : Int} {d : D} (h : Reps F r vs ds) (e : L2.atI ds i = some d) : ∃ v, L2.atI vs i = some v ∧ Rep F r v d := by
  unfold L2.atI at e ⊢
  rw [h.length]
  cases q : ixN ds.length i with
  | none => rw [q] at e; cases e
  | some j => rw [q] at e; exact h.get e
theorem de_ix {a b : Expr} {fa fb : EV} {pos : Pos} (hK : X.K = W.K) (ha : DE W X E a fa) (hb : DE W X E b fb) (hs : PlainIx b) : DE W X E (.Subscript a b pos) (eOp ixG fa fb) := by
  obtain ⟨ta, pa, qa⟩ := ha.ex
  obtain ⟨tb, pb, qb⟩ := hb.ex
  refine .mk (pe_ix ix_seq pa pb hs) fun Rs F H rr sg env st Q hH hE hP => eOp_post qa qb ?_ hH hE hP
  intro Rs F H rr st x y dx dy Q E h kx ky hP
  have lists : ∀ i, y = .int i → (match lstOf st dx with
    | some ds => R.of ((atI ds i).map fun x => (x, st))
    | none => (.bad : R (D × Store))) = ixG st dx dy → rIxL X.K x y H Q := fun i ey eq => by
    rw [← eq] at hP
    split at hP
    · rename_i ds e1
      obtain ⟨p, vs, rfl, h1, k1⟩ := lstOf_ok h kx e1
      cases e2 : atI ds i with
      | none => rw [e2] at hP; exact hP.elim
      | some d =>
        rw [e2] at hP
        obtain ⟨v, e3, k⟩ := k1.atI e2
        exact ⟨p, vs, i, v, rfl, ey, .of h1, e3, onE_here h k hP⟩
    · exact hP.elim
  cases ky with
  | int i =>
    cases kx with
    | @tup p vs ds q k1 =>
      unfold ixG at hP
      simp only at hP
      cases e2 : atI ds i with
      | none => rw [e2] at hP; exact hP.elim
      | some d =>
        rw [e2] at hP
        obtain ⟨v, e3, k⟩ := k1.atI e2
        exact .inr (.inl ⟨p, vs, i, v, rfl, rfl, .of (h.sF _ _ q), e3, onE_here h k hP⟩)
    | str s hs hl =>
      unfold ixG at hP
      simp only at hP
      cases e2 : atI s i with
      | none => rw [e2] at hP; exact hP.elim
      | some c =>
        rw [e2] at hP
        have hc : c < 128 := by
          obtain ⟨j, _, e3, _⟩ := atI_get e2
          exact of_decide_eq_true (List.all_eq_true.mp hs c (List.mem_of_getElem? e3))
        exact .inr (.inr ⟨_, i, c, rfl, rfl, by rw [len_mk]; exact lim_line hl, e2, onE_here h (.str [c] (by simp [hc]) (by simp [LIM])) hP⟩)
    | non => exact .inl (lists _ rfl rfl)
    | bl b => exact .inl (lists _ rfl rfl)
    | int b => exact .inl (lists _ rfl rfl)
    | lst q k => exact .inl (lists _ rfl rfl)
    | ref q => exact .inl (lists _ rfl rfl)
    | scr q => exact .inl (lists _ rfl rfl)
    | exn0 => exact .inl (lists _ rfl rfl)
    | exn1 q => exact .inl (lists _ rfl rfl)
  | _ => cases kx <;> exact hP.elim
/-- a part of a slice -/
def poNone : Env → Store → R (Option Int × Store) := fun _ st => .ok (none, st)
def poSome (f : EV) : Env → Store → R (Option Int × Store) := fun env st => (f env st).bind fun a => match a.1 with
  | .int i => .ok (some i, a.2)
  | _ => .bad
def DP (W : Wd) (X : Cx) (E : XK) (e : Option Expr) (f : Env → Store → R (Option Int × Store)) : Prop := ∃ t, PO X e t ∧ ∀ Rs F H r sg env st (Q : Option Int → Hp → Prop), Holds W Rs F H r st → EnvOk F r sg env →
  PostX W Rs F r (f env st) (fun a => ∀ F' H' r', Same F F' → Ext r r' → Holds W Rs F' H' r' a.2 → Q a.1 H') E → t sg H Q
theorem dp_none : DP W X E none poNone := ⟨_, po_none, fun Rs F H r sg env st Q hH hE hP => hP F H r (Same.refl _) (Ext.refl _) hH⟩
theorem dp_some {e : Expr} {f : EV} (h : DE W X E e f) : DP W X E (some e) (poSome f) := by
  obtain ⟨t, p, q⟩ := h.ex
  refine ⟨_, po_some p, fun Rs F H r sg env st Q hH hE hP => ?_⟩
  refine q Rs F H r sg env st _ hH hE (bindX hP fun a ea z F1 H1 r1 v1 s1 x1 h1 k1 => ?_)
  obtain ⟨d, st1⟩ := a
  cases k1 with
  | int i => exact ⟨i, rfl, z F1 H1 r1 s1 x1 h1⟩
  | _ => exact z.elim
/-- what xs[lo:hi] is -/
def cutD {A : Type} (xs : List A) (lo hi : Option Int) : List A := (xs.drop (HT.sIx xs.length 0 lo)).take (HT.sIx xs.length xs.length hi - HT.sIx xs.length 0 lo)
theorem cutD_le {A : Type} (xs : List A) (lo hi : Option Int) : (cutD xs lo hi).length ≤ xs.length := by
  unfold cutD
  rw [List.length_take, List.length_drop]
  omega
theorem Reps.cut {F : Hp} {r : List Addr} {vs : List V} {ds : List D} (h : Reps F r vs ds) (lo hi : Option Int) : Reps F r (cutV vs lo hi) (cutD ds lo hi) := by
  unfold cutV cutD
  rw [h.length]
  exact (h.drop _).take _
def slG (m : Bool) (st : Store) (d : D) (lo hi : Option Int) : R (D × Store) := match d with
  | .tup ds => .ok (.tup (cutD ds lo hi), st)
  | .str s => .ok (.str (cutD s lo hi), st)
  | d => match lstOf st d with
    | some ds => newL m (cutD ds lo hi) st
    | none => .bad
def eSl (m : Bool) (f : EV) (l h : Env → Store → R (Option Int × Store)) : EV := fun env st => (f env st).bind fun a => (l env a.2).bind fun b => (h env b.2).bind fun c => slG m c.2 a.1 b.1 c.1
theorem cutS_mk (s : List Nat) (lo hi : Option Int) : cutS ⟨s.toArray⟩ lo hi = ⟨(cutD s lo hi).toArray⟩ := by
  unfold cutS cutD
  simp [Str.length]
theorem cut_whole {A : Type} (xs : List A) (lo hi : Option Int) (h : HT.sIx xs.length 0 lo = 0 ∧ HT.sIx xs.length xs.length hi = xs.length) : cutD xs lo hi = xs := by
  unfold cutD
  rw [h.1, h.2]
  simp
theorem de_sl (m : Bool) {e : Expr} {lo hi : Option Expr} {f : EV} {l h : Env → Store → R (Option Int × Store)} {p2 pos : Pos} (hK : X.K = W.K) (he : DE W X E e f) (hl : DP W X E lo l) (hu : DP W X E hi h) : DE W X E (.Subscript e (.Slice lo hi none p2) pos) (eSl m f l h) := by
  obtain ⟨t, p, q⟩ := he.ex
  obtain ⟨tl, pl, ql⟩ := hl
  obtain ⟨tu, pu, qu⟩ := hu
  refine .mk (pe_slice (sl_tupA.or (sl_str.or sl_list)) p pl pu) fun Rs F H rr sg env st Q hH hE hP => ?_
  refine q Rs F H rr sg env st _ hH hE (bindX hP fun a ea z F1 H1 r1 v1 s1 x1 h1 k1 => ?_)
  refine ql Rs F1 H1 r1 sg env a.2 _ h1 (hE.mono s1 x1) (bindX (Post.later s1 x1 (res := (l env a.2).bind _) z) fun b eb z2 F2 H2 r2 s2 x2 h2 => ?_)
  refine qu Rs F2 H2 r2 sg env b.2 _ h2 (hE.mono (s1.trans s2) (x1.trans x2)) (bindX (Post.later s2 x2 (res := (h env b.2).bind _) z2) fun c ec z3 F3 H3 r3 s3 x3 h3 => ?_)
  replace z3 := Post.later s3 x3 z3
  replace k1 := k1.mono (s2.trans s3) (x2.trans x3)
  have lists : (match lstOf c.2 a.1 with
    | some ds => newL m (cutD ds b.1 c.1) c.2
    | none => (.bad : R (D × Store))) = slG m c.2 a.1 b.1 c.1 → rSlL X.K v1 b.1 c.1 H3 Q := fun eq => by
    rw [← eq] at z3
    split at z3
    · rename_i ds e1
      obtain ⟨p, vs, rfl, h4, k4⟩ := lstOf_ok h3 k1 e1
      exact ⟨p, vs, rfl, .of h4, fun pp hp => newL_post h3 (k4.cut _ _) z3 hp⟩
    · exact z3.elim
  obtain ⟨d, st1⟩ := a
  cases k1 with
  | @tup p vs ds q1 k1 =>
    refine .inl ⟨p, vs, rfl, .of (h3.sF _ _ q1), fun hw => ?_, fun _ pp hp => ?_⟩
    · have e : cutD ds b.1 c.1 = ds := cut_whole ds _ _ (by rw [← k1.length]; exact hw)
      refine onE_here h3 (.tup q1 k1) ?_
      have z4 : onE W Rs F3 r3 Q (.tup (cutD ds b.1 c.1), c.2) := z3
      rw [e] at z4; exact z4
    · exact tup_post h3 (k1.cut _ _) z3 hp
  | str s hs hl =>
    refine .inr (.inl ⟨_, rfl, by rw [len_mk]; exact lim_line hl, ?_⟩)
    rw [cutS_mk]
    refine onE_here h3 (.str _ ?_ (Nat.le_trans (cutD_le _ _ _) hl)) z3
    rw [List.all_eq_true] at hs ⊢
    intro x hx
    exact hs x (List.mem_of_mem_drop (List.mem_of_mem_take hx))
  | non => exact .inr (.inr (lists rfl))
  | bl b => exact .inr (.inr (lists rfl))
  | int b => exact .inr (.inr (lists rfl))
  | lst q k => exact .inr (.inr (lists rfl))
  | ref q => exact .inr (.inr (lists rfl))
  | scr q => exact .inr (.inr (lists rfl))
  | exn0 => exact .inr (.inr (lists rfl))
  | exn1 q => exact .inr (.inr (lists rfl))
/-- xs[::-1] of a list -/
def eRevL (m : Bool) (f : EV) : EV := fun env st => (f env st).bind fun a => match lstOf a.2 a.1 with
  | some ds => newL m ds.reverse a.2
  | none => .bad
theorem de_revL (m : Bool) {e : Expr} {f : EV} {k : Nat} {p1 p2 p3 pos : Pos} (he : DE W X E e f) : DE W X E (.Subscript e (.Slice none none (some (.UnaryOp .USub (.Constant (.int 1) k p1) p2)) p3) pos) (eRevL m f) := by
  obtain ⟨t, p, q⟩ := he.ex
  refine .mk (pe_revL p) fun Rs F H rr sg env st Q hH hE hP => ?_
  refine q Rs F H rr sg env st _ hH hE (bindX hP fun a ea z F1 H1 r1 v1 s1 x1 h1 k1 => ?_)
  cases e : lstOf a.2 a.1 with
  | none => rw [e] at z; exact z.elim
  | some ds =>
    rw [e] at z
    obtain ⟨p, vs, rfl, h4, k4⟩ := lstOf_ok h1 k1 e
    exact ⟨p, vs, rfl, .of h4, fun pp hp => newL_post h1 k4.reverse (Post.later s1 x1 z) hp⟩
abbrev GA := Store → List D → R (D × Store)
def DC (W : Wd) (X : Cx) (v : Value) (g : GA) : Prop := ∃ r, CallR X v r ∧ ∀ Rs F H rr st vs ds Q E, Holds W Rs F H rr st → Reps F rr vs ds → Post W Rs F rr (g st ds) Q E → r vs H Q
def eB (g : GA) (ga : AV) : EV := fun env st => (ga env st).bind fun a => g a.2 a.1
section
variable {x : Str} {e : Expr} {es : List Expr} {p pos : Pos} {ga : AV} {g : GA} {id T : String}
theorem de_callB (hc : DC W X (.builtin id) g) (hg : Gl X x) (hm : X.mg x = none) (hv : bootBuiltins x = some (.builtin id)) (ha : DA W X E (e :: es) ga) (h : ∀ {r : List V → Hp → VK → Prop} {t : TA}, CallR X (.builtin id) r → PA X (e :: es) t → PE X (.Call (.Name x p) (e :: es) [] pos) (tCB r t)) :
    DE W X E (.Call (.Name x p) (e :: es) [] pos) (eB g ga) := by
  obtain ⟨r, hr, qr⟩ := hc
  obtain ⟨t, pa, q⟩ := ha.ex
  refine .mk (h hr pa) fun Rs F H rr sg env st Q hH hE hP => ?_
  exact q Rs F H rr sg env st _ hH hE (bindX hP fun a ea z F1 H1 r1 vs s1 x1 h1 k1 => qr Rs F1 H1 r1 a.2 vs a.1 Q E h1 k1 (Post.later s1 x1 z))
theorem de_callTy (hc : DC W X (.type T) g) (hg : Gl X x) (hm : X.mg x = none) (hv : bootBuiltins x = some (.type T)) (ha : DA W X E (e :: es) ga) (h : ∀ {r : List V → Hp → VK → Prop} {t : TA}, CallR X (.type T) r → PA X (e :: es) t → PE X (.Call (.Name x p) (e :: es) [] pos) (tCB r t)) :
    DE W X E (.Call (.Name x p) (e :: es) [] pos) (eB g ga) := by
  obtain ⟨r, hr, qr⟩ := hc
  obtain ⟨t, pa, q⟩ := ha.ex
  refine .mk (h hr pa) fun Rs F H rr sg env st Q hH hE hP => ?_
  exact q Rs F H rr sg env st _ hH hE (bindX hP fun a ea z F1 H1 r1 vs s1 x1 h1 k1 => qr Rs F1 H1 r1 a.2 vs a.1 Q E h1 k1 (Post.later s1 x1 z))
end
def lenG : GA := fun st ds => match ds with
  | [.str s] => .ok (.int s.length, st)
  | [.tup ds] => .ok (.int ds.length, st)
  | [.scr ns] => .ok (.int ns.length, st)
  | [d] => match lstOf st d with
    | some ds => .ok (.int ds.length, st)
    | none => .bad
  | _ => .bad
theorem dc_len : DC W X (.builtin "len") lenG := ⟨_, call_len, fun Rs F H rr st vs ds Q E h k hP => by
  match vs, ds, k with
  | [v], [d], .cons k .nil =>
    have lists : (match lstOf st d with
      | some ds => .ok (.int ds.length, st)
      | none => (.bad : R (D × Store))) = lenG st [d] → LenV X.K v H (match lstOf st d with | some ds => ds.length | none => 0) ∧ Q (.int (match lstOf st d with | some ds => (ds.length : Nat) | none => 0 : Nat)) H := fun eq => by
      rw [← eq] at hP
      split at hP
      · rename_i ds e1
        obtain ⟨p, vs, rfl, h1, k1⟩ := lstOf_ok h k e1
        exact ⟨.inl ⟨vs, .of h1, k1.length.symm⟩, onE_here h (.int _) hP⟩
      · exact hP.elim
    cases k with
    | str s hs hl => exact ⟨_, _, rfl, ⟨by rw [len_mk]; exact lim_line hl, (len_mk s).symm⟩, onE_here h (.int _) hP⟩
    | tup q k1 => exact ⟨_, _, rfl, .inr ⟨_, .of (h.sF _ _ q), k1.length.symm⟩, onE_here h (.int _) hP⟩
    | @scr a ns q => exact ⟨_, ns.length, rfl, .inl ⟨_, q.sq h.sF, by simp⟩, onE_here h (.int _) hP⟩
    | non => exact ⟨_, _, rfl, lists rfl⟩
    | bl b => exact ⟨_, _, rfl, lists rfl⟩
    | int b => exact ⟨_, _, rfl, lists rfl⟩
    | lst q k => exact ⟨_, _, rfl, lists rfl⟩
    | ref q => exact ⟨_, _, rfl, lists rfl⟩
    | exn0 => exact ⟨_, _, rfl, lists rfl⟩
    | exn1 q => exact ⟨_, _, rfl, lists rfl⟩
  | [], [], _ => exact hP.elim
  | _ :: _ :: _, d :: e :: _, _ => cases d <;> exact hP.elim⟩
/-- all ints -/
def intsOf : List D → Option (List Int)
  | [] => some []
  | .int i :: r => match intsOf r with
    | some l => some (i :: l)
    | none => none
  | _ => none
theorem intsOf_ok {F : Hp} {r : List Addr} : ∀ {ds : List D} {vs : List V} {ns : List Int}, Reps F r vs ds → intsOf ds = some ns → vs = ns.map V.int
  | [], _, _, .nil, e => by cases e; rfl
  | .int i :: ds, _, ns, .cons (.int _) k, e => by
    unfold intsOf at e
    cases q : intsOf ds with
    | none => rw [q] at e; cases e
    | some l =>
      rw [q] at e
      cases e
      rw [intsOf_ok k q]; rfl
  | .non :: _, _, _, _, e => by cases e
  | .bl _ :: _, _, _, _, e => by cases e
  | .str _ :: _, _, _, _, e => by cases e
  | .tup _ :: _, _, _, _, e => by cases e
  | .lst _ :: _, _, _, _, e => by cases e
  | .ref _ :: _, _, _, _, e => by cases e
  | .scr _ :: _, _, _, _, e => by cases e
  | .exn _ _ :: _, _, _, _, e => by cases e
@[simp] theorem intsOf_map (ns : List Int) : intsOf (ns.map D.int) = some ns := by
  induction ns with
  | nil => rfl
  | cons n ns ih => simp [intsOf, ih]
/-- the greatest, the least of some -/
def maxL : List Int → Int
  | [] => 0
  | [a] => a
  | a :: b :: r => max a (maxL (b :: r))
def minL : List Int → Int
  | [] => 0
  | [a] => a
  | a :: b :: r => min a (minL (b :: r))
theorem maxL_mem : ∀ {l : List Int}, l ≠ [] → maxL l ∈ l ∧ ∀ y ∈ l, y ≤ maxL l
  | [], h => absurd rfl h
  | [a], _ => by simp [maxL]
  | a :: b :: r, _ => by
    obtain ⟨h1, h2⟩ := maxL_mem (l := b :: r) (by simp)
    unfold maxL
    refine ⟨?_, fun y hy => ?_⟩
    · by_cases e : a ≤ maxL (b :: r)
      · rw [Int.max_eq_right e]; exact List.mem_cons_of_mem _ h1
      · rw [Int.max_eq_left (by omega)]; exact List.mem_cons_self
    · rcases List.mem_cons.mp hy with rfl | hy
      · omega
      · have := h2 y hy
        omega
theorem minL_mem : ∀ {l : List Int}, l ≠ [] → minL l ∈ l ∧ ∀ y ∈ l, minL l ≤ y
  | [], h => absurd rfl h
  | [a], _ => by simp [minL]
  | a :: b :: r, _ => by
    obtain ⟨h1, h2⟩ := minL_mem (l := b :: r) (by simp)
    unfold minL
    refine ⟨?_, fun y hy => ?_⟩
    · by_cases e : a ≤ minL (b :: r)
      · rw [Int.min_eq_left e]; exact List.mem_cons_self
      · rw [Int.min_eq_right (by omega)]; exact List.mem_cons_of_mem _ h1
    · rcases List.mem_cons.mp hy with rfl | hy
      · omega
      · have := h2 y hy
        omega
def maxG : GA := fun st ds => match ds with
  | [.int i, .int j] => .ok (.int (max i j), st)
  | [d] => match (lstOf st d).bind intsOf with
    | some ns => if ns ≠ [] then .ok (.int (maxL ns), st) else .bad
    | none => .bad
  | _ => .bad
def minG : GA := fun st ds => match ds with
  | [.int i, .int j] => .ok (.int (min i j), st)
  | [d] => match (lstOf st d).bind intsOf with
    | some ns => if ns ≠ [] then .ok (.int (minL ns), st) else .bad
    | none => .bad
  | _ => .bad
theorem dc_max (hc : X.calm = true) : DC W X (.builtin "max") maxG := ⟨_, (call_max2 hc).or (cr_max hc), fun Rs F H rr st vs ds Q E h k hP => by
  unfold maxG at hP
  split at hP
  · rename_i i j
    match k with
    | .cons (.int _) (.cons (.int _) .nil) =>
      refine .inl ⟨i, j, rfl, ?_⟩
      have e : (if j > i then j else i) = max i j := by split <;> omega
      rw [e]
      exact onE_here h (.int _) hP
  · rename_i d
    match k with
    | .cons k .nil =>
      cases e1 : lstOf st d with
      | none => rw [e1] at hP; exact hP.elim
      | some ds =>
        rw [e1] at hP
        simp only [Option.bind_some] at hP
        split at hP
        · rename_i ns e2
          split at hP
          · rename_i hne
            obtain ⟨p, vs, rfl, h1, k1⟩ := lstOf_ok h k e1
            have ev := intsOf_ok k1 e2
            subst ev
            refine .inr ⟨p, ns, rfl, .of h1, List.length_pos_iff.mpr hne, fun m hm hmax => ?_⟩
            obtain ⟨m1, m2⟩ := maxL_mem hne
            have : m = maxL ns := by
              have a := m2 m hm
              have b := hmax _ m1
              omega
            rw [this]
            exact onE_here h (.int _) hP
          · exact hP.elim
        · exact hP.elim
  · exact hP.elim⟩
theorem dc_min (hc : X.calm = true) : DC W X (.builtin "min") minG := ⟨_, (call_min2 hc).or (cr_min hc), fun Rs F H rr st vs ds Q E h k hP => by
  unfold minG at hP
  split at hP
  · rename_i i j
    match k with
    | .cons (.int _) (.cons (.int _) .nil) =>
      refine .inl ⟨i, j, rfl, ?_⟩
      have e : (if j < i then j else i) = min i j := by split <;> omega
      rw [e]
      exact onE_here h (.int _) hP
  · rename_i d
    match k with
    | .cons k .nil =>
      cases e1 : lstOf st d with
      | none => rw [e1] at hP; exact hP.elim
      | some ds =>
        rw [e1] at hP
        simp only [Option.bind_some] at hP
        split at hP
        · rename_i ns e2
          split at hP
          · rename_i hne
            obtain ⟨p, vs, rfl, h1, k1⟩ := lstOf_ok h k e1
            have ev := intsOf_ok k1 e2
            subst ev
            refine .inr ⟨p, ns, rfl, .of h1, List.length_pos_iff.mpr hne, fun m hm hmin => ?_⟩
            obtain ⟨m1, m2⟩ := minL_mem hne
            have : m = minL ns := by
              have a := m2 m hm
              have b := hmin _ m1
              omega
            rw [this]
            exact onE_here h (.int _) hP
          · exact hP.elim
        · exact hP.elim
  · exact hP.elim⟩
def intG : GA := fun st ds => match ds with
  | [.int i] => .ok (.int i, st)
  | [.bl b] => .ok (.int (if b then 1 else 0), st)
  | _ => .bad
theorem dc_int : DC W X (.type "int") intG := ⟨_, call_int1, fun Rs F H rr st vs ds Q E h k hP => by
  unfold intG at hP
  split at hP
  · match k with
    | .cons (.int i) .nil => exact .inl ⟨i, rfl, onE_here h (.int _) hP⟩
  · match k with
    | .cons (.bl b) .nil => exact .inr ⟨b, rfl, onE_here h (.int _) hP⟩
  · exact hP.elim⟩
/-- the digits of a number -/
def strG : GA := fun st ds => match ds with
  | [.int i] => if 0 ≤ i ∧ i < 10 ^ 18 then .ok (.str (TL.numL i.toNat), st) else .bad
  | _ => .bad
theorem numL_ascii (n : Nat) : (TL.numL n).all (fun c => decide (c < 128)) = true := by
  rw [List.all_eq_true]
  intro c hc
  have := TL.numL_digits n
  have h : ¬ (c < 48 ∨ 57 < c) := fun z => TL.numL_free (n := n) z hc
  simp only [decide_eq_true_eq]
  omega
theorem dc_str : DC W X (.type "str") strG := ⟨_, call_str_int, fun Rs F H rr st vs ds Q E h k hP => by
  unfold strG at hP
  split at hP
  · split at hP
    · rename_i i hi
      match k with
      | .cons (.int i) .nil =>
        refine ⟨i, rfl, ?_, ?_⟩
        · have : i.natAbs < 2 ^ 64 := by omega
          exact Nat.lt_trans (PySem.Flt.log2_lt_of (by decide) this) (by decide)
        · have e : TL.tl (Str.ofString (toString i)) = TL.numL i.toNat := by
            have := TL.tl_num i.toNat
            rw [Int.toNat_of_nonneg hi.1] at this
            exact this
          refine onE_here h ?_ hP
          refine rep_str e ?_ F rr
          rw [numL_ascii]
          have := TL.numL_len (n := i.toNat) (k := 18) (by decide) (by omega)
          rw [Bool.true_and, decide_eq_true_eq]; exact Nat.le_trans this (by decide)
    · exact hP.elim
  · exact hP.elim⟩
def ordG : GA := fun st ds => match ds with
  | [.str [c]] => .ok (.int c, st)
  | _ => .bad
theorem dc_ord : DC W X (.builtin "ord") ordG := ⟨_, call_ord, fun Rs F H rr st vs ds Q E h k hP => by
  unfold ordG at hP
  split at hP
  · cases k with
    | cons k k2 =>
      cases k2
      cases k
      exact ⟨_, rfl, rfl, onE_here h (.int _) hP⟩
  · exact hP.elim⟩
def listG (m : Bool) : GA := fun st ds => match ds with
  | [.tup ds] => newL m ds st
  | [.scr ns] => newL m (ns.map .int) st
  | [d] => match lstOf st d with
    | some ds => newL m ds st
    | none => .bad
  | _ => .bad
theorem dc_list (m : Bool) : DC W X (.type "list") (listG m) := ⟨_, call_list_of, fun Rs F H rr st vs ds Q E h k hP => by
  unfold listG at hP
  split at hP
  · match k with
    | .cons (.tup q k) .nil => exact ⟨_, _, rfl, .inr (.of (h.sF _ _ q)), fun l hl => newL_post h k hP hl⟩
  · rename_i ns
    match k with
    | .cons (.scr q) .nil => exact ⟨_, _, rfl, .inl (q.sq h.sF), fun l hl => newL_post h (reps_ints ns) hP hl⟩
  · rename_i d _ _
    match k with
    | .cons k .nil =>
      split at hP
      · rename_i ds e1
        obtain ⟨p, vs, rfl, h1, k1⟩ := lstOf_ok h k e1
        exact ⟨p, vs, rfl, .inl (.of h1), fun l hl => newL_post h k1 hP hl⟩
      · exact hP.elim
  · exact hP.elim⟩
def tupG : GA := fun st ds => match ds with
  | [.tup ds] => .ok (.tup ds, st)
  | [d] => match lstOf st d with
    | some ds => .ok (.tup ds, st)
    | none => .bad
  | _ => .bad
theorem dc_tup : DC W X (.type "tuple") tupG := ⟨_, call_tuple_of, fun Rs F H rr st vs ds Q E h k hP => by
  unfold tupG at hP
  split at hP
  · match k with
    | .cons (.tup q k) .nil => exact ⟨_, _, rfl, .inr ⟨.of (h.sF _ _ q), onE_here h (.tup q k) hP⟩⟩
  · rename_i d _
    match k with
    | .cons k .nil =>
      split at hP
      · rename_i ds e1
        obtain ⟨p, vs, rfl, h1, k1⟩ := lstOf_ok h k e1
        exact ⟨p, vs, rfl, .inl ⟨.of h1, fun l hl => tup_post h k1 hP hl⟩⟩
      · exact hP.elim
  · exact hP.elim⟩
def tyOf (st : Store) : D → Option String
  | .non => some "NoneType"
  | .bl _ => some "bool"
  | .int _ => some "int"
  | .str _ => some "str"
  | .tup _ => some "tuple"
  | .lst _ => some "list"
  | .scr _ => some "list"
  | .exn _ _ => none
  | .ref n => match st[n]? with
    | some (.lst _) => some "list"
    | some (.dK _) => some "dict"
    | some (.dT _) => some "dict"
    | _ => none
theorem tyOf_ok {Rs F H : Hp} {r : List Addr} {st : Store} {v : V} {d : D} {t : String} {K : PySem.W.Frag} (h : Holds W Rs F H r st) (k : Rep F r v d) (e : tyOf st d = some t) : TyX K H v (.type t) := by
  cases k with
  | non => cases e; exact .base .non
  | bl b => cases e; exact .base (.bl b)
  | int b => cases e; exact .base (.int b)
  | str b => cases e; exact .base (.str _)
  | tup q k => cases e; exact .base (.tup (h.sF _ _ q))
  | lst q k => cases e; exact .base (.lst (h.sF _ _ q))
  | scr q =>
    cases e
    rcases q with ⟨o, q⟩ | q
    · exact .base (.frz (h.sF _ _ q))
    · exact .base (.lst (h.sF _ _ q))
  | exn0 => cases e
  | exn1 q => cases e
  | @ref a n q =>
    unfold tyOf at e
    simp only at e
    split at e
    · rename_i e1; cases e; obtain ⟨vs, q1, _⟩ := h.ob n a _ q e1; exact .base (.lst q1)
    · rename_i e1; cases e; obtain ⟨vs, q1, _⟩ := h.ob n a _ q e1; exact .base (.dK q1)
    · rename_i e1; cases e; obtain ⟨vs, q1, _⟩ := h.ob n a _ q e1; exact .base (.dT q1)
    · cases e
/-- whether the class t is T or under it -/
def subTy (t T : String) : Bool := t == T || (t == "bool" && T == "int")
def isG1 (T : String) : GA := fun st ds => match ds with
  | [d] => match tyOf st d with
    | some t => .ok (.bl (subTy t T), st)
    | none => .bad
  | _ => .bad
def eIs (T : String) (f : EV) : EV := fun env st => (f env st).bind fun a => isG1 T a.2 [a.1]
theorem kits {T : String} (hT : T = "int" ∨ T = "bool" ∨ T = "str" ∨ T = "tuple" ∨ T = "list" ∨ T = "dict") {st : Store} {d : D} {t : String} (e : tyOf st d = some t) {K : PySem.W.Frag} : PySem.W.kitOne K (.type t) (.type T) = some (subTy t T) := by
  have ht : t = "NoneType" ∨ t = "bool" ∨ t = "int" ∨ t = "str" ∨ t = "tuple" ∨ t = "list" ∨ t = "dict" := by
    cases d with
    | ref n =>
      unfold tyOf at e
      simp only at e
      split at e <;> cases e <;> simp
    | _ => cases e <;> simp
  refine kit_ty ?_
  rcases hT with rfl | rfl | rfl | rfl | rfl | rfl <;> rcases ht with rfl | rfl | rfl | rfl | rfl | rfl | rfl <;> decide +kernel
theorem de_isinst {x y : Str} {e : Expr} {f : EV} {T : String} {p p2 pos : Pos} (hT : T = "int" ∨ T = "bool" ∨ T = "str" ∨ T = "tuple" ∨ T = "list" ∨ T = "dict") (he : DE W X E e f) (hy : PE X (.Name y p2) (tC (.ty T)))
    (h : ∀ {r : List V → Hp → VK → Prop} {t : TA}, CallR X (.builtin "isinstance") r → PA X [e, .Name y p2] t → PE X (.Call (.Name x p) [e, .Name y p2] [] pos) (tCB r t))
    (h2 : ∀ {te : TE}, PE X e te → PA X [e, .Name y p2] (tCons te (tCons (tC (.ty T)) tNil))) : DE W X E (.Call (.Name x p) [e, .Name y p2] [] pos) (eIs T f) := by
  obtain ⟨t, p, q⟩ := he.ex
  refine .mk (h call_isi (h2 p)) fun Rs F H rr sg env st Q hH hE hP => ?_
  refine q Rs F H rr sg env st _ hH hE (bindX hP fun a ea z F1 H1 r1 v1 s1 x1 h1 k1 => ?_)
  unfold isG1 at z
  simp only at z
  split at z
  · rename_i t e1
    exact ⟨v1, .ty T, .type t, .type T, _, rfl, .ty T, tyOf_ok h1 k1 e1, kits hT e1, z F1 H1 r1 _ s1 x1 h1 (.bl _)⟩
  · exact z.elim
end
end Dl
namespace Dl
open PySem L2
section
variable {W : Wd} {X : Cx} {E : XK}
abbrev GM := Store → D → List D → R (D × Store)
def DM (W : Wd) (X : Cx) (id : String) (g : GM) : Prop := ∃ r, MtR X id r ∧ ∀ Rs F H rr st v d vs ds Q E, Holds W Rs F H rr st → Rep F rr v d → Reps F rr vs ds → Post W Rs F rr (g st d ds) Q E → r v vs H Q
/-- the type at which a method is looked up -/
def tyM (st : Store) : D → Option String
  | .str _ => some "str"
  | .lst _ => some "list"
  | .scr _ => some "list"
  | .ref n => match st[n]? with
    | some (.lst _) => some "list"
    | some (.dK _) => some "dict"
    | some (.dT _) => some "dict"
    | _ => none
  | _ => none
theorem tyM_ok {Rs F H : Hp} {r : List Addr} {st : Store} {v : V} {d : D} {t : String} {K : PySem.W.Frag} (h : Holds W Rs F H r st) (k : Rep F r v d) (e : tyM st d = some t) : tyV K t v H := by
  cases k with
  | str => cases e; rfl
  | lst q k => cases e; exact .inl ⟨rfl, _, .of (h.sF _ _ q)⟩
  | @scr a ns q => cases e; exact .inl ⟨rfl, _, q.sq h.sF⟩
  | @ref a n q =>
    unfold tyM at e
    simp only at e
    split at e
    · rename_i e1; cases e; obtain ⟨vs, q1, _⟩ := h.ob _ a _ q e1; exact .inl ⟨rfl, _, .of q1⟩
    · rename_i e1; cases e; obtain ⟨vs, q1, _⟩ := h.ob _ a _ q e1; exact .inr (.inr (.inl ⟨rfl, .inl ⟨_, q1⟩⟩))
    · rename_i e1; cases e; obtain ⟨vs, q1, _⟩ := h.ob _ a _ q e1; exact .inr (.inr (.inl ⟨rfl, .inr ⟨_, q1⟩⟩))
    · cases e
  | _ => cases e
def eMt (T : String) (g : GM) (fo : EV) (ga : AV) : EV := fun env st => (fo env st).bind fun o => if tyM o.2 o.1 = some T then (ga env o.2).bind fun a => g a.2 o.1 a.1 else .bad
section
variable {o e : Expr} {es : List Expr} {fo : EV} {ga : AV} {name : Str} {apos cpos : Pos} {T id : String} {g : GM}
theorem de_mt (pa : PlainAttrs T) (slot : Slot T name id) (hty : typeOf (.builtin id) = pure (.type "method_descriptor")) (hm : DM W X id g) (ho : DE W X E o fo) (ha : DA W X E (e :: es) ga)
    (h : ∀ {r : V → List V → Hp → VK → Prop} {to : TE} {t : TA}, MtR X id r → PE X o to → PA X (e :: es) t → PE X (.Call (.Attribute o name apos) (e :: es) [] cpos) (tBM X.K T r to t)) :
    DE W X E (.Call (.Attribute o name apos) (e :: es) [] cpos) (eMt T g fo ga) := by
  obtain ⟨r, hr, qr⟩ := hm
  obtain ⟨to, po, qo⟩ := ho.ex
  obtain ⟨t, pa, qa⟩ := ha.ex
  refine .mk (h hr po pa) fun Rs F H rr sg env st Q hH hE hP => ?_
  refine qo Rs F H rr sg env st _ hH hE (bindX hP fun b eb z F1 H1 r1 v1 s1 x1 h1 k1 => ?_)
  split at z
  · rename_i ht
    refine ⟨tyM_ok h1 k1 ht, ?_⟩
    refine qa Rs F1 H1 r1 sg env b.2 _ h1 (hE.mono s1 x1) (bindX (Post.later s1 x1 z) fun c ec z2 F2 H2 r2 vs s2 x2 h2 k2 => ?_)
    exact qr Rs F2 H2 r2 c.2 v1 b.1 vs c.1 Q E h2 (k1.mono s2 x2) k2 (Post.later s2 x2 z2)
  · exact z.elim
theorem de_mt0 (pa : PlainAttrs T) (slot : Slot T name id) (hty : typeOf (.builtin id) = pure (.type "method_descriptor")) (hm : DM W X id g) (ho : DE W X E o fo)
    (h : ∀ {r : V → List V → Hp → VK → Prop} {to : TE}, MtR X id r → PE X o to → PE X (.Call (.Attribute o name apos) [] [] cpos) (tBM0 X.K T r to)) :
    DE W X E (.Call (.Attribute o name apos) [] [] cpos) (eMt T g fo aNil) := by
  obtain ⟨r, hr, qr⟩ := hm
  obtain ⟨to, po, qo⟩ := ho.ex
  refine .mk (h hr po) fun Rs F H rr sg env st Q hH hE hP => ?_
  refine qo Rs F H rr sg env st _ hH hE (bindX hP fun b eb z F1 H1 r1 v1 s1 x1 h1 k1 => ?_)
  split at z
  · rename_i ht
    exact ⟨tyM_ok h1 k1 ht, qr Rs F1 H1 r1 b.2 v1 b.1 [] [] Q E h1 k1 .nil (Post.later s1 x1 z)⟩
  · exact z.elim
end
def appendG : GM := fun st o ds => match o, ds with
  | .ref n, [d] => match st[n]? with
    | some (.lst xs) => if xs.length < LIM then .ok (.non, st.set n (.lst (xs ++ [d]))) else .bad
    | _ => .bad
  | _, _ => .bad
theorem dm_append : DM W X "list.append" appendG := ⟨_, mt_append, fun Rs F H rr st v d vs ds Q E h ko k hP => by
  unfold appendG at hP
  split at hP
  · split at hP
    · rename_i n d xs e1
      split at hP
      · rename_i hl
        cases ko with
        | @ref a n q =>
          match k with
          | .cons k .nil =>
            obtain ⟨ws, q1, k1⟩ := h.ob _ a _ q e1
            exact ⟨a, ws, _, rfl, rfl, q1, by rw [k1.length]; exact lim_lt (Nat.le_of_lt hl), onE_here (h.write (b := .lst _) q ⟨_, upd_same, Reps.snoc k1 k⟩) .non hP⟩
      · exact hP.elim
    · exact hP.elim
  · exact hP.elim⟩
def extendG : GM := fun st o ds => match o, ds with
  | .ref n, [d] => match st[n]?, lstOf st d with
    | some (.lst xs), some zs => if xs.length + zs.length ≤ LIM then .ok (.non, st.set n (.lst (xs ++ zs))) else .bad
    | _, _ => .bad
  | _, _ => .bad
theorem dm_extend : DM W X "list.extend" extendG := ⟨_, mt_extend, fun Rs F H rr st v d vs ds Q E h ko k hP => by
  unfold extendG at hP
  split at hP
  · split at hP
    · rename_i n d _ _ xs zs e1 e2
      split at hP
      · rename_i hl
        cases ko with
        | @ref a n q =>
          match k with
          | .cons k .nil =>
            obtain ⟨ws, q1, k1⟩ := h.ob _ a _ q e1
            obtain ⟨b, us, rfl, q2, k2⟩ := lstOf_ok h k e2
            exact ⟨a, b, ws, us, rfl, rfl, q1, q2, by rw [k1.length, k2.length]; exact lim_line hl, onE_here (h.write (b := .lst _) q ⟨_, upd_same, Reps.append k1 k2⟩) .non hP⟩
      · exact hP.elim
    · exact hP.elim
  · exact hP.elim⟩
def popG : GM := fun st o ds => match o, ds with
  | .ref n, [] => match st[n]? with
    | some (.lst xs) => match xs[xs.length - 1]? with
      | some y => .ok (y, st.set n (.lst xs.dropLast))
      | none => .bad
    | _ => .bad
  | .ref n, [.int i] => match st[n]? with
    | some (.lst xs) => match ixN xs.length i with
      | some j => match xs[j]? with
        | some y => if -1000000 ≤ i ∧ i ≤ 1000000 then .ok (y, st.set n (.lst (xs.eraseIdx j))) else .bad
        | none => .bad
      | none => .bad
    | _ => .bad
  | _, _ => .bad
theorem Reps.dropLast {F : Hp} {r : List Addr} {vs : List V} {ds : List D} (h : Reps F r vs ds) : Reps F r vs.dropLast ds.dropLast := by
  rw [List.dropLast_eq_take, List.dropLast_eq_take, h.length]
  exact h.take _
theorem dm_pop : DM W X "list.pop" popG := ⟨_, MtR.or mt_pop mt_popAt, fun Rs F H rr st v d vs ds Q E h ko k hP => by
  unfold popG at hP
  split at hP
  · split at hP
    · rename_i n xs e1
      split at hP
      · rename_i y e2
        cases ko with
        | @ref a n q =>
          match k with
          | .nil =>
            obtain ⟨ws, q1, k1⟩ := h.ob _ a _ q e1
            obtain ⟨z, e3, k3⟩ := k1.get e2
            exact .inl ⟨a, ws, z, rfl, rfl, q1, by rw [k1.length]; exact e3, onE_here (h.write (b := .lst _) q ⟨_, upd_same, k1.dropLast⟩) k3 hP⟩
      · exact hP.elim
    · exact hP.elim
  · split at hP
    · rename_i n i xs e1
      split at hP
      · rename_i j e2
        split at hP
        · rename_i y e3
          split at hP
          · rename_i hb
            cases ko with
            | @ref a n q =>
              match k with
              | .cons (.int _) .nil =>
                obtain ⟨ws, q1, k1⟩ := h.ob _ a _ q e1
                obtain ⟨z, e4, k4⟩ := k1.get e3
                exact .inr ⟨a, ws, _, j, z, rfl, rfl, q1, by omega, by omega, by rw [k1.length]; exact (ixN_seq e2).1, e4, onE_here (h.write (b := .lst _) q ⟨_, upd_same, k1.eraseIdx _⟩) k4 hP⟩
          · exact hP.elim
        · exact hP.elim
      · exact hP.elim
    · exact hP.elim
  · exact hP.elim⟩
def asciiS (s : List Nat) : Bool := s.all fun c => decide (c < 128)
def strsOf : List D → Option (List (List Nat))
  | [] => some []
  | .str s :: r => match strsOf r with
    | some l => some (s :: l)
    | none => none
  | _ => none
@[simp] theorem strsOf_map (ss : List (List Nat)) : strsOf (ss.map D.str) = some ss := by
  induction ss with
  | nil => rfl
  | cons s ss ih => simp [strsOf, ih]
theorem strsOf_ok {F : Hp} {r : List Addr} : ∀ {ds : List D} {vs : List V} {ss : List (List Nat)}, Reps F r vs ds → strsOf ds = some ss → vs = (ss.map fun s => (⟨s.toArray⟩ : Str)).map V.str ∧ ∀ s ∈ ss, asciiS s = true
  | [], _, _, .nil, e => by cases e; exact ⟨rfl, fun _ h => nomatch h⟩
  | .str s :: ds, _, ns, .cons (.str _ h1 h2) k, e => by
    unfold strsOf at e
    cases q : strsOf ds with
    | none => rw [q] at e; cases e
    | some l =>
      rw [q] at e
      cases e
      obtain ⟨a, b⟩ := strsOf_ok k q
      rw [a]
      refine ⟨rfl, fun t ht => ?_⟩
      rcases List.mem_cons.mp ht with rfl | ht
      · exact h1
      · exact b t ht
  | .non :: _, _, _, _, e => by cases e
  | .bl _ :: _, _, _, _, e => by cases e
  | .int _ :: _, _, _, _, e => by cases e
  | .tup _ :: _, _, _, _, e => by cases e
  | .lst _ :: _, _, _, _, e => by cases e
  | .ref _ :: _, _, _, _, e => by cases e
  | .scr _ :: _, _, _, _, e => by cases e
  | .exn _ _ :: _, _, _, _, e => by cases e
def joinG : GM := fun st o ds => match o, ds with
  | .str s, [d] => match (lstOf st d).bind strsOf with
    | some ss => if (ss.map List.length).sum + ss.length * s.length ≤ LIM then .ok (.str (TL.joinL s ss), st) else .bad
    | none => .bad
  | _, _ => .bad
theorem joinL_len (s : List Nat) : ∀ ss : List (List Nat), (TL.joinL s ss).length ≤ (ss.map List.length).sum + ss.length * s.length
  | [] => by simp [TL.joinL]
  | [p] => by simp [TL.joinL]
  | p :: q :: r => by
    have ih := joinL_len s (q :: r)
    simp only [TL.joinL, List.length_append, List.map_cons, List.sum_cons, List.length_cons, Nat.succ_mul] at ih ⊢
    omega
theorem joinL_all {s : List Nat} (hs : asciiS s = true) : ∀ {ss : List (List Nat)}, (∀ t ∈ ss, asciiS t = true) → asciiS (TL.joinL s ss) = true
  | [], _ => rfl
  | [p], h => by simpa [TL.joinL] using h p (by simp)
  | p :: q :: r, h => by
    have ih := joinL_all hs (ss := q :: r) fun t ht => h t (by simp at ht ⊢; exact .inr ht)
    have hp := h p (by simp)
    unfold asciiS at *
    simp only [TL.joinL, List.all_append, hp, hs, ih, Bool.and_self]
theorem join_mk (s : List Nat) (ss : List (List Nat)) : Txt.join ⟨s.toArray⟩ (ss.map fun s => (⟨s.toArray⟩ : Str)) = ⟨(TL.joinL s ss).toArray⟩ := by
  apply TL.ext_tl
  rw [TL.join_eq, TL.tl_join]
  have e : ∀ t : List Nat, TL.tl ⟨t.toArray⟩ = t := fun t => TL.tl_mk t
  rw [List.map_map]
  have e2 : (TL.tl ∘ fun s => (⟨List.toArray s⟩ : Str)) = fun (t : List Nat) => t := by funext t; exact e t
  rw [e, e, e2, List.map_id']
theorem dm_join : DM W X "str.join" joinG := ⟨_, mt_join, fun Rs F H rr st v d vs ds Q E h ko k hP => by
  unfold joinG at hP
  split at hP
  · rename_i s d
    match k with
    | .cons k .nil =>
      cases e1 : lstOf st d with
      | none => rw [e1] at hP; exact hP.elim
      | some ds =>
        rw [e1] at hP
        simp only [Option.bind_some] at hP
        split at hP
        · rename_i ss e2
          split at hP
          · rename_i hl
            cases ko with
            | str s hs hsl =>
              obtain ⟨p, ws, rfl, h1, k1⟩ := lstOf_ok h k e1
              obtain ⟨ev, ha⟩ := strsOf_ok k1 e2
              refine ⟨_, p, ss.map fun s => (⟨s.toArray⟩ : Str), rfl, rfl, .inl (.of (by rw [← ev]; exact h1)), ?_, ?_⟩
              · rw [List.map_map, List.length_map, len_mk]
                have e3 : ((fun (x : Str) => x.length) ∘ fun (s : List Nat) => (⟨s.toArray⟩ : Str)) = List.length := by funext t; exact len_mk t
                rw [e3]
                exact Nat.le_trans hl (by decide)
              · rw [join_mk]
                exact onE_here h (.str _ (joinL_all hs ha) (Nat.le_trans (joinL_len s ss) hl)) hP
          · exact hP.elim
        · exact hP.elim
  · exact hP.elim⟩
end
mutual
def D.wf (n : Nat) : D → Bool
  | .ref k => decide (k < n)
  | .tup ds => D.wfs n ds
  | .lst ds => D.wfs n ds
  | _ => true
def D.wfs (n : Nat) : List D → Bool
  | [] => true
  | d :: ds => D.wf n d && D.wfs n ds
end
def Ob.wf (n : Nat) : Ob → Bool
  | .lst ds => D.wfs n ds
  | .ins _ fs => fs.all fun p => p.2.wf n
  | .dK kvs => kvs.all fun p => p.2.wf n
  | .dT kvs => kvs.all fun p => p.2.wf n
  | .dead => true
def wfS (st : Store) : Prop := ∀ o ∈ st, o.wf st.length = true
section
variable {F F' : Hp} {r : List Addr}
mutual
theorem Rep.wf : ∀ {d : D} {v : V}, Rep F r v d → d.wf r.length = true
  | _, _, .non => rfl
  | _, _, .bl _ => rfl
  | _, _, .int _ => rfl
  | _, _, .str _ _ _ => rfl
  | _, _, .tup _ k => by unfold D.wf; exact Reps.wf k
  | _, _, .lst _ k => by unfold D.wf; exact Reps.wf k
  | _, _, .ref h => by unfold D.wf; exact decide_eq_true (List.getElem?_eq_some_iff.mp h).1
  | _, _, .scr _ => rfl
  | _, _, .exn0 _ => rfl
  | _, _, .exn1 _ => rfl
theorem Reps.wf : ∀ {ds : List D} {vs : List V}, Reps F r vs ds → D.wfs r.length ds = true
  | _, _, .nil => rfl
  | _, _, .cons h k => by unfold D.wfs; rw [Rep.wf h, Reps.wf k]; rfl
end
theorem Flds.wf {vs : List (Str × V)} {fs : List (Str × D)} (h : Flds F r vs fs) : (fs.all fun p => p.2.wf r.length) = true := by
  induction fs generalizing vs with
  | nil => rfl
  | cons p fs ih =>
    cases vs with
    | nil => exact h.elim
    | cons q vs =>
      obtain ⟨_, k, t⟩ := h
      rw [List.all_cons, k.wf, ih t]; rfl
theorem KVr.wf {A : Type} {vs : List (A × V)} {fs : List (A × D)} (h : KVr F r vs fs) : (fs.all fun p => p.2.wf r.length) = true := by
  induction fs generalizing vs with
  | nil => rfl
  | cons p fs ih =>
    cases vs with
    | nil => exact h.elim
    | cons q vs =>
      obtain ⟨_, k, t⟩ := h
      rw [List.all_cons, k.wf, ih t]; rfl
theorem Holds.wf {W : Wd} {Rs H : Hp} {st : Store} (h : Holds W Rs F H r st) : wfS st := fun o m => by
  obtain ⟨i, hi, rfl⟩ := List.mem_iff_getElem.mp m
  obtain ⟨a, e, k⟩ := h.get (n := i) (o := st[i]) (by simp [hi])
  rw [← h.len]
  cases eo : st[i] with
  | lst ds => rw [eo] at k; obtain ⟨vs, _, k⟩ := k; exact k.wf
  | ins C fs => rw [eo] at k; obtain ⟨dx, vs, _, k⟩ := k; exact k.wf
  | dK kvs => rw [eo] at k; obtain ⟨vs, _, k⟩ := k; exact k.wf
  | dT kvs => rw [eo] at k; obtain ⟨vs, _, k⟩ := k; exact k.wf
  | dead => rfl
end
/-- the new references of d told by what they hold -/
def rsv (n : Nat) (st : Store) : Nat → D → Option D
  | 0, _ => none
  | k + 1, d => match d with
    | .tup ds => match optAll (ds.map (rsv n st k)) with
      | some es => some (.tup es)
      | none => none
    | .lst ds => match optAll (ds.map (rsv n st k)) with
      | some es => some (.lst es)
      | none => none
    | .ref i => if i < n then some (.ref i) else match st[i]? with
      | some (.lst ds) => match optAll (ds.map (rsv n st k)) with
        | some es => some (.lst es)
        | none => none
      | _ => none
    | d => some d
section
variable {W : Wd} {Rs F F' H H' : Hp} {r r' : List Addr} {st st1 junk : Store} {E : XK}
/-- the frozen part with all that was laid -/
def froz (F' H' : Hp) (js : List Addr) : Hp := fun a => if a ∈ js then H' a else F' a
theorem froz_same (h : Holds W Rs F' H' r' st) {js : List Addr} (hj : ∀ a ∈ js, a ∈ r') : Same F' (froz F' H' js) := fun a o e => by
  unfold froz
  rw [if_neg fun m => by rw [(h.own a (hj a m)).1] at e; cases e]
  exact e
theorem rep_cut {n : Nat} : ∀ {d : D} {v : V}, Rep F' r' v d → d.wf n = true → Rep F' (r'.take n) v d := by
  have : (∀ (d : D) (v : V), Rep F' r' v d → d.wf n = true → Rep F' (r'.take n) v d) := by
    intro d
    refine D.rec (motive_1 := fun d => ∀ (v : V), Rep F' r' v d → d.wf n = true → Rep F' (r'.take n) v d) (motive_2 := fun ds => ∀ (vs : List V), Reps F' r' vs ds → D.wfs n ds = true → Reps F' (r'.take n) vs ds) ?_ ?_ ?_ ?_ ?_ ?_ ?_ ?_ ?_ ?_ ?_ d
    · intro v k _; cases k; exact .non
    · intro b v k _; cases k; exact .bl b
    · intro b v k _; cases k; exact .int b
    · intro b v k _; cases k with | str _ h1 h2 => exact .str b h1 h2
    · intro ds ih v k w; cases k with | tup q k => exact .tup q (ih _ k (by unfold D.wf at w; exact w))
    · intro ds ih v k w; cases k with | lst q k => exact .lst q (ih _ k (by unfold D.wf at w; exact w))
    · intro i v k w
      cases k with
      | ref q =>
        unfold D.wf at w
        exact .ref (by rw [List.getElem?_take_of_lt (of_decide_eq_true w)]; exact q)
    · intro ns v k _; cases k with | scr q => exact .scr q
    · intro a o v k _; cases k with
      | exn0 => exact .exn0 _
      | exn1 q => exact .exn1 q
    · intro vs k _; cases k; exact .nil
    · intro d ds ih1 ih2 vs k w
      cases k with
      | cons k1 k2 =>
        unfold D.wfs at w
        rw [Bool.and_eq_true] at w
        exact .cons (ih1 _ k1 w.1) (ih2 _ k2 w.2)
  exact fun {d v} => this d v
theorem reps_cut {n : Nat} : ∀ {ds : List D} {vs : List V}, Reps F' r' vs ds → D.wfs n ds = true → Reps F' (r'.take n) vs ds
  | [], _, .nil, _ => .nil
  | d :: ds, _, .cons k1 k2, w => by
    unfold D.wfs at w
    rw [Bool.and_eq_true] at w
    exact .cons (rep_cut k1 w.1) (reps_cut k2 w.2)
theorem flds_cut {n : Nat} : ∀ {vs : List (Str × V)} {fs : List (Str × D)}, Flds F' r' vs fs → (fs.all fun p => p.2.wf n) = true → Flds F' (r'.take n) vs fs
  | [], [], _, _ => trivial
  | _ :: _, _ :: _, ⟨e, k, t⟩, w => by
    rw [List.all_cons, Bool.and_eq_true] at w
    exact ⟨e, rep_cut k w.1, flds_cut t w.2⟩
  | [], _ :: _, h, _ => h.elim
  | _ :: _, [], h, _ => h.elim
theorem kvr_cut {A : Type} {n : Nat} : ∀ {vs : List (A × V)} {fs : List (A × D)}, KVr F' r' vs fs → (fs.all fun p => p.2.wf n) = true → KVr F' (r'.take n) vs fs
  | [], [], _, _ => trivial
  | _ :: _, _ :: _, ⟨e, k, t⟩, w => by
    rw [List.all_cons, Bool.and_eq_true] at w
    exact ⟨e, rep_cut k w.1, kvr_cut t w.2⟩
  | [], _ :: _, h, _ => h.elim
  | _ :: _, [], h, _ => h.elim
/-- the store cut off at n, the rest frozen -/
theorem Holds.cut (h : Holds W Rs F' H' r' (st1 ++ junk)) (w : ∀ o ∈ st1, o.wf st1.length = true) : Holds W Rs (froz F' H' (r'.drop st1.length)) H' (r'.take st1.length) st1 := by
  have sF := froz_same h (js := r'.drop st1.length) fun a m => List.mem_of_mem_drop m
  have hl : st1.length ≤ r'.length := by rw [h.len]; simp
  refine ⟨fun a o e => ?_, h.sR, fun a e => ?_, by simp [hl], h.nd.sublist (List.take_sublist _ _), fun a m => ?_, fun i a o e1 e2 => ?_, ⟨fun t ht => ?_, fun a ps z => ?_, h.tb.nR⟩⟩
  · unfold froz at e
    split at e
    · exact e
    · exact h.sF _ _ e
  · unfold froz at e
    split at e
    · rename_i m; exact (h.own a (List.mem_of_mem_drop m)).2
    · exact h.dj a e
  · have o := h.own a (List.mem_of_mem_take m)
    refine ⟨?_, o.2⟩
    unfold froz
    rw [if_neg fun m2 => ?_]
    · exact o.1
    · have nd := h.nd
      rw [← List.take_append_drop st1.length r', List.nodup_append] at nd
      exact nd.2.2 a m a m2 rfl
  · have hi : i < st1.length := (List.getElem?_eq_some_iff.mp e2).1
    rw [List.getElem?_take_of_lt hi] at e1
    have k := h.ob i a o e1 (by rw [List.getElem?_append_left hi]; exact e2)
    have wo := w o (List.mem_of_getElem? e2)
    cases o with
    | lst ds => obtain ⟨vs, q, k⟩ := k; exact ⟨vs, q, (reps_cut k wo).mono sF (Ext.refl _)⟩
    | ins C fs => obtain ⟨dx, vs, q, k⟩ := k; exact ⟨dx, vs, q, (flds_cut k wo).mono sF (Ext.refl _)⟩
    | dK kvs => obtain ⟨vs, q, k⟩ := k; exact ⟨vs, q, (kvr_cut k wo).mono sF (Ext.refl _)⟩
    | dT kvs => obtain ⟨vs, q, k⟩ := k; exact ⟨vs, q, (kvr_cut k wo).mono sF (Ext.refl _)⟩
    | dead => exact k
  · obtain ⟨t1, t2, t3, t4⟩ := h.tb.at_ t ht
    refine ⟨t1, ?_, t3, fun m => t4 (List.mem_of_mem_take m)⟩
    unfold froz
    rw [if_neg fun m => t4 (List.mem_of_mem_drop m)]
    exact t2
  · unfold froz at z
    split at z
    · rename_i m
      obtain ⟨u, hu, k1, _⟩ := h.kindOf (List.mem_of_mem_drop m)
      rw [hu] at z
      exact k1 ps (Option.some.inj z)
    · exact h.tb.nF a ps z
/-- res is res' but for what was laid on the way -/
def Frz (n : Nat) (res res' : R (D × Store)) : Prop := match res' with
  | .ok (d', st1) => ∃ d junk, res = .ok (d, st1 ++ junk) ∧ st1.length = n ∧ (∀ o ∈ st1, o.wf n = true) ∧ rsv n (st1 ++ junk) 50 d = some d'
  | .exc c none st1 => ∃ junk, res = .exc c none (st1 ++ junk) ∧ st1.length = n ∧ (∀ o ∈ st1, o.wf n = true)
  | .exc c (some d') st1 => ∃ d junk, res = .exc c (some d) (st1 ++ junk) ∧ st1.length = n ∧ (∀ o ∈ st1, o.wf n = true) ∧ rsv n (st1 ++ junk) 50 d = some d'
  | .bad => True
end
end Dl
namespace Dl
open PySem L2
section
variable {P : Program} {w : World} {W : Wd} {mg : Str → Option Value} {base : Heap} {X : Cx} {E : XK}
/-- a def of the text that means g -/
structure Fn (P : Program) (w : World) (W : Wd) (mg : Str → Option Value) (base : Heap) (x : Str) (k n : Nat) (g : FV) : Prop where
  ex : ∃ f fd ps, FnOk P w W.K mg base (L2.CX P w) k f fd ps (spD W n g) ∧ mg x = some (.ref f) ∧ PySem.W.keepIn W.K (.ref f) = true ∧ Binds W.K fd ps []
/-- a method of the class c -/
structure Mt (P : Program) (w : World) (W : Wd) (mg : Str → Option Value) (base : Heap) (c : Nat) (m : Str) (k n : Nat) (g : FV) : Prop where
  ex : ∃ f fd ps, FnOk P w W.K mg base (L2.CX P w) k f fd ps (spD W n g) ∧ Meth W.K (W.cls c) m f ∧ Binds W.K fd ps []
  cl : Cls W.K (W.cls c)
/-- the class c by its __init__ -/
structure Nw (P : Program) (w : World) (W : Wd) (mg : Str → Option Value) (base : Heap) (x : Str) (c : Nat) (k n : Nat) (g : FV) : Prop where
  ex : ∃ f fd ps, FnOk P w W.K mg base (L2.CX P w) k f fd ps (spD W n g) ∧ Mk W.K (W.cls c) f ∧ mg x = some (.ref (W.cls c)) ∧ Binds W.K fd ps []
/-- the meaning said otherwise where it is said at all -/
theorem Frz.same {n : Nat} {res : R (D × Store)} : ∀ {d : D} {st : Store}, res = .ok (d, st) → st.length = n → (∀ o ∈ st, o.wf n = true) → rsv n st 50 d = some d → Frz n res (.ok (d, st)) := fun e h1 h2 h3 => ⟨_, [], by rw [List.append_nil]; exact e, h1, h2, by rw [List.append_nil]; exact h3⟩
theorem dv (i : Nat) {x : Str} {pos : Pos} (hN : X.N[i]? = some x := by rfl) (hv : Vis X.env.scope x := by first | exact Or.inl rfl | exact Or.inr (Or.inl rfl) | exact Or.inr (Or.inr rfl)) (hd : (x == ("__debug__" : Str)) = false := by decide)
    (hcd : (x == ("__classdict__" : Str)) = false := by decide) : DE W X E (.Name x pos) (eV i) := de_var hN hv hd hcd
def eNeg (f : EV) : EV := fun env st => (f env st).bind fun a => match a.1 with
  | .int i => .ok (.int (-i), a.2)
  | _ => .bad
theorem de_neg {e : Expr} {f : EV} {pos : Pos} (h : DE W X E e f) : DE W X E (.UnaryOp .USub e pos) (eNeg f) := by
  obtain ⟨t, p, q⟩ := h.ex
  refine .mk (pe_un un_neg p) fun Rs F H rr sg env st Q hH hE hP => ?_
  refine q Rs F H rr sg env st _ hH hE (bindX hP fun a ea z F1 H1 r1 v1 s1 x1 h1 k1 => ?_)
  obtain ⟨d, st1⟩ := a
  cases k1 with
  | int i => exact ⟨i, rfl, z F1 H1 r1 _ s1 x1 h1 (.int _)⟩
  | _ => exact z.elim
section
variable {k j n : Nat} {g : FV} {x : Str} {e : Expr} {es : List Expr} {p pos apos : Pos} {ga : AV}
theorem dcall (c : Fn X.prog X.w W X.mg X.base x k n g) (hr : Room j X.A) (hx : Passes (L2.CX X.prog X.w) X E) (ha : DA W X E (e :: es) ga) (hK : X.K = W.K := by rfl) (hj : k ≤ j := by decide) (hg : Gl X x := by rfl)
    (hdb : (x == ("__debug__" : Str)) = false := by decide) (he : starEach (e :: es) X.env = (false, eval e X.env) :: starEach es X.env := by rfl) (hpl : (backTo pos (starEach es X.env)).any (·.1) = false := by rfl) :
    DE W X E (.Call (.Name x p) (e :: es) [] pos) (eCall n g ga) := let ⟨f, fd, ps, F, a, b, c⟩ := c.ex; de_call hK F hr hj hg a b c hx ha hdb he hpl
theorem dmake {c : Nat} (c' : Nw X.prog X.w W X.mg X.base x c k n g) (hr : Room (j + 1) X.A) (hx : Passes (L2.CX X.prog X.w) X E) (ha : DA W X E (e :: es) ga) (hK : X.K = W.K := by rfl) (hj : k ≤ j := by decide) (hg : Gl X x := by rfl)
    (hdb : (x == ("__debug__" : Str)) = false := by decide) (he : starEach (e :: es) X.env = (false, eval e X.env) :: starEach es X.env := by rfl) (hpl : (backTo pos (starEach es X.env)).any (·.1) = false := by rfl) :
    DE W X E (.Call (.Name x p) (e :: es) [] pos) (eMake c n g ga) := let ⟨f, fd, ps, F, a, b, c⟩ := c'.ex; de_make hK a F hr hj hg b c hx ha hdb he hpl
theorem dmeth {o : Expr} {fo : EV} {c : Nat} {m : Str} {pl : Sem Bool} (c' : Mt X.prog X.w W X.mg X.base c m k n g) (he : DE W X E o fo) (hr : Room j X.A) (hx : Passes (L2.CX X.prog X.w) X E) (ha : DA W X E (e :: es) ga) (hK : X.K = W.K := by rfl) (hj : k ≤ j := by decide)
    (hst : starEach (e :: es) X.env = (false, eval e X.env) :: starEach es X.env := by rfl) (hpl : (backTo pos (starEach es X.env)).any (·.1) = false := by rfl)
    (ht : eval (.Call (.Attribute o m apos) (e :: es) [] pos) X.env = (do
      let ov ← eval o X.env
      standAt apos.atName
      let (f, first) ← holding [ov] (getMethod ov m pl)
      callWith pos f first (backTo pos (starEach (e :: es) X.env)) (backToKw pos (keywordEach [] X.env))) := by rfl) :
    DE W X E (.Call (.Attribute o m apos) (e :: es) [] pos) (eMeth c m n g fo ga) := let ⟨f, fd, ps, F, a, b⟩ := c'.ex; de_meth (pl := pl) hK he c'.cl a F hr hj b hx ha hst hpl ht
theorem dmeth0 {o : Expr} {fo : EV} {c : Nat} {m : Str} {pl : Sem Bool} (c' : Mt X.prog X.w W X.mg X.base c m k n g) (he : DE W X E o fo) (hr : Room j X.A) (hx : Passes (L2.CX X.prog X.w) X E) (hK : X.K = W.K := by rfl) (hj : k ≤ j := by decide)
    (ht : eval (.Call (.Attribute o m apos) [] [] pos) X.env = (do
      let ov ← eval o X.env
      standAt apos.atName
      let (f, first) ← holding [ov] (getMethod ov m pl)
      callWith pos f first [] []) := by rfl) :
    DE W X E (.Call (.Attribute o m apos) [] [] pos) (eMeth c m n g fo aNil) := let ⟨f, fd, ps, F, a, b⟩ := c'.ex; de_meth0 (pl := pl) hK he c'.cl a F hr hj b hx fun {to} po => by
      refine pe_meth0 (pl := pl) (C := W.cls c) (sp := spD W n g) po (by rw [hK]; exact c'.cl) (by rw [hK]; exact a) (by rw [hK]; exact F) (hr.mono hj) (by rw [hK]; exact b) .nil hx ht
end
theorem passD {qual : Str} {N : List Str} {sc : Scope} {f : Addr} {cd : Value} {A : Around} {outer : List PySem.Env} {s : Shared} {H : Hp} {K : PySem.W.Frag} : Passes (L2.CX P w) (cxOf (L2.CX P w) P w K mg base N qual sc f cd A outer s H E) E :=
  passes_call (takes_of rfl rfl rfl rfl) fun _ _ _ _ h => h
theorem passF {qual : Str} {N : List Str} {sc : Scope} {f : Addr} {cd : Value} {A : Around} {outer : List PySem.Env} {s : Shared} {H : Hp} {K : PySem.W.Frag} : PassesOwn (model P w) (cxOf (L2.CX P w) P w K mg base N qual sc f cd A outer s H E).A (cxOf (L2.CX P w) P w K mg base N qual sc f cd A outer s H E).env (cxOf (L2.CX P w) P w K mg base N qual sc f cd A outer s H E).xe :=
  passes_of (X := cxOf (L2.CX P w) P w K mg base N qual sc f cd A outer s H E) rfl
end
end Dl
namespace Dl
open PySem L2
def SR.andThen (r : SR) (g : SV) : SR := match r with
  | .nx e s => g e s
  | .rt d s => .rt d s
  | .bk e s => .bk e s
  | .ct e s => .ct e s
  | .exc c p s => .exc c p s
  | .bad => .bad
@[simp] theorem then_nx (e : Env) (s : Store) (g : SV) : (SR.nx e s).andThen g = g e s := (rfl)
@[simp] theorem then_rt (d : D) (s : Store) (g : SV) : (SR.rt d s).andThen g = .rt d s := (rfl)
@[simp] theorem then_bk (e : Env) (s : Store) (g : SV) : (SR.bk e s).andThen g = .bk e s := (rfl)
@[simp] theorem then_ct (e : Env) (s : Store) (g : SV) : (SR.ct e s).andThen g = .ct e s := (rfl)
@[simp] theorem then_exc (c : Nat) (p : Option D) (s : Store) (g : SV) : (SR.exc c p s).andThen g = .exc c p s := (rfl)
@[simp] theorem then_bad (g : SV) : (SR.bad).andThen g = .bad := (rfl)
def R.ifS (r : R (Bool × Store)) (f g : SV) (env : Env) : SR := match r with
  | .ok a => if a.1 = true then f env a.2 else g env a.2
  | .exc c p st => .exc c p st
  | .bad => .bad
@[simp] theorem ifS_ok (a : Bool × Store) (f g : SV) (env : Env) : (R.ok a).ifS f g env = if a.1 = true then f env a.2 else g env a.2 := (rfl)
@[simp] theorem ifS_exc (c : Nat) (p : Option D) (st : Store) (f g : SV) (env : Env) : (R.exc c p st : R (Bool × Store)).ifS f g env = .exc c p st := (rfl)
@[simp] theorem ifS_bad (f g : SV) (env : Env) : (R.bad : R (Bool × Store)).ifS f g env = .bad := (rfl)
def R.forS (r : R (Wk × Store)) (g : GV) (b : SV) (env : Env) : SR := match r with
  | .ok a => forGo a.1.2 g b a.1.1 env a.2
  | .exc c p st => .exc c p st
  | .bad => .bad
@[simp] theorem forS_ok (ds : List D) (sub : List (Nat × List D)) (s : Store) (g : GV) (b : SV) (env : Env) : (R.ok ((ds, sub), s)).forS g b env = forGo sub g b ds env s := (rfl)
@[simp] theorem forS_exc (c : Nat) (p : Option D) (st : Store) (g : GV) (b : SV) (env : Env) : (R.exc c p st : R (Wk × Store)).forS g b env = .exc c p st := (rfl)
@[simp] theorem forS_bad (g : GV) (b : SV) (env : Env) : (R.bad : R (Wk × Store)).forS g b env = .bad := (rfl)
def R.lcS (r : R (Wk × Store)) (m : Bool) (t : Tg1) (tt : TV) (te : EV) (env : Env) : R (D × Store) := match r with
  | .ok a => if a.1.1.length ≤ LIM then (lcGo a.1.2 t tt te env a.1.1 [] a.2).bind fun b => newL m b.1 b.2 else .bad
  | .exc c p st => .exc c p st
  | .bad => .bad
@[simp] theorem lcS_ok (ds : List D) (sub : List (Nat × List D)) (s : Store) (m : Bool) (t : Tg1) (tt : TV) (te : EV) (env : Env) : (R.ok ((ds, sub), s)).lcS m t tt te env = if ds.length ≤ LIM then (lcGo sub t tt te env ds [] s).bind fun b => newL m b.1 b.2 else .bad := (rfl)
@[simp] theorem lcS_exc (c : Nat) (p : Option D) (st : Store) (m : Bool) (t : Tg1) (tt : TV) (te : EV) (env : Env) : (R.exc c p st : R (Wk × Store)).lcS m t tt te env = .exc c p st := (rfl)
@[simp] theorem lcS_bad (m : Bool) (t : Tg1) (tt : TV) (te : EV) (env : Env) : (R.bad : R (Wk × Store)).lcS m t tt te env = .bad := (rfl)
section
variable (env : Env) (st : Store)
@[simp] theorem r_eV (i : Nat) : eV i env st = match env[i]? with
  | some (some d) => .ok (d, st)
  | _ => .bad := (rfl)
@[simp] theorem r_eC (d : D) : eC d env st = .ok (d, st) := (rfl)
@[simp] theorem r_eOp (g : G2) (fa fb : EV) : eOp g fa fb env st = (fa env st).bind fun a => (fb env a.2).bind fun b => g b.2 a.1 b.1 := (rfl)
@[simp] theorem r_tv (f : EV) : tv f env st = (f env st).bind fun a => match a.1 with
  | .bl b => .ok (b, a.2)
  | _ => .bad := (rfl)
@[simp] theorem r_eChain (g g' : G2) (fa fb fc : EV) : eChain g g' fa fb fc env st = (fa env st).bind fun a => (fb env a.2).bind fun b => (g b.2 a.1 b.1).bind fun z => match z.1 with
  | .bl true => (fc env z.2).bind fun c => g' c.2 b.1 c.1
  | .bl false => .ok (.bl false, z.2)
  | _ => .bad := (rfl)
@[simp] theorem r_tAndD (f g : TV) : tAndD f g env st = (f env st).bind fun a => if a.1 = true then g env a.2 else .ok (false, a.2) := (rfl)
@[simp] theorem r_tOrD (f g : TV) : tOrD f g env st = (f env st).bind fun a => if a.1 = true then .ok (true, a.2) else g env a.2 := (rfl)
@[simp] theorem r_tNotD (f : TV) : tNotD f env st = (f env st).bind fun a => .ok (!a.1, a.2) := (rfl)
@[simp] theorem r_eAnd (f g : EV) : eAnd f g env st = (f env st).bind fun a => match a.1 with
  | .bl true => g env a.2
  | .bl false => .ok (.bl false, a.2)
  | _ => .bad := (rfl)
@[simp] theorem r_eOr (f g : EV) : eOr f g env st = (f env st).bind fun a => match a.1 with
  | .bl true => .ok (.bl true, a.2)
  | .bl false => g env a.2
  | _ => .bad := (rfl)
@[simp] theorem r_eNot (f : EV) : eNot f env st = (f env st).bind fun a => match a.1 with
  | .bl b => .ok (.bl (!b), a.2)
  | _ => .bad := (rfl)
@[simp] theorem r_eIf (t : TV) (f g : EV) : eIf t f g env st = (t env st).bind fun a => if a.1 = true then f env a.2 else g env a.2 := (rfl)
@[simp] theorem r_aNil : aNil env st = .ok ([], st) := (rfl)
@[simp] theorem r_aCons (f : EV) (g : AV) : aCons f g env st = (f env st).bind fun a => (g env a.2).bind fun b => .ok (a.1 :: b.1, b.2) := (rfl)
@[simp] theorem r_newF (ds : List D) : newL false ds st = .ok (.lst ds, st) := (rfl)
@[simp] theorem r_newT (ds : List D) : newL true ds st = .ok (.ref st.length, st ++ [.lst ds]) := (rfl)
@[simp] theorem r_eTup (g : AV) : eTup g env st = (g env st).bind fun a => if a.1.length ≤ LIM then .ok (.tup a.1, a.2) else .bad := (rfl)
@[simp] theorem r_eLst (m : Bool) (g : AV) : eLst m g env st = (g env st).bind fun a => if a.1.length ≤ LIM then newL m a.1 a.2 else .bad := (rfl)
@[simp] theorem r_sNext : sNext env st = .nx env st := (rfl)
@[simp] theorem r_sCons (f g : SV) : sCons f g env st = (f env st).andThen g := by unfold sCons SR.andThen; cases f env st <;> rfl
@[simp] theorem r_sPass : sPass env st = .nx env st := (rfl)
@[simp] theorem r_sExpr (f : EV) : sExpr f env st = sOf (f env st) fun a => .nx env a.2 := (rfl)
@[simp] theorem r_sRet (f : EV) : sRet f env st = sOf (f env st) fun a => .rt a.1 a.2 := (rfl)
@[simp] theorem r_sIf (t : TV) (f g : SV) : sIf t f g env st = (t env st).ifS f g env := by unfold sIf R.ifS sOf; cases t env st <;> rfl
@[simp] theorem r_sBad : sBad env st = .bad := (rfl)
@[simp] theorem r_sAsg (f : EV) (g : GV) : sAsg f g env st = sOf (f env st) fun a => sOf (g a.1 env a.2) fun b => .nx b.1 b.2 := (rfl)
@[simp] theorem r_sPar (i j : Nat) (f : AV) : sPar i j f env st = sOf (f env st) fun a => match a.1 with
  | [d, e] => .nx ((env.set i (some d)).set j (some e)) a.2
  | _ => .bad := (rfl)
@[simp] theorem r_sPar3 (i j l : Nat) (f : AV) : sPar3 i j l f env st = sOf (f env st) fun a => match a.1 with
  | [d, e, c] => .nx (((env.set i (some d)).set j (some e)).set l (some c)) a.2
  | _ => .bad := (rfl)
@[simp] theorem r_gN (i : Nat) (d : D) : gN i d env st = .ok (env.set i (some d), st) := (rfl)
@[simp] theorem r_gsNil : gsNil [] env st = .ok (env, st) := (rfl)
@[simp] theorem r_gsCons (g : GV) (h : GVs) (d : D) (ds : List D) : gsCons g h (d :: ds) env st = (g d env st).bind fun a => h ds a.1 a.2 := (rfl)
@[simp] theorem r_gTp (n : Nat) (h : GVs) (ds : List D) : gTp n h (.tup ds) env st = if ds.length = n then h ds env st else .bad := (rfl)
@[simp] theorem r_gSb (fo fi : EV) (g : SetV) (d : D) : gSb fo fi g d env st = (fo env st).bind fun a => (fi env a.2).bind fun b => match g b.2 a.1 b.1 d with
  | some st' => .ok (env, st')
  | none => .bad := (rfl)
@[simp] theorem r_iSeq (f : EV) : iSeq f env st = (f env st).bind fun a => match itemsOf a.2 a.1 with
  | some w => .ok (w, a.2)
  | none => .bad := (rfl)
@[simp] theorem r_sFor (it : IV) (g : GV) (b : SV) : sFor it g b env st = (it env st).forS g b env := by unfold sFor R.forS sOf; cases it env st <;> rfl
@[simp] theorem r_tYesD : tYesD env st = .ok (true, st) := (rfl)
@[simp] theorem r_eLc (m : Bool) (it : IV) (vs : List Nat) (t : Tg1) (tt : TV) (te : EV) : eLc m it vs t tt te env st = (it env st).lcS m t tt te (wipeD env vs) := by unfold eLc R.lcS R.bind; cases it env st <;> rfl
@[simp] theorem r_iR1 (g : AV) : iR1 g env st = (g env st).bind fun a => match a.1 with
  | [.int n] => if -1000000 ≤ n ∧ n ≤ 1000000 then .ok ((intsD 0 n.toNat, []), a.2) else .bad
  | _ => .bad := (rfl)
@[simp] theorem r_iR2 (g : AV) : iR2 g env st = (g env st).bind fun a => match a.1 with
  | [.int i, .int n] => if (-1000000 ≤ i ∧ i ≤ 1000000) ∧ -1000000 ≤ n ∧ n ≤ 1000000 then .ok ((intsD i (n - i).toNat, []), a.2) else .bad
  | _ => .bad := (rfl)
@[simp] theorem r_iEn (g : AV) : iEn g env st = (g env st).bind fun a => match a.1 with
  | [d] => match listOf a.2 d with
    | some w => .ok ((pairUp w.1, w.2), a.2)
    | none => .bad
  | _ => .bad := (rfl)
@[simp] theorem r_iZp (g : AV) : iZp g env st = (g env st).bind fun a => match a.1 with
  | [d, e] => match listOf a.2 d, listOf a.2 e with
    | some w, some w' => .ok ((zipUp w.1 w'.1, w.2 ++ w'.2), a.2)
    | _, _ => .bad
  | _ => .bad := (rfl)
@[simp] theorem r_eCall (n : Nat) (g : FV) (ga : AV) : eCall n g ga env st = (ga env st).bind fun a => if a.1.length = n then g a.1 a.2 else .bad := (rfl)
@[simp] theorem r_eB (g : GA) (ga : AV) : eB g ga env st = (ga env st).bind fun a => g a.2 a.1 := (rfl)
@[simp] theorem r_eIs (T : String) (f : EV) : eIs T f env st = (f env st).bind fun a => isG1 T a.2 [a.1] := (rfl)
@[simp] theorem r_eMt (T : String) (g : GM) (fo : EV) (ga : AV) : eMt T g fo ga env st = (fo env st).bind fun o => if tyM o.2 o.1 = some T then (ga env o.2).bind fun a => g a.2 o.1 a.1 else .bad := (rfl)
@[simp] theorem r_eSl (m : Bool) (f : EV) (l h : Env → Store → R (Option Int × Store)) : eSl m f l h env st = (f env st).bind fun a => (l env a.2).bind fun b => (h env b.2).bind fun c => slG m c.2 a.1 b.1 c.1 := (rfl)
@[simp] theorem r_poNone : poNone env st = .ok (none, st) := (rfl)
@[simp] theorem r_poSome (f : EV) : poSome f env st = (f env st).bind fun a => match a.1 with
  | .int i => .ok (some i, a.2)
  | _ => .bad := (rfl)
@[simp] theorem r_eNeg (f : EV) : eNeg f env st = (f env st).bind fun a => match a.1 with
  | .int i => .ok (.int (-i), a.2)
  | _ => .bad := (rfl)
@[simp] theorem r_eFld (c : Nat) (f : Str) (fo : EV) : eFld c f fo env st = (fo env st).bind fun o => match o.1 with
  | .ref i => match o.2[i]? with
    | some (.ins c' fs) => if c' = c then (match fs.lookup f with
      | some d => .ok (d, o.2)
      | none => .bad) else .bad
    | _ => .bad
  | _ => .bad := (rfl)
@[simp] theorem r_isG1 (T : String) (d : D) : isG1 T st [d] = match tyOf st d with
    | some t => .ok (.bl (subTy t T), st)
    | none => .bad := (rfl)
end
theorem le_LIM {n : Nat} (h : n ≤ 1000000) : n ≤ LIM := h
theorem lt_LIM {n : Nat} (h : n < 1000000) : n < LIM := h
theorem lcGo_nil {sub : List (Nat × List D)} {t : Tg1} {tt : TV} {te : EV} {env : Env} {acc : List D} {st : Store} (h : still sub st = true) : lcGo sub t tt te env [] acc st = .ok (acc, st) := by
  unfold lcGo; rw [if_pos h]
theorem lcGo_cons {sub : List (Nat × List D)} {t : Tg1} {tt : TV} {te : EV} {env : Env} {d : D} {ds acc : List D} {st : Store} (h : still sub st = true) : lcGo sub t tt te env (d :: ds) acc st = match t.put d env with
    | some env1 => (noX (tt env1 st)).bind fun b => if b.1 = true then (noX (te env1 b.2)).bind fun y => lcGo sub t tt te env ds (acc ++ [y.1]) y.2 else lcGo sub t tt te env ds acc b.2
    | none => .bad := by
  rw [lcGo, if_pos h]
  all_goals rfl
theorem forGo_nil {sub : List (Nat × List D)} {g : GV} {b : SV} {env : Env} {st : Store} (h : still sub st = true) : forGo sub g b [] env st = .nx env st := by
  unfold forGo; rw [if_pos h]
theorem forGo_cons {sub : List (Nat × List D)} {g : GV} {b : SV} {d : D} {ds : List D} {env : Env} {st : Store} (h : still sub st = true) : forGo sub g b (d :: ds) env st = sOf (g d env st) fun a => (match b a.1 a.2 with
      | .nx e s => forGo sub g b ds e s
      | .ct e s => forGo sub g b ds e s
      | .bk e s => .nx e s
      | .rt d s => .rt d s
      | .exc c p s => .exc c p s
      | .bad => .bad) := by
  rw [forGo, if_pos h]
  all_goals rfl
/-- a comprehension that changes nothing -/
theorem lc_pure {sub : List (Nat × List D)} {t : Tg1} {tt : TV} {te : EV} {env : Env} {st : Store} (hs : still sub st = true) (p : D → Bool) (f : D → D) : ∀ (ds acc : List D),
    (∀ d ∈ ds, ∃ env1, t.put d env = some env1 ∧ tt env1 st = .ok (p d, st) ∧ (p d = true → te env1 st = .ok (f d, st))) → lcGo sub t tt te env ds acc st = .ok (acc ++ (ds.filter p).map f, st)
  | [], acc, _ => by rw [lcGo_nil hs]; simp
  | d :: ds, acc, h => by
    obtain ⟨env1, h1, h2, h3⟩ := h d (by simp)
    have ih := fun acc => lc_pure hs p f ds acc fun e he => h e (by simp [he])
    rw [lcGo_cons hs, h1]
    simp only [h2, noX_ok, R.bind_ok]
    cases e : p d with
    | true => simp [h3 e, ih, e]
    | false => simp [ih, e]
theorem lc_map {sub : List (Nat × List D)} {t : Tg1} {te : EV} {env : Env} {st : Store} (hs : still sub st = true) (f : D → D) (ds : List D) (h : ∀ d ∈ ds, ∃ env1, t.put d env = some env1 ∧ te env1 st = .ok (f d, st)) : lcGo sub t tYesD te env ds [] st = .ok (ds.map f, st) := by
  have := lc_pure (tt := tYesD) hs (fun _ => true) f ds [] fun d hd => let ⟨e, a, b⟩ := h d hd; ⟨e, a, rfl, fun _ => b⟩
  rw [this, List.filter_eq_self.mpr (by simp)]
  simp
/-- a loop by its invariant: what is so ahead of the i-th turn -/
theorem for_inv {sub : List (Nat × List D)} {g : GV} {b : SV} (I : Nat → Env → Store → Prop) {ds : List D} {env : Env} {st : Store} (h0 : I 0 env st) (hst : ∀ i env st, i ≤ ds.length → I i env st → still sub st = true)
    (turn : ∀ i d env st, ds[i]? = some d → I i env st → ∃ e1 s1 e2 s2, g d env st = .ok (e1, s1) ∧ (b e1 s1 = .nx e2 s2 ∨ b e1 s1 = .ct e2 s2) ∧ I (i + 1) e2 s2) : ∃ e s, forGo sub g b ds env st = .nx e s ∧ I ds.length e s := by
  have gen : ∀ (es : List D) (i : Nat) (env : Env) (st : Store), i + es.length = ds.length → ds.drop i = es → I i env st → ∃ e s, forGo sub g b es env st = .nx e s ∧ I ds.length e s := by
    intro es
    induction es with
    | nil =>
      intro i env st hl hd hI
      refine ⟨env, st, forGo_nil (hst i env st (by omega) hI), ?_⟩
      have : i = ds.length := by simpa using hl
      rw [← this]; exact hI
    | cons d es ih =>
      intro i env st hl hd hI
      have hi : ds[i]? = some d := by
        have := congrArg (fun l => l[0]?) hd
        simpa using this
      obtain ⟨e1, s1, e2, s2, a1, a2, a3⟩ := turn i d env st hi hI
      obtain ⟨e, s, r1, r2⟩ := ih (i + 1) e2 s2 (by simp at hl; omega) (by
        have : ds.drop (i + 1) = (ds.drop i).drop 1 := by rw [List.drop_drop]
        rw [this, hd]; rfl) a3
      refine ⟨e, s, ?_, r2⟩
      rw [forGo_cons (hst i env st (by simp at hl; omega) hI), a1]
      rcases a2 with a2 | a2 <;> simp [a2, r1]
  exact gen ds 0 env st (by simp) (by simp) h0
end Dl
namespace Dl
open PySem L2
theorem fnE {P : Program} {w : World} {W : Wd} {mg : Str → Option Value} {base : Heap} {x qual : Str} {s : Stmt} {f : Addr} {fd : FuncData} {N ps : List Str} {k n q : Nat} {b : SV} (F : Fun W.K x qual s f fd) (S : FnScope N ps (defScope s)) (hn : ps.length = n) (hq : N.length = q)
    (hbody : ∀ (cdv : Value) (A : Around) (outer : List PySem.Env) (sh : Shared) (H : Hp) (E : XK), Room k (A.deeper (PyProof.Rows.envOfC qual (defScope s) sh.heap.objs.size f cdv)) →
      DB W (cxOf (L2.CX P w) P w W.K mg base N qual (defScope s) f cdv A outer sh H E) E (defBody s) b) : FnOk P w W.K mg base (L2.CX P w) (k + 1) f fd ps (spD W n (funD q b)) := by
  subst hq
  exact fnD F S hn hbody
/-- the law's promise: from a script that the caller holds -/
def spLaw (n : Nat) : Sp := fun vs H Q _ => ∃ (a : Addr) (o : Obj) (ns : List Int), vs = [.ref a] ∧ H a = some (.frz o (.lst (ns.map V.int))) ∧ ns.length ≤ n ∧ ∀ H', Q (.bl true) H'
theorem isTbl_some {o : Option HO} (h : isTbl o = true) : ∃ ps, o = some (.tbl ps) := by
  unfold isTbl at h
  split at h
  · exact ⟨_, rfl⟩
  · cases h
def noTbl (H : Hp) : Hp := fun a => if isTbl (H a) = true then none else H a
theorem noTbl_same (H : Hp) : Same (noTbl H) H := fun a o e => by
  unfold noTbl at e
  split at e
  · cases e
  · exact e
theorem noTbl_ne (H : Hp) (a : Addr) (ps : Array Value) : noTbl H a ≠ some (.tbl ps) := fun e => by
  unfold noTbl at e
  split at e
  · cases e
  · rename_i n
    exact n (by rw [e]; rfl)
theorem noTbl_at {H : Hp} {a : Addr} {o : HO} (e : H a = some o) (n : ∀ ps, o ≠ .tbl ps) : noTbl H a = some o := by
  unfold noTbl
  rw [if_neg fun z => ?_]
  · exact e
  · obtain ⟨ps, q⟩ := isTbl_some z
    rw [e] at q
    exact n ps (Option.some.inj q)
/-- the law's promise, from a script that the caller holds, and empty tables at T -/
def spLawT (T : List Addr) (n : Nat) : Sp := fun vs H Q _ => ∃ (a : Addr) (ns : List Int), vs = [.ref a] ∧ ScrAt H a ns ∧ (∀ P ∈ T, H P = some (.tbl #[])) ∧ ns.length ≤ n ∧ ∀ H', Q (.bl true) H'
theorem law_ofT {P : Program} {w : World} {W : Wd} {mg : Str → Option Value} {base : Heap} {k n : Nat} {g : FV} {f : Addr} {fd : FuncData} {ps : List Str} {T : List Addr} (F : FnOk P w W.K mg base (L2.CX P w) k f fd ps (spD W 1 g))
    (h : ∀ ns : List Int, ns.length ≤ n → ∃ st, g [.scr ns] [] = .ok (.bl true, st)) (hT : ∀ p ∈ W.tabs, p.1 ∈ T) : FnOk P w W.K mg base (L2.CX P w) k f fd ps (spLawT T n) := by
  refine F.imp fun vs H Q E ⟨a, ns, e, hH, hP, hl, hQ⟩ => ?_
  subst e
  have hN : ScrAt (noTbl H) a ns := by
    rcases hH with ⟨o, hH⟩ | hH
    · exact .inl ⟨o, noTbl_at hH fun _ z => by cases z⟩
    · exact .inr (noTbl_at hH fun _ z => by cases z)
  obtain ⟨st, hst⟩ := h ns hl
  refine ⟨fun _ => none, noTbl H, [], [], [.scr ns], ⟨noTbl_same H, fun _ _ z => (by cases z), fun _ _ => rfl, rfl, List.nodup_nil, fun _ m => (by cases m), fun i a o e1 _ => (by simp at e1), ⟨fun t ht => ⟨.nil (hP _ (hT t ht)), ?_, rfl, (by simp)⟩, noTbl_ne H, fun _ _ z => (by cases z)⟩⟩, .cons (.scr hN) .nil, rfl, ?_⟩
  · unfold noTbl
    rw [if_pos (by rw [hP _ (hT t ht)]; rfl)]
  · rw [hst]
    intro F' H' r' v s x h1 k
    cases k
    exact hQ _
theorem law_of {P : Program} {w : World} {W : Wd} {mg : Str → Option Value} {base : Heap} {k n : Nat} {g : FV} {f : Addr} {fd : FuncData} {ps : List Str} (F : FnOk P w W.K mg base (L2.CX P w) k f fd ps (spD W 1 g))
    (h : ∀ ns : List Int, ns.length ≤ n → ∃ st, g [.scr ns] [] = .ok (.bl true, st)) (hT : W.tabs = []) : FnOk P w W.K mg base (L2.CX P w) k f fd ps (spLaw n) :=
  (law_ofT (T := []) F h (by rw [hT]; intro p hp; cases hp)).imp fun vs H Q E ⟨a, o, ns, e, hH, hl, hQ⟩ => ⟨a, ns, e, .inl ⟨o, hH⟩, fun _ h => (by cases h), hl, hQ⟩
/-- no object of the written part is a list -/
def noList (K : PySem.W.Frag) : Prop := ∀ a o, K.lookup a = some o → o.cls ≠ .type "list"
theorem mem_of_look {A B : Type} [BEq A] [LawfulBEq A] {a : A} {b : B} : ∀ {l : List (A × B)}, l.lookup a = some b → (a, b) ∈ l
  | [], e => by simp at e
  | (x, y) :: l, e => by
    rw [List.lookup_cons] at e
    cases h : a == x with
    | true => rw [h] at e; cases e; rw [eq_of_beq h]; exact List.mem_cons_self
    | false => rw [h] at e; exact List.mem_cons_of_mem _ (mem_of_look e)
def noListB (K : PySem.W.Frag) : Bool := K.all fun p => match p.2.cls with
  | .type s => !(s == "list")
  | _ => true
theorem noList_of {K : PySem.W.Frag} (h : noListB K = true) : noList K := fun a o e z => by
  have m : (a, o) ∈ K := by
    exact mem_of_look e
  have q := List.all_eq_true.mp h _ m
  simp only at q
  rw [z] at q
  revert q
  decide +kernel
theorem law_walk {l : PySem.W.OpenLaw} {n k : Nat} {q : Program} {loose : List Str} {XP : (Str → Option Value) → Heap → Prop} {YP : World → Heap → Prop} {d : DefRec} {K : Params → PySem.W.Frag} {x : Str} (hn : l.most = some n) (hn2 : n ≤ sizeLine) (hdf : d.params.defaults = []) (hr : Room k callerA)
    (hL : ∀ w : World, noList (K w.params))
    (hY : ∀ (w : World) (h : Heap), YP w h → (K w.params).In h)
    (F : ∀ (w : World) (mg : Str → Option Value) (fa : Addr) (h : Heap), (K w.params).In h → h.Ns mainGlobals mg → mg d.name = some (.ref fa) →
      ∃ fd : FuncData, (∀ (s : Shared) (u : Value), BindsTo s fd ⟨[u], []⟩ [(x, u)]) ∧ ∀ base : Heap, (K w.params).In base → base.Ns mainGlobals mg → FnOk l.prog w (K w.params) mg base (L2.CX l.prog w) k fa fd [x] (spLaw n)) :
    PySem.W.WalkO q loose XP YP l.row.toRowW d [] (fun f vs => PySem.call f vs) :=
  L2.walk_of (n := n) (k := k) (x := x) (CX := fun w => L2.CX l.prog w) (sp := fun _ => spLaw n) hn hn2 hdf hr hY F (fun w H a ns hl hO hS => by
    rcases hS with hS | ⟨o, its, m, h1, h2, _⟩
    · rcases hS with hS | ⟨o, hS⟩
      · rcases hO a with z | ⟨o, xs, z⟩
        · rw [hS] at z; cases z
        · rw [hS] at z; cases z
      · exact ⟨a, o, ns, rfl, hS, hl, fun _ => rfl⟩
    · exact absurd h2 (hL w a o h1)) fun _ _ _ _ _ ⟨_, _, _, _, _, _, _, _, _, _, _, _, z⟩ => z
end Dl
namespace Dl
open PySem L2
section
variable {κ : Type} [DecidableEq κ]
/-- what stands at a key -/
def valK (kvs : List (κ × D)) (k : κ) : Option D := (kvs.find? fun kv => decide (kv.1 = k)).map (·.2)
/-- a key's new value, at the old place or at the end -/
def putKD (kvs : List (κ × D)) (k : κ) (v : D) : List (κ × D) :=
  if kvs.any (fun kv => decide (kv.1 = k)) then kvs.map (fun kv => if kv.1 = k then (kv.1, v) else kv) else kvs ++ [(k, v)]
theorem valK_cons (p : κ × D) (r : List (κ × D)) (k : κ) : valK (p :: r) k = if p.1 = k then some p.2 else valK r k := by
  by_cases h : p.1 = k <;> simp [valK, List.find?_cons, h]
theorem valK_repl (k j : κ) (y : D) : ∀ kvs : List (κ × D), valK (kvs.map fun kv => if kv.1 = k then (kv.1, y) else kv) j = (valK kvs j).map fun x => if j = k then y else x
  | [] => rfl
  | p :: r => by
    rw [List.map_cons, valK_cons, valK_cons, valK_repl k j y r]
    by_cases h : p.1 = k
    · by_cases h2 : p.1 = j
      · have : j = k := h2.symm.trans h
        simp [h, this]
      · have : ¬ k = j := fun z => h2 (h.trans z)
        simp [h, this]
    · by_cases h2 : p.1 = j
      · have : ¬ j = k := fun z => h (h2.trans z)
        simp [h2, this]
      · simp [h, h2]
theorem valK_app (k j : κ) (y : D) : ∀ kvs : List (κ × D), valK (kvs ++ [(k, y)]) j = match valK kvs j with
    | some x => some x
    | none => if k = j then some y else none
  | [] => by rw [List.nil_append, valK_cons]; rfl
  | p :: r => by
    rw [List.cons_append, valK_cons, valK_cons, valK_app k j y r]
    by_cases h : p.1 = j <;> simp [h]
theorem valK_any (k : κ) : ∀ kvs : List (κ × D), kvs.any (fun kv => decide (kv.1 = k)) = (valK kvs k).isSome
  | [] => rfl
  | p :: r => by
    rw [List.any_cons, valK_any k r, valK_cons]
    by_cases h : p.1 = k <;> simp [h]
theorem valK_put (kvs : List (κ × D)) (k j : κ) (y : D) : valK (putKD kvs k y) j = if j = k then some y else valK kvs j := by
  unfold putKD
  rw [valK_any]
  cases h : valK kvs k with
  | some x =>
    simp only [Option.isSome_some, if_true]
    rw [valK_repl]
    by_cases z : j = k
    · subst z; simp [h]
    · simp [z]
  | none =>
    simp only [Option.isSome_none, Bool.false_eq_true, if_false]
    rw [valK_app]
    by_cases z : j = k
    · subst z; simp [h]
    · rw [if_neg z, if_neg (Ne.symm z)]
      cases valK kvs j <;> rfl
theorem putKD_len (kvs : List (κ × D)) (k : κ) (v : D) : (putKD kvs k v).length ≤ kvs.length + 1 := by
  unfold putKD
  split <;> simp
section
variable {F : Hp} {r : List Addr}
theorem KVr.val {k : κ} {d : D} : ∀ {vs : List (κ × V)} {kvs : List (κ × D)}, KVr F r vs kvs → valK kvs k = some d → ∃ v, valV vs k = some v ∧ Rep F r v d
  | [], [], _, e => by cases e
  | (f, v) :: vs, (g, d') :: kvs, ⟨e, h, q⟩, z => by
    subst e
    rw [valK_cons] at z
    by_cases hk : f = k
    · rw [if_pos hk] at z
      cases z
      exact ⟨v, valV_pos hk, h⟩
    · rw [if_neg hk] at z
      rw [valV_neg hk]
      exact KVr.val q z
  | [], _ :: _, h, _ => h.elim
  | _ :: _, [], h, _ => h.elim
theorem KVr.valN {k : κ} : ∀ {vs : List (κ × V)} {kvs : List (κ × D)}, KVr F r vs kvs → valK kvs k = none → valV vs k = none
  | [], [], _, _ => rfl
  | (f, v) :: vs, (g, d') :: kvs, ⟨e, h, q⟩, z => by
    subst e
    rw [valK_cons] at z
    by_cases hk : f = k
    · rw [if_pos hk] at z; cases z
    · rw [if_neg hk] at z
      rw [valV_neg hk]
      exact KVr.valN q z
  | [], _ :: _, h, _ => h.elim
  | _ :: _, [], h, _ => h.elim
/-- what is looked up, and its data -/
def RelK (F : Hp) (r : List Addr) : Option D → Option V → Prop
  | none, ov => ov = none
  | some d, ov => ∃ v, ov = some v ∧ Rep F r v d
theorem KVr.rel {k : κ} {vs : List (κ × V)} {kvs : List (κ × D)} (h : KVr F r vs kvs) : RelK F r (valK kvs k) (valV vs k) := by
  cases e : valK kvs k with
  | none => exact h.valN e
  | some d => exact h.val e
theorem KVr.any {k : κ} : ∀ {vs : List (κ × V)} {kvs : List (κ × D)}, KVr F r vs kvs → vs.any (fun kv => decide (kv.1 = k)) = kvs.any (fun kv => decide (kv.1 = k))
  | [], [], _ => rfl
  | (f, v) :: vs, (g, d') :: kvs, ⟨e, h, q⟩ => by
    subst e
    rw [List.any_cons, List.any_cons, KVr.any q]
  | [], _ :: _, h => h.elim
  | _ :: _, [], h => h.elim
theorem KVr.len : ∀ {vs : List (κ × V)} {kvs : List (κ × D)}, KVr F r vs kvs → vs.length = kvs.length
  | [], [], _ => rfl
  | (f, v) :: vs, (g, d') :: kvs, ⟨_, _, q⟩ => by simp [KVr.len q]
  | [], _ :: _, h => h.elim
  | _ :: _, [], h => h.elim
theorem KVr.repl {k : κ} {w : V} {e : D} (hw : Rep F r w e) : ∀ {vs : List (κ × V)} {kvs : List (κ × D)}, KVr F r vs kvs → KVr F r (vs.map fun kv => if kv.1 = k then (kv.1, w) else kv) (kvs.map fun kv => if kv.1 = k then (kv.1, e) else kv)
  | [], [], _ => trivial
  | (f, v) :: vs, (g, d') :: kvs, ⟨z, h, q⟩ => by
    subst z
    rw [List.map_cons, List.map_cons]
    by_cases hk : f = k
    · simp only [hk, if_true]
      exact ⟨rfl, hw, KVr.repl hw q⟩
    · simp only [hk, if_false]
      exact ⟨rfl, h, KVr.repl hw q⟩
  | [], _ :: _, h => h.elim
  | _ :: _, [], h => h.elim
theorem KVr.snoc {k : κ} {w : V} {e : D} (hw : Rep F r w e) : ∀ {vs : List (κ × V)} {kvs : List (κ × D)}, KVr F r vs kvs → KVr F r (vs ++ [(k, w)]) (kvs ++ [(k, e)])
  | [], [], _ => ⟨rfl, hw, trivial⟩
  | (f, v) :: vs, (g, d') :: kvs, ⟨z, h, q⟩ => ⟨z, h, KVr.snoc hw q⟩
  | [], _ :: _, h => h.elim
  | _ :: _, [], h => h.elim
theorem KVr.put {k : κ} {w : V} {e : D} (hw : Rep F r w e) {vs : List (κ × V)} {kvs : List (κ × D)} (h : KVr F r vs kvs) : KVr F r (putK vs k w) (putKD kvs k e) := by
  unfold putK putKD
  rw [h.any]
  split
  · exact h.repl hw
  · exact h.snoc hw
end
end
def keysOf : List D → Option (List L2.Key)
  | [] => some []
  | .int i :: ds => (keysOf ds).map (Sum.inl i :: ·)
  | .str s :: ds => (keysOf ds).map (Sum.inr ⟨s.toArray⟩ :: ·)
  | _ => none
@[simp] theorem keysOf_nil : keysOf [] = some [] := rfl
@[simp] theorem keysOf_int (i : Int) (ds : List D) : keysOf (.int i :: ds) = (keysOf ds).map (Sum.inl i :: ·) := rfl
@[simp] theorem keysOf_str (s : List Nat) (ds : List D) : keysOf (.str s :: ds) = (keysOf ds).map (Sum.inr ⟨s.toArray⟩ :: ·) := rfl
theorem keysOf_ok {F : Hp} {r : List Addr} : ∀ {ds : List D} {vs : List V} {ks : List L2.Key}, Reps F r vs ds → keysOf ds = some ks → vs = ks.map kV
  | [], _, _, .nil, e => by cases e; rfl
  | .int i :: ds, _, ks, .cons h t, e => by
    rw [keysOf_int] at e
    cases q : keysOf ds with
    | none => rw [q] at e; cases e
    | some ks' =>
      rw [q] at e; cases e
      cases h
      rw [keysOf_ok t q]; rfl
  | .str s :: ds, _, ks, .cons h t, e => by
    rw [keysOf_str] at e
    cases q : keysOf ds with
    | none => rw [q] at e; cases e
    | some ks' =>
      rw [q] at e; cases e
      cases h
      rw [keysOf_ok t q]; rfl
  | .non :: ds, _, ks, _, e => by cases e
  | .bl _ :: ds, _, ks, _, e => by cases e
  | .tup _ :: ds, _, ks, _, e => by cases e
  | .lst _ :: ds, _, ks, _, e => by cases e
  | .ref _ :: ds, _, ks, _, e => by cases e
  | .scr _ :: ds, _, ks, _, e => by cases e
  | .exn _ _ :: ds, _, ks, _, e => by cases e
/-- what the dict d holds at the key e; none where no word is said -/
def dvalG (st : Store) (d e : D) : Option (Option D) := match d with
  | .ref n => match st[n]? with
    | some (.dT kvs) => match e with
      | .tup ks => (keysOf ks).map (valK kvs)
      | _ => none
    | some (.dK kvs) => match e with
      | .int i => some (valK kvs (.inl i))
      | .str s => some (valK kvs (.inr ⟨s.toArray⟩))
      | _ => none
    | _ => none
  | _ => none
theorem dval_ok {W : Wd} {Rs F H : Hp} {r : List Addr} {st : Store} {x y : V} {dx dy : D} {o : Option D} (h : Holds W Rs F H r st) (kx : Rep F r x dx) (ky : Rep F r y dy) (e : dvalG st dx dy = some o) :
    ∃ a ov, x = .ref a ∧ DGet H a y ov ∧ RelK F r o ov := by
  cases kx with
  | @ref a n q =>
    unfold dvalG at e
    simp only at e
    split at e
    · rename_i kvs e1
      obtain ⟨vs, h1, k1⟩ := h.ob n a _ q e1
      cases ky with
      | @tup b vs2 ds qb kb =>
        simp only at e
        cases e2 : keysOf ds with
        | none => rw [e2] at e; cases e
        | some ks =>
          rw [e2] at e
          cases e
          have e3 := keysOf_ok kb e2
          subst e3
          exact ⟨a, _, rfl, DGet.t h1 (h.sF _ _ qb), k1.rel⟩
      | _ => cases e
    · rename_i kvs e1
      obtain ⟨vs, h1, k1⟩ := h.ob n a _ q e1
      cases ky with
      | int i =>
        cases e
        exact ⟨a, _, rfl, DGet.k (k := .inl i) h1, k1.rel⟩
      | str s hs hl =>
        cases e
        exact ⟨a, _, rfl, DGet.k (k := .inr ⟨s.toArray⟩) h1, k1.rel⟩
      | _ => cases e
    · cases e
  | _ => cases e
section
variable {W : Wd} {X : Cx} {E : XK}
theorem hu_of {j : Nat} {A : Around} (hr : Room j A) : A.units + 1 < cLine := by
  have := hr.units
  omega
def dgetG : G2 := fun st d e => match dvalG st d e with
  | some (some v) => .ok (v, st)
  | _ => .bad
theorem de_dget {a b : Expr} {fa fb : EV} {pos : Pos} (hu : X.A.units + 1 < cLine) (ha : DE W X E a fa) (hb : DE W X E b fb) (hs : NoSl b) : DE W X E (.Subscript a b pos) (eOp dgetG fa fb) := by
  obtain ⟨ta, pa, qa⟩ := ha.ex
  obtain ⟨tb, pb, qb⟩ := hb.ex
  refine .mk (pe_dget hu pa pb hs) fun Rs F H rr sg env st Q hH hE hP => eOp_post (rd := fun x y H Q => ∃ a v, x = .ref a ∧ DGet H a y (some v) ∧ Q v H) qa qb ?_ hH hE hP
  intro Rs F H rr st x y dx dy Q E h kx ky hP
  unfold dgetG at hP
  cases e : dvalG st dx dy with
  | none => rw [e] at hP; exact hP.elim
  | some o =>
    rw [e] at hP
    cases o with
    | none => exact hP.elim
    | some d =>
      obtain ⟨a, ov, rfl, g, v, rfl, k⟩ := dval_ok h kx ky e
      exact ⟨a, v, rfl, g, onE_here h k hP⟩
def dsetG : SetV := fun st o i v => match o with
  | .ref n => match st[n]? with
    | some (.dT kvs) => match i with
      | .tup ks => match keysOf ks with
        | some k => if kvs.length < LIM then some (st.set n (.dT (putKD kvs k v))) else none
        | none => none
      | _ => none
    | some (.dK kvs) => match i with
      | .int j => if kvs.length < LIM then some (st.set n (.dK (putKD kvs (.inl j) v))) else none
      | .str s => if kvs.length < LIM then some (st.set n (.dK (putKD kvs (.inr ⟨s.toArray⟩) v))) else none
      | _ => none
    | _ => none
  | _ => none
def rDPut : V → V → V → Hp → (Hp → Prop) → Prop := fun o i v H Q => ∃ a H', o = .ref a ∧ DPut H a i v H' ∧ Q H'
theorem set_dictD (hu : X.A.units + 1 < cLine) : PSet X rDPut := by
  intro pins s σ H o i v ov iv u Q I ro ri rv h
  obtain ⟨a, H', rfl, g, q⟩ := h
  obtain rfl : ov = Value.ref a := ro
  exact d_setItem hu I g ri rv fun s' I' => ⟨H', I', q⟩
theorem lim_size {n : Nat} (h : n < LIM) : n < sizeLine := Nat.lt_of_lt_of_le h (lim_line (Nat.le_refl _))
theorem dset_dict (hu : X.A.units + 1 < cLine) : DSet W X dsetG := ⟨_, set_dictD hu, fun Rs F H r st o i v dO di dv N hH ko ki kv st' e hN => by
  cases ko with
  | @ref a n q =>
    unfold dsetG at e
    simp only at e
    split at e
    · rename_i kvs e1
      obtain ⟨vs, h1, k1⟩ := hH.ob n a _ q e1
      cases ki with
      | @tup b vs2 ds qb kb =>
        simp only at e
        cases e2 : keysOf ds with
        | none => rw [e2] at e; cases e
        | some ks =>
          rw [e2] at e
          simp only at e
          split at e
          · rename_i hl
            cases e
            have e3 := keysOf_ok kb e2
            subst e3
            exact ⟨a, _, rfl, DPut.t h1 (hH.sF _ _ qb) (by rw [k1.len]; exact lim_size hl), hN _ (hH.write q ⟨_, upd_same, k1.put kv⟩)⟩
          · cases e
      | _ => cases e
    · rename_i kvs e1
      obtain ⟨vs, h1, k1⟩ := hH.ob n a _ q e1
      cases ki with
      | int j =>
        simp only at e
        split at e
        · rename_i hl
          cases e
          exact ⟨a, _, rfl, DPut.k (k := .inl j) h1 (by rw [k1.len]; exact lim_size hl), hN _ (hH.write q ⟨_, upd_same, k1.put kv⟩)⟩
        · cases e
      | str s hs hl0 =>
        simp only at e
        split at e
        · rename_i hl
          cases e
          exact ⟨a, _, rfl, DPut.k (k := .inr ⟨s.toArray⟩) h1 (by rw [k1.len]; exact lim_size hl), hN _ (hH.write q ⟨_, upd_same, k1.put kv⟩)⟩
        · cases e
      | _ => cases e
    · cases e
  | _ => cases e⟩
def eDictT : EV := fun _ st => .ok (.ref st.length, st ++ [.dT []])
def eDictK : EV := fun _ st => .ok (.ref st.length, st ++ [.dK []])
@[simp] theorem r_eDictT (env : Env) (st : Store) : eDictT env st = .ok (.ref st.length, st ++ [.dT []]) := (rfl)
@[simp] theorem r_eDictK (env : Env) (st : Store) : eDictK env st = .ok (.ref st.length, st ++ [.dK []]) := (rfl)
theorem new_at {Rs F H : Hp} {r : List Addr} {st : Store} {p : Addr} {o : HO} {b : Ob} {Q : VK} (hH : Holds W Rs F H r st) (hp : H p = none) (k : ObOk W F (r ++ [p]) (upd H p o) p b) (h : onE W Rs F r Q (.ref st.length, st ++ [b])) : Q (.ref p) (upd H p o) :=
  h F _ _ _ (Same.refl _) (Ext.snoc _ _) (hH.fresh hp k) (.ref (by rw [← hH.len]; simp))
theorem de_dictT {pos : Pos} : DE W X E (.Dict [] [] pos) eDictT :=
  .mk pe_dnewT fun Rs F H r sg env st Q hH hE hP p hp => new_at (b := .dT []) hH hp ⟨[], upd_same, trivial⟩ hP
end
end Dl
namespace Dl
open PySem PySem.Spec PyProof.Rows L2
section
variable {W : Wd} {X : Cx} {E : XK}
/-- zip of a tuple and a list -/
def iZm (g : AV) : IV := fun env st => (g env st).bind fun a => match a.1 with
  | [.tup ds, e] => match listOf a.2 e with
    | some w' => .ok ((zipUp ds w'.1, w'.2), a.2)
    | none => .bad
  | _ => .bad
end
end Dl
namespace Dl
open PySem L2
end Dl
namespace Dl
open PySem L2
section
variable {W : Wd} {X : Cx} {E : XK}
def gFldT (K : PySem.W.Frag) (ta : TE) (f : Str) : TG := fun v σ H Q => ta σ H fun x H2 => ∃ a C dx fs, x = .ref a ∧ H2 a = some (.ins C dx fs) ∧ Cls K C ∧ NoAttr K C f ∧ fs.length < 1000 ∧ Q σ (upd H2 a (.ins C dx (putF f v fs)))
theorem pg_fld {o : Expr} {f : Str} {ta : TE} {pos : Pos} (ha : PE X o ta) (h : ∀ v, assign (.Attribute o f pos) X.env v = (do
      let ov ← holding [v] (eval o X.env)
      standAt pos.atName
      holding [v, ov] (setAttr ov f v)
      release [v, ov] []) := by intro _; rfl) : PG X (.Attribute o f pos) (gFldT X.K ta f) := by
  refine ⟨fun pins s σ H v u Q I r hq => ?_⟩
  rw [h]
  refine wpAny_bind (wpAny_holding (thn (ha.run pins s σ H _ I hq) fun ov s2 ⟨x, H2, I2, rx, a, C, dx, fs, ex, ea, c, n, l, q2⟩ => ?_))
  subst ex
  obtain rfl : ov = Value.ref a := rx
  refine wpAny_bind (wpAny_standAt (wpAny_bind (wpAny_holding (setattr_ok I2 ea c n l r fun s3 I3 => wpAny_release ⟨σ, _, I3, q2⟩))))
/-- o.f = .. -/
def gFldD (c : Nat) (f : Str) (fo : EV) : GV := fun d env st => (fo env st).bind fun o => match o.1 with
  | .ref i => match o.2[i]? with
    | some (.ins c' fs) => if c' = c ∧ fs.length < 900 then .ok (env, o.2.set i (.ins c' (putD f d fs))) else .bad
    | _ => .bad
  | _ => .bad
@[simp] theorem r_gFldD (c : Nat) (f : Str) (fo : EV) (d : D) (env : Env) (st : Store) : gFldD c f fo d env st = (fo env st).bind fun o => match o.1 with
  | .ref i => match o.2[i]? with
    | some (.ins c' fs) => if c' = c ∧ fs.length < 900 then .ok (env, o.2.set i (.ins c' (putD f d fs))) else .bad
    | _ => .bad
  | _ => .bad := (rfl)
theorem dg_fld {o : Expr} {fo : EV} {c : Nat} {f : Str} {pos : Pos} (hK : X.K = W.K) (he : DE W X E o fo) (cl : Cls W.K (W.cls c)) (na : NoAttr W.K (W.cls c) f)
    (h : ∀ v, assign (.Attribute o f pos) X.env v = (do
      let ov ← holding [v] (eval o X.env)
      standAt pos.atName
      holding [v, ov] (setAttr ov f v)
      release [v, ov] []) := by intro _; rfl) : DG W X E (.Attribute o f pos) (gFldD c f fo) := by
  obtain ⟨to, po, qo⟩ := he.ex
  refine ⟨_, pg_fld po h, fun Rs F H r sg env st v d N hH hE k hP => ?_⟩
  refine qo Rs F H r sg env st _ hH hE (bindX hP fun o eo z F1 H1 r1 v1 s1 x1 h1 k1 => ?_)
  obtain ⟨dd, st1⟩ := o
  cases k1 with
  | @ref a i e =>
    simp only at z
    split at z
    · rename_i c' fs e1
      split at z
      · rename_i hc
        obtain ⟨rfl, hl⟩ := hc
        obtain ⟨dx, vfs, e2, k2⟩ := h1.ob i a _ e e1
        rw [hK]
        refine ⟨a, _, dx, vfs, rfl, e2, cl, na, by rw [k2.length]; omega, ?_⟩
        exact z F1 _ r1 sg s1 x1 (h1.write e ⟨dx, _, upd_same, Flds.put (k.mono s1 x1) k2⟩) (hE.mono s1 x1)
      · exact z.elim
    · exact z.elim
  | _ => exact z.elim
end
end Dl
namespace Dl
open PySem L2
end Dl
namespace PySem
open Sem (wp)
open AutoSeq1 (wpAny_loadPart')
end PySem
namespace Dl
open PySem PySem.Spec PyProof.Rows L2
section
variable {W : Wd} {X : Cx} {E : XK}
/-- enumerate of a tuple -/
def iEnT (g : AV) : IV := fun env st => (g env st).bind fun a => match a.1 with
  | [.tup ds] => .ok ((pairUp ds, []), a.2)
  | _ => .bad
@[simp] theorem r_iEnT (g : AV) (env : Env) (st : Store) : iEnT g env st = (g env st).bind fun a => match a.1 with
  | [.tup ds] => .ok ((pairUp ds, []), a.2)
  | _ => .bad := (rfl)
end
end Dl
namespace Dl
open PySem L2
def isDct (st : Store) : D → Bool
  | .ref n => match st[n]? with
    | some (.dT _) => true
    | some (.dK _) => true
    | _ => false
  | _ => false
/-- d.get(k, x) -/
def eGet2 (fo fk fx : EV) : EV := fun env st => (fo env st).bind fun o => if isDct o.2 o.1 = true then (fk env o.2).bind fun k => (fx env k.2).bind fun x => match dvalG x.2 o.1 k.1 with
  | some v => .ok (v.getD x.1, x.2)
  | none => .bad else .bad
@[simp] theorem r_eGet2 (fo fk fx : EV) (env : Env) (st : Store) : eGet2 fo fk fx env st = (fo env st).bind fun o => if isDct o.2 o.1 = true then (fk env o.2).bind fun k => (fx env k.2).bind fun x => match dvalG x.2 o.1 k.1 with
  | some v => .ok (v.getD x.1, x.2)
  | none => .bad else .bad := (rfl)
end Dl
namespace Dl
open PySem L2
section
variable {W : Wd} {X : Cx} {E : XK}
def eLR (m : Bool) (f : EV) : EV := fun env st => (f env st).bind fun a => match a.1 with
  | .int n => if 0 ≤ n ∧ n ≤ 1000000 then newL m (intsD 0 n.toNat) a.2 else .bad
  | _ => .bad
@[simp] theorem r_eLR (m : Bool) (f : EV) (env : Env) (st : Store) : eLR m f env st = (f env st).bind fun a => match a.1 with
  | .int n => if 0 ≤ n ∧ n ≤ 1000000 then newL m (intsD 0 n.toNat) a.2 else .bad
  | _ => .bad := (rfl)
theorem reps_rg {F : Hp} {r : List Addr} (n : Int) : Reps F r (rgV 0 n) (intsD 0 n.toNat) := by
  unfold rgV intsD
  rw [Int.sub_zero]
  generalize List.range n.toNat = l
  induction l with
  | nil => exact .nil
  | cons i l ih => exact .cons (.int _) ih
theorem de_listRange (m : Bool) {e : Expr} {f : EV} {p p2 pos pos2 : Pos} (hc : X.calm = true) (hgl : Gl X "list") (hml : X.mg "list" = none) (hgr : Gl X "range") (hmr : X.mg "range" = none) (he : DE W X E e f)
    (na : starEach [e] X.env = (false, eval e X.env) :: starEach [] X.env := by rfl) (na2 : starEach [.Call (.Name "range" p2) [e] [] pos2] X.env = (false, eval (.Call (.Name "range" p2) [e] [] pos2) X.env) :: starEach [] X.env := by rfl) :
    DE W X E (.Call (.Name "list" p) [.Call (.Name "range" p2) [e] [] pos2] [] pos) (eLR m f) := by
  obtain ⟨t, pe, q⟩ := he.ex
  refine .mk (pe_listRg hc hgl hml (prg_1 hgr hmr pe na) na2) fun Rs F H rr sg env st Q hH hE hP => ?_
  refine q Rs F H rr sg env st _ hH hE (bindX hP fun a ea z F1 H1 r1 v1 s1 x1 h1 k1 => ?_)
  obtain ⟨d, st1⟩ := a
  cases k1 with
  | int n =>
    simp only at z
    split at z
    · rename_i hn
      refine ⟨n, rfl, RgOk.of_le (Int.le_refl 0) (by omega) (by omega) hn.1, fun q hq => ?_⟩
      exact newL_post h1 (reps_rg n) (Post.later s1 x1 z) hq
    · exact z.elim
  | _ => exact z.elim
end
end Dl
namespace Dl
open PySem L2
/-- a class of the program under ValueError, without own __init__ -/
structure OwnEx (K : PySem.W.Frag) (mg : Str → Option Value) (x : Str) (C : Addr) : Prop where
  ex : PySem.W.excIn K C [.type "ValueError", .type "Exception", .type "BaseException", .type "object"] "ValueError.__new__" = true
  g : mg x = some (.ref C)
  k : PySem.W.keepIn K (.ref C) = true
  sb : PySem.W.subIn K (.ref C) (.type "BaseException") = some true
  ty : PySem.W.typeIn K (.ref C) = some (.type "type")
section
variable {W : Wd} {X : Cx} {E : XK}
def sRaise (c : Nat) : SV := fun _ st => .exc c none st
@[simp] theorem r_sRaise (c : Nat) (env : Env) (st : Store) : sRaise c env st = .exc c none st := (rfl)
theorem ds_raise {x m : Str} {c j : Nat} {p p2 pos pos2 : Pos} (hK : X.K = W.K) (hc : X.calm = true) (tk : Takes X fun cls d _ H => E cls d H) (o : OwnEx W.K X.mg x (W.cls c)) (hg : Gl X x) (hdb : (x == ("__debug__" : Str)) = false := by decide) :
    DS W X E (.Raise (some (.Call (.Name x p) [.Constant (.str m) j p2] [] pos)) none pos2) (sRaise c) := by
  refine .mk (ps_raise hc tk (pmk_own PySem.F.excBase_ValueError (by rw [hK]; exact o.ex) o.g (by rw [hK]; exact o.k) (raises_own (by rw [hK]; exact o.sb) (by rw [hK]; exact o.ty)) hg hdb)) fun Rs F H rr sg env st D hH hE hP => ?_
  exact hP F H rr none (Same.refl _) (Ext.refl _) hH rfl
/-- try: b / except ..: hb; what is raised is of the classes cs; n slots -/
def sTry (cs : List Nat) (n : Nat) (b hb : SV) : SV := fun env st => match b env st with
  | .exc c p st' => if c ∈ cs then hb (List.replicate n none) st' else .bad
  | .nx e s => .nx e s
  | .rt d s => .rt d s
  | .bk e s => .bk e s
  | .ct e s => .ct e s
  | .bad => .bad
@[simp] theorem r_sTry (cs : List Nat) (n : Nat) (b hb : SV) (env : Env) (st : Store) : sTry cs n b hb env st = match b env st with
  | .exc c p st' => if c ∈ cs then hb (List.replicate n none) st' else .bad
  | .nx e s => .nx e s
  | .rt d s => .rt d s
  | .bk e s => .bk e s
  | .ct e s => .ct e s
  | .bad => .bad := (rfl)
end
section
variable {P : Program} {w : World} {mg : Str → Option Value} {base : Heap} {E : XK}
theorem takesD {qual : Str} {N : List Str} {sc : Scope} {f : Addr} {cd : Value} {A : Around} {outer : List PySem.Env} {s : Shared} {H : Hp} {K : PySem.W.Frag} : Takes (cxOf (L2.CX P w) P w K mg base N qual sc f cd A outer s H E) (fun cls d _ H => E cls d H) :=
  takes_of rfl rfl rfl rfl
end
end Dl
namespace Dl
open PySem PySem.Spec PyProof.Rows L2
/-- a lambda's text -/
structure LamD where
  q : Str
  params : Arguments
  body : PySem.Expr
  scope : Scope
/-- whatever it is: the object alone is known -/
def anyO : HO := .ext fun _ => True
/-- the cells that a lambda keeps, by name; what they hold -/
structure CellsAt (H : Hp) (N : List Str) (cl : List (Str × Addr)) (us : List Value) : Prop where
  at_ : ∀ (i : Nat) (y : Str), N[i]? = some y → ∃ c u o, cl.lookup y = some c ∧ us[i]? = some u ∧ H c = some (.frz o anyO) ∧ o.data = .cell (some u)
  all : ∀ y c, cl.lookup y = some c → y ∈ N
  mem : ∀ y c, (y, c) ∈ cl → cl.lookup y = some c
  inj : ∀ y z c, cl.lookup y = some c → cl.lookup z = some c → y = z
  len : us.length = N.length
/-- the lambda's names: captured ones alone, and globals -/
structure LamStat (N : List Str) (sc : Scope) : Prop where
  kind : sc.kind = .function
  co : sc.isCoroutine = false
  gen : sc.isGenerator = false
  own : ∀ y ∈ sc.names, y.2 ≠ .cell ∧ (y.2 = .local → y.1 ∉ N)
  free : ∀ y, sc.names.lookup y = some .free → y ∈ N
  nd : N.Nodup
abbrev lamE (ld : LamD) (cl : List (Str × Addr)) (L f c' : Addr) : PySem.Env := PySem.W.envX ld.q ld.scope L f (.ref c') cl
/-- the lambda's context, entered at s from X's frames -/
def LX (P : Program) (w : World) (K : PySem.W.Frag) (mg : Str → Option Value) (base : Heap) (A : Around) (stack : List PySem.Env) (N : List Str) (ld : LamD) (cl : List (Str × Addr)) (f c' : Addr) (s : Shared) (H : Hp) (E : XK) : Cx where
  prog := P
  w := w
  K := K
  mg := mg
  base := base
  A := A.deeper (lamE ld cl s.heap.objs.size f c')
  N := N
  s_0 := s
  H_0 := H
  env := lamE ld cl s.heap.objs.size f c'
  outer := stack
  stack := lamE ld cl s.heap.objs.size f c' :: stack
  ex := []
  fn := fun _ => false
  calm := true
  pn := []
  xe := fun e s' => wpAny (model P w) (A.deeper (lamE ld cl s.heap.objs.size f c')) (leaving (lamE ld cl s.heap.objs.size f c') e) (fun _ s'' => L2.CX P w stack H s E e s'') (fun e' s'' => L2.CX P w stack H s E e' s'') s'
/-- the body's meaning, wherever it runs -/
def BodyOk (P : Program) (w : World) (W : Wd) (mg : Str → Option Value) (base : Heap) (k : Nat) (ld : LamD) (N : List Str) (fb : EV) : Prop :=
  ∀ (A : Around) (stack : List PySem.Env) (s : Shared) (H : Hp) (E : XK) (f c' : Addr) (cl : List (Str × Addr)), Room k (A.deeper (lamE ld cl s.heap.objs.size f c')) → DE W (LX P w W.K mg base A stack N ld cl f c' s H E) E ld.body fb
/-- the default's tuple -/
def DvH (H : Hp) (dV : Value) (dv : List Value) : Prop := (dV = .none ∧ dv = []) ∨ dv ≠ [] ∧ ∃ T, dV = .ref T ∧ H T = some (.frz (PySem.W.kdv_tup dv) anyO)
theorem DvH.same {H H' : Hp} (s : Same H H') {dV : Value} {dv : List Value} : DvH H dV dv → DvH H' dV dv
  | .inl h => .inl h
  | .inr ⟨n, T, e, h⟩ => .inr ⟨n, T, e, s _ _ h⟩
/-- the lambda's function object, at f -/
def FnStd (H : Hp) (ld : LamD) (cl : List (Str × Addr)) (c' f : Addr) : Prop := ∃ (pm ctv doc dV : Value) (dv : List Value), dv.length = ld.params.defaults.length ∧ DvH H dV dv ∧
  H f = some (.frz (PySem.W.kdv_obj "<lambda>" ld.q ld.params (.expr ld.body) ld.scope cl dV doc pm c' ctv) anyO)
theorem FnStd.same {H H' : Hp} (s : Same H H') {ld : LamD} {cl : List (Str × Addr)} {c' f : Addr} : FnStd H ld cl c' f → FnStd H' ld cl c' f
  | ⟨pm, ctv, doc, dV, dv, h1, h2, h3⟩ => ⟨pm, ctv, doc, dV, dv, h1, h2.same s, s _ _ h3⟩
/-- no parameter need be given: all have a default -/
def Free0 (ld : LamD) : Prop := ∃ xs : List Str, (∀ y ∈ xs, ld.scope.names.lookup y = some .local) ∧ ∀ (s : Shared) (cl : List (Str × Addr)) (doc pm cv ctv dV : Value) (dv : List Value), dv.length = ld.params.defaults.length →
  ((dV = .none ∧ dv = []) ∨ dv ≠ [] ∧ ∃ T, dV = .ref T ∧ s.heap.get? T = some (PySem.W.kdv_tup dv)) → BindsTo s (PySem.W.kdv_fn "<lambda>" ld.q ld.params (.expr ld.body) ld.scope cl dV doc pm cv ctv) ⟨[], []⟩ (xs.zip dv)
end Dl
namespace Dl
open PySem PySem.Spec PyProof.Rows L2 PySem.W PySem.Calls
end Dl
namespace Dl
open PySem L2
section
variable {W : Wd} {X : Cx} {E : XK}
/-- raise C(i) -/
def sRaiseP (c : Nat) (f : EV) : SV := fun env st => sOf (f env st) fun a => match a.1 with
  | .int i => .exc c (some (.int i)) a.2
  | _ => .bad
@[simp] theorem r_sRaiseP (c : Nat) (f : EV) (env : Env) (st : Store) : sRaiseP c f env st = sOf (f env st) fun a => match a.1 with
  | .int i => .exc c (some (.int i)) a.2
  | _ => .bad := (rfl)
end
end Dl
namespace Dl
open PySem L2
/-- a lambda that stands aside; what it keeps -/
structure ClosR (P : Program) (w : World) (W : Wd) (mg : Str → Option Value) (base : Heap) (k : Nat) (Rs F : Hp) (r : List Addr) (fb : EV) (caps : List D) (f : Addr) : Prop where
  ex : ∃ (ld : LamD) (N : List Str) (cl : List (Str × Addr)) (c' : Addr) (us : List Value) (vs : List V), BodyOk P w W mg base k ld N fb ∧ Free0 ld ∧ LamStat N ld.scope ∧ FnStd Rs ld cl c' f ∧
    (Rs c' = some (LamX.CodeO c' ld.q) ∨ F c' = some (LamX.CodeO c' ld.q)) ∧ CellsAt Rs N cl us ∧ Vals vs us ∧ Reps F r vs caps
theorem ClosR.mono {P : Program} {w : World} {W : Wd} {mg : Str → Option Value} {base : Heap} {k : Nat} {Rs F F' : Hp} {r r' : List Addr} {fb : EV} {caps : List D} {f : Addr} (c : ClosR P w W mg base k Rs F r fb caps f) (s : Same F F') (x : Ext r r') : ClosR P w W mg base k Rs F' r' fb caps f := by
  obtain ⟨ld, N, cl, c', us, vs, h1, h2, h3, h4, h5, h6, h7, h8⟩ := c.ex
  exact ⟨ld, N, cl, c', us, vs, h1, h2, h3, h4, h5.imp id (s _ _), h6, h7, h8.mono s x⟩
/-- the cells stay what they are -/
theorem CellsAt.same {Rs H : Hp} {N : List Str} {cl : List (Str × Addr)} {us : List Value} (c : CellsAt Rs N cl us) (s : Same Rs H) : CellsAt H N cl us :=
  ⟨fun i y e => let ⟨c2, u, o, h1, h2, h3, h4⟩ := c.at_ i y e; ⟨c2, u, o, h1, h2, s _ _ h3, h4⟩, c.all, c.mem, c.inj, c.len⟩
/-- isinstance(e, ..): e in slot i, as the suite holds it -/
def eIsX (a : Nat) (o : Option (Nat × Str × Int)) (i : Nat) (b : Bool) : EV := fun env st => match env[i]? with
  | some (some (.exn a' o')) => if a' = a ∧ o' = o then .ok (.bl b, st) else .bad
  | _ => .bad
/-- e.f -/
def eXf (a : Nat) (o : Option (Nat × Str × Int)) (i : Nat) (f : Str) : EV := fun env st => match env[i]? with
  | some (some (.exn a' o')) => if a' = a ∧ o' = o then (match o with
    | some (_, g, k) => if g = f then .ok (.int k, st) else .bad
    | none => .bad) else .bad
  | _ => .bad
@[simp] theorem r_eIsX (a : Nat) (o : Option (Nat × Str × Int)) (i : Nat) (b : Bool) (env : Env) (st : Store) : eIsX a o i b env st = match env[i]? with
  | some (some (.exn a' o')) => if a' = a ∧ o' = o then .ok (.bl b, st) else .bad
  | _ => .bad := (rfl)
@[simp] theorem r_eXf (a : Nat) (o : Option (Nat × Str × Int)) (i : Nat) (f : Str) (env : Env) (st : Store) : eXf a o i f env st = match env[i]? with
  | some (some (.exn a' o')) => if a' = a ∧ o' = o then (match o with
    | some (_, g, k) => if g = f then .ok (.int k, st) else .bad
    | none => .bad) else .bad
  | _ => .bad := (rfl)
def toldR (cs : List Nat) (hm : Nat → Option D → Store → R (D × Store)) (res : R (D × Store)) : R (D × Store) := match res with
  | .ok a => .ok a
  | .exc c p st => if c ∈ cs then hm c p st else .bad
  | .bad => .bad
@[simp] theorem told_ok (cs : List Nat) (hm : Nat → Option D → Store → R (D × Store)) (a : D × Store) : toldR cs hm (.ok a) = .ok a := (rfl)
@[simp] theorem told_exc (cs : List Nat) (hm : Nat → Option D → Store → R (D × Store)) (c : Nat) (p : Option D) (st : Store) : toldR cs hm (.exc c p st) = if c ∈ cs then hm c p st else .bad := (rfl)
@[simp] theorem told_bad0 (cs : List Nat) (hm : Nat → Option D → Store → R (D × Store)) : toldR cs hm .bad = .bad := (rfl)
end Dl
namespace Dl
open PySem L2
/-- all are told alike -/
def allR (ga : FV) (cs : List Nat) (hm : Nat → Option D → Store → R (D × Store)) (due : D) : List (EV × List D) → Store → R (D × Store)
  | [], st => .ok (.bl true, st)
  | w :: ws, st => (noX (toldR cs hm (w.1 (w.2.map some) st))).bind fun a => (noX (ga [a.1, due] a.2)).bind fun b => match b.1 with
    | .bl true => allR ga cs hm due ws b.2
    | _ => .bad
@[simp] theorem allR_nil (ga : FV) (cs : List Nat) (hm : Nat → Option D → Store → R (D × Store)) (due : D) (st : Store) : allR ga cs hm due [] st = .ok (.bl true, st) := (rfl)
@[simp] theorem allR_cons (ga : FV) (cs : List Nat) (hm : Nat → Option D → Store → R (D × Store)) (due : D) (w : EV × List D) (ws : List (EV × List D)) (st : Store) : allR ga cs hm due (w :: ws) st = (noX (toldR cs hm (w.1 (w.2.map some) st))).bind fun a => (noX (ga [a.1, due] a.2)).bind fun b => match b.1 with
    | .bl true => allR ga cs hm due ws b.2
    | _ => .bad := (rfl)
end Dl
namespace Dl
open PySem PySem.Spec L2
/-- a lambda of X's own, made: what stands aside of it -/
def MadeAt (Rs F : Hp) (ld : LamD) (cl : List (Str × Addr)) (f : Addr) : Prop := ∃ (c' : Addr), FnStd Rs ld cl c' f ∧ (Rs c' = some (LamX.CodeO c' ld.q) ∨ F c' = some (LamX.CodeO c' ld.q))
theorem MadeAt.mono {Rs Rs' F F' : Hp} {ld : LamD} {cl : List (Str × Addr)} {f : Addr} (m : MadeAt Rs F ld cl f) (s : Same Rs Rs') (s' : Same F F') : MadeAt Rs' F' ld cl f := by
  obtain ⟨c', h1, h2⟩ := m
  exact ⟨c', h1.same s, h2.imp (s _ _) (s' _ _)⟩
end Dl
namespace Dl
open PySem PySem.Spec L2
/-- what slots hold -/
def capsD (env : Env) : List Nat → Option (List D)
  | [] => some []
  | j :: js => match env[j]? with
    | some (some d) => (capsD env js).map (d :: ·)
    | _ => none
@[simp] theorem capsD_nil (env : Env) : capsD env [] = some [] := (rfl)
@[simp] theorem capsD_cons (env : Env) (j : Nat) (js : List Nat) : capsD env (j :: js) = match env[j]? with
    | some (some d) => (capsD env js).map (d :: ·)
    | _ => none := (rfl)
end Dl
namespace Dl
open PySem PySem.Spec L2
/-- a lambda as it's written, and its meaning -/
structure LamW where
  ld : LamD
  pos : Pos
  N : List Str
  sl : List Nat
  fb : EV
def LamW.ex (l : LamW) : PySem.Expr := .Lambda l.ld.params l.ld.body l.ld.scope l.pos
/-- the lambdas' meanings with what they keep -/
def capsAll (env : Env) : List (List Nat × EV) → Option (List (EV × List D))
  | [] => some []
  | l :: ls => match capsD env l.1 with
    | some ds => (capsAll env ls).map ((l.2, ds) :: ·)
    | none => none
@[simp] theorem capsAll_nil (env : Env) : capsAll env [] = some [] := (rfl)
@[simp] theorem capsAll_cons (env : Env) (l : List Nat × EV) (ls : List (List Nat × EV)) : capsAll env (l :: ls) = match capsD env l.1 with
    | some ds => (capsAll env ls).map ((l.2, ds) :: ·)
    | none => none := (rfl)
def eAll (ga : FV) (cs : List Nat) (hm : Nat → Option D → Store → R (D × Store)) (ls : List (List Nat × EV)) (f2 : EV) : EV := fun env st => (f2 env st).bind fun a => match capsAll env ls with
  | some ws => allR ga cs hm a.1 ws a.2
  | none => .bad
@[simp] theorem r_eAll (ga : FV) (cs : List Nat) (hm : Nat → Option D → Store → R (D × Store)) (ls : List (List Nat × EV)) (f2 : EV) (env : Env) (st : Store) : eAll ga cs hm ls f2 env st = (f2 env st).bind fun a => match capsAll env ls with
  | some ws => allR ga cs hm a.1 ws a.2
  | none => .bad := (rfl)
def eTold (cs : List Nat) (hm : Nat → Option D → Store → R (D × Store)) (sl : List Nat) (fb : EV) : EV := fun env st => match capsD env sl with
  | some ds => noX (toldR cs hm (fb (ds.map some) st))
  | none => .bad
@[simp] theorem r_eTold (cs : List Nat) (hm : Nat → Option D → Store → R (D × Store)) (sl : List Nat) (fb : EV) (env : Env) (st : Store) : eTold cs hm sl fb env st = match capsD env sl with
  | some ds => noX (toldR cs hm (fb (ds.map some) st))
  | none => .bad := (rfl)
section
variable {W : Wd} {X : Cx} {E : XK}
theorem PA.imp {es : List PySem.Expr} {t t' : TA} (h : PA X es t) (k : ∀ σ H Q, t' σ H Q → t σ H Q) : PA X es t' := ⟨fun pos pins s σ H Q I q => h.run pos pins s σ H Q I (k _ _ _ q)⟩
end
end Dl
namespace Dl
open PySem PySem.Spec L2
end Dl
namespace Dl
open PySem PySem.Spec PyProof.Rows L2
end Dl
namespace Dl
open PySem PySem.Spec PySem.Builtin.Str L2
end Dl
namespace Dl
open PySem PySem.Spec L2
section
variable {W : Wd} {X : Cx} {E : XK}
/-- lambdas at these places -/
def MadesAt (X : Cx) (Rs F : Hp) (ls : List LamW) (fs : List Addr) : Prop := fs.length = ls.length ∧ ∀ (i : Nat) (l : LamW) (f : Addr), ls[i]? = some l → fs[i]? = some f → MadeAt Rs F l.ld (cloFrom X.env.cells l.ld.scope.names []) f
theorem MadesAt.mono {Rs Rs' F F' : Hp} {ls : List LamW} {fs : List Addr} (s : Same Rs Rs') (s' : Same F F') (m : MadesAt X Rs F ls fs) : MadesAt X Rs' F' ls fs := ⟨m.1, fun i l f e1 e2 => (m.2 i l f e1 e2).mono s s'⟩
theorem MadesAt.app {Rs F : Hp} {ls ls' : List LamW} {fs fs' : List Addr} (m : MadesAt X Rs F ls fs) (m' : MadesAt X Rs F ls' fs') : MadesAt X Rs F (ls ++ ls') (fs ++ fs') := by
  refine ⟨by simp [m.1, m'.1], fun i l f e1 e2 => ?_⟩
  by_cases h : i < ls.length
  · rw [List.getElem?_append_left h] at e1
    rw [List.getElem?_append_left (by rw [m.1]; exact h)] at e2
    exact m.2 i l f e1 e2
  · rw [List.getElem?_append_right (by omega)] at e1
    rw [List.getElem?_append_right (by rw [m.1]; omega), m.1] at e2
    exact m'.2 _ l f e1 e2
/-- x = [lambda: .., ..]; if not g(x .., e): a / else: b; .. -/
def sLams (i : Nat) (f : SV) : SV := fun env st => f (env.set i none) st
@[simp] theorem r_sLams (i : Nat) (f : SV) (env : Env) (st : Store) : sLams i f env st = f (env.set i none) st := (rfl)
end
end Dl
namespace Dl
open PySem PySem.Spec L2
end Dl
namespace Dl
open PySem L2
end Dl
namespace Dl
open PySem L2
def keyD : D → Option L2.Key
  | .int i => some (.inl i)
  | .str s => some (.inr ⟨s.toArray⟩)
  | _ => none
abbrev PV := Env → Store → R (List (L2.Key × D) × Store)
def pNil : PV := fun _ st => .ok ([], st)
def pCons (fk fv : EV) (g : PV) : PV := fun env st => (fk env st).bind fun a => (fv env a.2).bind fun b => match keyD a.1 with
  | some k => (g env b.2).bind fun c => .ok ((k, b.1) :: c.1, c.2)
  | none => .bad
@[simp] theorem r_pNil (env : Env) (st : Store) : pNil env st = .ok ([], st) := (rfl)
@[simp] theorem r_pCons (fk fv : EV) (g : PV) (env : Env) (st : Store) : pCons fk fv g env st = (fk env st).bind fun a => (fv env a.2).bind fun b => match keyD a.1 with
  | some k => (g env b.2).bind fun c => .ok ((k, b.1) :: c.1, c.2)
  | none => .bad := (rfl)
variable {W : Wd} {X : Cx} {E : XK}
theorem KVr.cons {κ : Type} {F : Hp} {r : List Addr} {k : κ} {v : V} {d : D} {vs : List (κ × V)} {kvs : List (κ × D)} (h : Rep F r v d) (t : KVr F r vs kvs) : KVr F r ((k, v) :: vs) ((k, d) :: kvs) := by
  first | exact ⟨rfl, h, t⟩ | exact ⟨⟨rfl, h⟩, t⟩
def mergeD (kvs more : List (L2.Key × D)) : List (L2.Key × D) := more.foldl (fun acc kv => putKD acc kv.1 kv.2) kvs
def eDictL (f : PV) : EV := fun env st => (f env (st ++ [.dK []])).bind fun a => match a.2[st.length]? with
  | some (.dK []) => if a.1.length ≤ 15 then .ok (.ref st.length, a.2.set st.length (.dK (mergeD [] a.1))) else .bad
  | _ => .bad
@[simp] theorem r_eDictL (f : PV) (env : Env) (st : Store) : eDictL f env st = (f env (st ++ [.dK []])).bind fun a => match a.2[st.length]? with
  | some (.dK []) => if a.1.length ≤ 15 then .ok (.ref st.length, a.2.set st.length (.dK (mergeD [] a.1))) else .bad
  | _ => .bad := (rfl)
end Dl
namespace Dl
open PySem L2 PyProof.Rows
end Dl
set_option maxHeartbeats 4000000
namespace Dl
open PySem PySem.Spec L2 PyProof.Rows
theorem tuple_mul1 (l : Addr) (items : Array Value) (n : Nat) (dd : Option Addr) (sl : Array (Option Value)) (u : Tok) :
    Meets (Builtin.«tuple.__mul__» ⟨[.ref l, .int 1 u], []⟩) (fun _ R s => s.heap.get? l = some { cls := .type "tuple", dict := dd, data := .seq items n, slots := sl } ∧
      R (.ok (.ret (Value.ref l))) s) :=
  .of_wp fun prog w A R s h => by
    obtain ⟨hp, g, d, tk, os⟩ := s
    obtain ⟨hl, h⟩ := h
    have f1 := AutoSeq1.idx_int
    wp_walk using wpAny_loadPart' hl
    repeat (first
      | (refine wpAny_ite_false (decide_eq_false (by decide)) ?_; wp_walk using wpAny_loadPart' hl)
      | (refine wpAny_ite_true (decide_eq_true (by simp)) ?_; wp_walk using wpAny_loadPart' hl))
    all_goals exact ⟨_, rfl, h⟩
def rRepT1 (K : PySem.W.Frag) : R2 := fun x y H Q => ∃ l xs, x = .ref l ∧ y = .int 1 ∧ SqT K H l xs ∧ xs ≠ [] ∧ Q (.ref l) H
section
variable {W : Wd} {X : Cx} {E : XK}
theorem tup_obj {h : Heap} {a : Addr} {items : Array Value} (p : IsTup h a items) : ∃ d n sl, h.get? a = some ⟨.type "tuple", d, .seq items n, sl⟩ :=
  have ⟨o, e, c, n, k⟩ := p
  ⟨o.dict, n, o.slots, e.trans (by rw [← c, ← k])⟩
theorem op_repT1 : OpR X (binaryOp .Mult) (rRepT1 X.K) := fun pins s σ H x y v u Q I rx ry ⟨l, xs, ex, ey, hT, _, q⟩ => by
  subst ex ey
  have ⟨its, _, p, _⟩ := I.tuple hT
  have ⟨_, _, _, ho⟩ := tup_obj p
  have ty : s.TypeIs (.ref l) "tuple" := ⟨_, ho, rfl⟩
  have ⟨t, e⟩ := ry
  cases (show v = Value.ref l from rx)
  subst e
  have fin : EP X pins σ Q (Value.ref l) s := ⟨.ref l, H, I, rfl, q⟩
  refine wpAny_binaryOp_repeat_ref (T := "tuple") (U := "int") (by decide) ty (typeIs_int · 1 t) noFill_tuple_mul F.fills_int_mul F.slot_int_rmul repeat_tuple F.slot_int_index.lookup ?back
  exact call_meets F.slot_int_rmul (typeIs_int s 1 t) F.entry_int_rmul (F.args_int_rmul_2 _ _) (int_rmul_tuple 1 t l its.toArray _ _ _) ⟨ho, rfl, ty, call_meets F.slot_tuple_mul ty F.entry_tuple_mul (F.args_tuple_mul_2 _ _) (tuple_mul1 l its.toArray _ _ _ t) ⟨ho, fin⟩⟩
/-- tuple * int, once or more often. -/
def mulTG : G2 := fun st d e => match d, e with
  | .tup ds, .int n => if ds ≠ [] ∧ 1 ≤ n ∧ n ≤ 1000 ∧ ds.length ≤ 1000 then .ok (.tup (List.replicate n.toNat ds).flatten, st) else .bad
  | _, _ => .bad
theorem dop_mulT : DOp W X (binaryOp .Mult) mulTG := .of (op_repT.or op_repT1) fun Rs F H rr st x y dx dy Q E h kx ky hP => by
  cases ky with
  | int n =>
    cases kx with
    | @tup p vs ds q1 k1 =>
      unfold mulTG at hP
      simp only at hP
      split at hP
      · rename_i hc
        have hv : vs ≠ [] := fun e => hc.1 (by subst e; cases k1; rfl)
        by_cases h1 : n = 1
        · subst h1
          refine .inr ⟨p, vs, rfl, rfl, .of (h.sF _ _ q1), hv, onE_here h (.tup q1 (by simpa using k1)) hP⟩
        · exact .inl ⟨_, _, vs, rfl, rfl, .of (h.sF _ _ q1), hv, by omega, hc.2.2.1, by rw [k1.length]; exact hc.2.2.2, fun pp hp => tup_post h (Reps.flat k1 _) hP hp⟩
      · exact hP.elim
    | _ => exact hP.elim
  | _ => cases kx <;> exact hP.elim
end
end Dl
namespace Dl
open PySem L2
section
variable {W : Wd} {X : Cx}
def sumG : GA := fun st ds => match ds with
  | [d] => match (lstOf st d).bind intsOf with
    | some ns => .ok (.int ns.sum, st)
    | none => .bad
  | _ => .bad
theorem dc_sum (hc : X.calm = true) : DC W X (.builtin "sum") sumG := ⟨_, cr_sum hc, fun Rs F H rr st vs ds Q E h k hP => by
  unfold sumG at hP
  split at hP
  · rename_i d
    match k with
    | .cons k .nil =>
      cases e1 : lstOf st d with
      | none => rw [e1] at hP; exact hP.elim
      | some ds =>
        rw [e1] at hP
        simp only [Option.bind_some] at hP
        split at hP
        · rename_i ns e2
          obtain ⟨p, vs, rfl, h1, k1⟩ := lstOf_ok h k e1
          have ev := intsOf_ok k1 e2
          subst ev
          exact ⟨p, ns, rfl, .of h1, onE_here h (.int _) hP⟩
        · exact hP.elim
  · exact hP.elim⟩
end
end Dl
namespace Dl
open PySem L2
/-- a comprehension's scope, as the names within see it -/
def relS (scope sc : Scope) : Scope := { scope with names := scope.names.map fun (n, k) => if (k == .free && sc.kind == .function && sc.names.lookup n == some .cell) then (n, .cell) else (n, k) }
theorem blkOk_nest {X : Cx} {N : List Str} {s : Shared} {H : Hp} {scope : Scope} {C : Addr} {cl : List (Str × Addr)} {fp : List Addr} {own : List (Str × Nat)} {sc scope2 : Scope} (hN : X.N = N) (hs : X.env.scope = sc)
    (h : blkC N (relS scope sc) scope2 own = true) : BlkOk (X.blk s H scope (compEnvC scope cl C X.env) fp).N (X.blk s H scope (compEnvC scope cl C X.env) fp).env.scope scope2 own := by
  subst hN hs
  exact blkOk_by h
end Dl
namespace Dl
open PySem L2
mutual
def D.toQ : D → PyData
  | .non => .none
  | .bl b => .bool b
  | .int i => .int i
  | .str s => .str ⟨s.toArray⟩
  | .tup ds => .tuple (D.toQs ds)
  | .lst ds => .list (D.toQs ds)
  | .ref _ => .none
  | .scr _ => .none
  | .exn _ _ => .none
def D.toQs : List D → List PyData
  | [] => []
  | d :: ds => D.toQ d :: D.toQs ds
end
mutual
/-- no reference, no truth value -/
def D.pl : D → Bool
  | .bl _ => false
  | .tup ds => D.pls ds
  | .lst ds => D.pls ds
  | .ref _ => false
  | .scr _ => false
  | .exn _ _ => false
  | _ => true
def D.pls : List D → Bool
  | [] => true
  | d :: ds => D.pl d && D.pls ds
end
mutual
def D.dp : D → Nat
  | .tup ds => D.dps ds + 1
  | .lst ds => D.dps ds + 1
  | _ => 1
def D.dps : List D → Nat
  | [] => 0
  | d :: ds => max (D.dp d) (D.dps ds)
end
theorem pls_iff : ∀ {ds : List D}, D.pls ds = true ↔ ∀ d ∈ ds, D.pl d = true
  | [] => by simp [D.pls]
  | d :: ds => by simp [D.pls, pls_iff (ds := ds)]
theorem dps_le {n : Nat} : ∀ {ds : List D}, D.dps ds ≤ n ↔ ∀ d ∈ ds, D.dp d ≤ n
  | [] => by simp [D.dps]
  | d :: ds => by simp [D.dps, Nat.max_le, dps_le (ds := ds)]
mutual
theorem toP_pl {st : Store} : ∀ (n : Nat) (d : D), D.pl d = true → D.dp d ≤ n → toP st n d = some (D.toQ d)
  | 0, d, _, h => by cases d <;> simp [D.dp] at h
  | n + 1, .non, _, _ => rfl
  | n + 1, .bl _, h, _ => by simp [D.pl] at h
  | n + 1, .int _, _, _ => rfl
  | n + 1, .str _, _, _ => rfl
  | n + 1, .tup ds, h, k => by
    rw [D.pl] at h
    rw [D.dp] at k
    rw [toP]
    simp only [toPs_pl n ds h (by omega), D.toQ]
  | n + 1, .lst ds, h, k => by
    rw [D.pl] at h
    rw [D.dp] at k
    rw [toP]
    simp only [toPs_pl n ds h (by omega), D.toQ]
  | n + 1, .ref _, h, _ => by simp [D.pl] at h
  | n + 1, .scr _, h, _ => by simp [D.pl] at h
  | n + 1, .exn _ _, h, _ => by simp [D.pl] at h
theorem toPs_pl {st : Store} : ∀ (n : Nat) (ds : List D), D.pls ds = true → D.dps ds ≤ n → optAll (ds.map (toP st n)) = some (D.toQs ds)
  | n, [], _, _ => by simp [optAll, D.toQs]
  | n, d :: ds, h, k => by
    simp only [D.pls, Bool.and_eq_true] at h
    simp only [D.dps, Nat.max_le] at k
    rw [List.map_cons, toP_pl n d h.1 k.1, optAll, toPs_pl n ds h.2 k.2]
    simp only [D.toQs]
end
mutual
theorem eqv_pl : ∀ (d e : D), D.pl d = true → D.pl e = true → PyData.eqv d.toQ e.toQ = D.beq d e
  | .non, e, _, h => by cases e <;> simp_all [D.toQ, PyData.eqv, D.beq, D.pl]
  | .bl _, e, h, _ => by simp [D.pl] at h
  | .int _, e, _, h => by cases e <;> simp_all [D.toQ, PyData.eqv, D.beq, D.pl]
  | .str s, e, _, h => by
    cases e with
    | str t => simp only [D.toQ, PyData.eqv, D.beq, str_beq]
    | _ => simp_all [D.toQ, PyData.eqv, D.beq, D.pl]
  | .tup ds, e, h1, h => by
    cases e with
    | tup es =>
      simp only [D.pl] at h1 h
      simp only [D.toQ, PyData.eqv, D.beq]
      exact eqvs_pl ds es h1 h
    | _ => simp_all [D.toQ, PyData.eqv, D.beq, D.pl]
  | .lst ds, e, h1, h => by
    cases e with
    | lst es =>
      simp only [D.pl] at h1 h
      simp only [D.toQ, PyData.eqv, D.beq]
      exact eqvs_pl ds es h1 h
    | _ => simp_all [D.toQ, PyData.eqv, D.beq, D.pl]
  | .ref _, e, h, _ => by simp [D.pl] at h
  | .scr _, e, h, _ => by simp [D.pl] at h
  | .exn _ _, e, h, _ => by simp [D.pl] at h
theorem eqvs_pl : ∀ (ds es : List D), D.pls ds = true → D.pls es = true → PyData.eqvAll (D.toQs ds) (D.toQs es) = D.beqs ds es
  | [], [], _, _ => by simp only [D.toQs, PyData.eqvAll, D.beqs]
  | [], e :: es, _, _ => by simp only [D.toQs, PyData.eqvAll, D.beqs]
  | d :: ds, [], _, _ => by simp only [D.toQs, PyData.eqvAll, D.beqs]
  | d :: ds, e :: es, h1, h2 => by
    simp only [D.pls, Bool.and_eq_true] at h1 h2
    simp only [D.toQs, PyData.eqvAll, D.beqs]
    rw [eqv_pl d e h1.1 h2.1, eqvs_pl ds es h1.2 h2.2]
end
instance : DecidableEq D := fun d e => if h : D.beq d e = true then isTrue (D.eq_of_beq d e h) else isFalse fun z => h (z ▸ D.beq_refl d)
theorem beq_dec (d e : D) : D.beq d e = decide (d = e) := by
  by_cases h : d = e
  · subst h; simp [D.beq_refl]
  · simp only [h, decide_false]
    cases q : D.beq d e with
    | true => exact absurd (D.eq_of_beq d e q) h
    | false => rfl
/-- equality of plain data -/
theorem eqG_pl {neg : Bool} {st : Store} {d e : D} (h1 : D.pl d = true) (h2 : D.pl e = true) (k1 : D.dp d ≤ 40) (k2 : D.dp e ≤ 40) : eqG neg st d e = .ok (.bl (if neg = true then !decide (d = e) else decide (d = e)), st) := by
  unfold eqG
  rw [toP_pl 40 d h1 k1, toP_pl 40 e h2 k2]
  simp only [eqv_pl d e h1 h2, beq_dec]
theorem toP_ref {n k : Nat} {st : Store} {ds : List D} (h : st[k]? = some (.lst ds)) : toP st (n + 1) (.ref k) = toP st (n + 1) (.lst ds) := by
  rw [toP, toP]
  simp only [h]
theorem eqG_refL {neg : Bool} {st : Store} {k : Nat} {ds : List D} {e : D} (h : st[k]? = some (.lst ds)) : eqG neg st (.ref k) e = eqG neg st (.lst ds) e := by
  unfold eqG; rw [toP_ref (n := 39) h]
theorem eqG_refR {neg : Bool} {st : Store} {k : Nat} {ds : List D} {e : D} (h : st[k]? = some (.lst ds)) : eqG neg st e (.ref k) = eqG neg st e (.lst ds) := by
  unfold eqG; rw [toP_ref (n := 39) h]
@[simp] theorem eqG_int {neg : Bool} {st : Store} (i j : Int) : eqG neg st (.int i) (.int j) = .ok (.bl (if neg = true then !decide (i = j) else decide (i = j)), st) := by
  rw [eqG_pl rfl rfl (by simp [D.dp]) (by simp [D.dp])]
  simp
@[simp] theorem eqG_str {neg : Bool} {st : Store} (i j : List Nat) : eqG neg st (.str i) (.str j) = .ok (.bl (if neg = true then !decide (i = j) else decide (i = j)), st) := by
  rw [eqG_pl rfl rfl (by simp [D.dp]) (by simp [D.dp])]
  simp
@[simp] theorem eqG_bl {neg : Bool} {st : Store} (i j : Bool) : eqG neg st (.bl i) (.bl j) = .ok (.bl (if neg = true then !(i == j) else (i == j)), st) := by
  unfold eqG
  simp [toP, PyData.eqv]
@[simp] theorem pl_int (i : Int) : D.pl (.int i) = true := rfl
@[simp] theorem pl_str (s : List Nat) : D.pl (.str s) = true := rfl
@[simp] theorem pl_non : D.pl .non = true := rfl
@[simp] theorem pl_tup (ds : List D) : D.pl (.tup ds) = D.pls ds := by rw [D.pl]
@[simp] theorem pl_lst (ds : List D) : D.pl (.lst ds) = D.pls ds := by rw [D.pl]
@[simp] theorem pls_nil : D.pls [] = true := rfl
@[simp] theorem pls_cons (d : D) (ds : List D) : D.pls (d :: ds) = (D.pl d && D.pls ds) := by rw [D.pls]
@[simp] theorem dp_int (i : Int) : D.dp (.int i) = 1 := rfl
@[simp] theorem dp_str (s : List Nat) : D.dp (.str s) = 1 := rfl
@[simp] theorem dp_non : D.dp .non = 1 := rfl
@[simp] theorem dp_tup (ds : List D) : D.dp (.tup ds) = D.dps ds + 1 := by rw [D.dp]
@[simp] theorem dp_lst (ds : List D) : D.dp (.lst ds) = D.dps ds + 1 := by rw [D.dp]
@[simp] theorem dps_nil : D.dps [] = 0 := rfl
@[simp] theorem dps_cons (d : D) (ds : List D) : D.dps (d :: ds) = max (D.dp d) (D.dps ds) := by rw [D.dps]
@[simp] theorem pls_strs (ss : List (List Nat)) : D.pls (ss.map D.str) = true := pls_iff.mpr fun d h => by
  obtain ⟨s, _, rfl⟩ := List.mem_map.mp h; rfl
@[simp] theorem pls_ints (ss : List Int) : D.pls (ss.map D.int) = true := pls_iff.mpr fun d h => by
  obtain ⟨s, _, rfl⟩ := List.mem_map.mp h; rfl
theorem dps_strs (ss : List (List Nat)) : D.dps (ss.map D.str) ≤ 1 := dps_le.mpr fun d h => by
  obtain ⟨s, _, rfl⟩ := List.mem_map.mp h; exact Nat.le_refl _
theorem dps_ints (ss : List Int) : D.dps (ss.map D.int) ≤ 1 := dps_le.mpr fun d h => by
  obtain ⟨s, _, rfl⟩ := List.mem_map.mp h; exact Nat.le_refl _
@[simp] theorem lim_0 : (0 ≤ LIM) = True := eq_true (le_LIM (by decide))
@[simp] theorem lim_1 : (1 ≤ LIM) = True := eq_true (le_LIM (by decide))
@[simp] theorem lim_2 : (2 ≤ LIM) = True := eq_true (le_LIM (by decide))
@[simp] theorem lim_3 : (3 ≤ LIM) = True := eq_true (le_LIM (by decide))
@[simp] theorem lim_4 : (4 ≤ LIM) = True := eq_true (le_LIM (by decide))
@[simp] theorem lim_5 : (5 ≤ LIM) = True := eq_true (le_LIM (by decide))
@[simp] theorem lim_6 : (6 ≤ LIM) = True := eq_true (le_LIM (by decide))
@[simp] theorem lim_7 : (7 ≤ LIM) = True := eq_true (le_LIM (by decide))
@[simp] theorem lim_8 : (8 ≤ LIM) = True := eq_true (le_LIM (by decide))
@[simp] theorem lim_9 : (9 ≤ LIM) = True := eq_true (le_LIM (by decide))
@[simp] theorem lim_10 : (10 ≤ LIM) = True := eq_true (le_LIM (by decide))
@[simp] theorem lim_11 : (11 ≤ LIM) = True := eq_true (le_LIM (by decide))
@[simp] theorem lim_12 : (12 ≤ LIM) = True := eq_true (le_LIM (by decide))
@[simp] theorem lim_13 : (13 ≤ LIM) = True := eq_true (le_LIM (by decide))
@[simp] theorem lim_14 : (14 ≤ LIM) = True := eq_true (le_LIM (by decide))
@[simp] theorem lim_15 : (15 ≤ LIM) = True := eq_true (le_LIM (by decide))
@[simp] theorem wipe_nil (env : Env) : wipeD env [] = env := rfl
@[simp] theorem wipe_cons (env : Env) (v : Nat) (vs : List Nat) : wipeD env (v :: vs) = (wipeD env vs).set v none := rfl
@[simp] theorem intsD_len (lo : Int) (n : Nat) : (intsD lo n).length = n := by simp [intsD]
@[simp ↓] theorem bind_m {A B : Type} (r : R A) (f : A → R B) : r.bind f = match r with
  | .ok a => f a
  | .exc c p st => .exc c p st
  | .bad => .bad := (rfl)
@[simp ↓] theorem sOf_m {A : Type} (r : R A) (f : A → SR) : sOf r f = match r with
  | .ok a => f a
  | .exc c p st => .exc c p st
  | .bad => .bad := (rfl)
/-- a turn's end that goes on -/
def SR.turn (r : SR) (J : Env → Store → Prop) : Prop := match r with
  | .nx e s => J e s
  | .ct e s => J e s
  | _ => False
@[simp] theorem turn_nx (e : Env) (s : Store) (J : Env → Store → Prop) : (SR.nx e s).turn J = J e s := rfl
@[simp] theorem turn_ct (e : Env) (s : Store) (J : Env → Store → Prop) : (SR.ct e s).turn J = J e s := rfl
theorem turn_ex {r : SR} {J : Env → Store → Prop} (h : r.turn J) : ∃ e s, (r = .nx e s ∨ r = .ct e s) ∧ J e s := by
  cases r with
  | nx e s => exact ⟨e, s, .inl rfl, h⟩
  | ct e s => exact ⟨e, s, .inr rfl, h⟩
  | _ => exact h.elim
theorem for_at {sub : List (Nat × List D)} {g : GV} {b : SV} {ds : List D} {env : Env} {st : Store} {r : SR} (hf : forGo sub g b ds env st = r) (I : Nat → Env → Store → Prop) (h0 : I 0 env st)
    (hst : ∀ i env st, i ≤ ds.length → I i env st → still sub st = true)
    (turn : ∀ i d env st, ds[i]? = some d → I i env st → (sOf (g d env st) fun a => b a.1 a.2).turn (I (i + 1))) : ∃ e s, r = .nx e s ∧ I ds.length e s := by
  subst hf
  refine for_inv I h0 hst fun i d env st hd hI => ?_
  have t := turn i d env st hd hI
  cases q : g d env st with
  | ok a =>
    obtain ⟨e1, s1⟩ := a
    rw [q] at t
    obtain ⟨e2, s2, t1, t2⟩ := turn_ex t
    exact ⟨e1, s1, e2, s2, rfl, t1, t2⟩
  | exc c p s => rw [q] at t; exact t.elim
  | bad => rw [q] at t; exact t.elim
/-- a turn's end: on, or out -/
def SR.turnE (r : SR) (J : Env → Store → Prop) (P : SR → Prop) : Prop := match r with
  | .nx e s => J e s
  | .ct e s => J e s
  | .bk e s => P (.nx e s)
  | .rt d s => P (.rt d s)
  | .exc c p s => P (.exc c p s)
  | .bad => False
@[simp] theorem turnE_nx (e : Env) (s : Store) (J : Env → Store → Prop) (P : SR → Prop) : (SR.nx e s).turnE J P = J e s := rfl
@[simp] theorem turnE_ct (e : Env) (s : Store) (J : Env → Store → Prop) (P : SR → Prop) : (SR.ct e s).turnE J P = J e s := rfl
@[simp] theorem turnE_bk (e : Env) (s : Store) (J : Env → Store → Prop) (P : SR → Prop) : (SR.bk e s).turnE J P = P (.nx e s) := rfl
@[simp] theorem turnE_rt (d : D) (s : Store) (J : Env → Store → Prop) (P : SR → Prop) : (SR.rt d s).turnE J P = P (.rt d s) := rfl
@[simp] theorem turnE_exc (c : Nat) (p : Option D) (s : Store) (J : Env → Store → Prop) (P : SR → Prop) : (SR.exc c p s).turnE J P = P (.exc c p s) := rfl
/-- the value of an expression, with what is so behind it -/
def R.to {A : Type} (r : R (A × Store)) (J : A → Store → Prop) : Prop := match r with
  | .ok a => J a.1 a.2
  | _ => False
@[simp] theorem to_ok {A : Type} (a : A × Store) (J : A → Store → Prop) : (R.ok a).to J = J a.1 a.2 := rfl
theorem lc_at {sub : List (Nat × List D)} {t : Tg1} {tt : TV} {te : EV} {env : Env} {ds : List D} {st : Store} {r : R (List D × Store)} (hf : lcGo sub t tt te env ds [] st = r) (I : Nat → List D → Store → Prop) (h0 : I 0 [] st)
    (hst : ∀ i acc st, i ≤ ds.length → I i acc st → still sub st = true)
    (turn : ∀ i d acc st, ds[i]? = some d → I i acc st → ∃ env1, t.put d env = some env1 ∧ (tt env1 st).to fun b st1 => if b = true then (te env1 st1).to fun y st2 => I (i + 1) (acc ++ [y]) st2 else I (i + 1) acc st1) :
    ∃ acc s, r = .ok (acc, s) ∧ I ds.length acc s := by
  subst hf
  have gen : ∀ (es : List D) (i : Nat) (acc : List D) (st : Store), i + es.length = ds.length → ds.drop i = es → I i acc st → ∃ acc' s, lcGo sub t tt te env es acc st = .ok (acc', s) ∧ I ds.length acc' s := by
    intro es
    induction es with
    | nil =>
      intro i acc st hl hd hI
      have : i = ds.length := by simpa using hl
      exact ⟨acc, st, lcGo_nil (hst i acc st (by omega) hI), this ▸ hI⟩
    | cons d es ih =>
      intro i acc st hl hd hI
      have hi : ds[i]? = some d := by
        have := congrArg (fun l => l[0]?) hd
        simpa using this
      have hd' : ds.drop (i + 1) = es := by
        have : ds.drop (i + 1) = (ds.drop i).drop 1 := by rw [List.drop_drop]
        rw [this, hd]; rfl
      have hl' : i + 1 + es.length = ds.length := by simp at hl; omega
      obtain ⟨env1, p1, p2⟩ := turn i d acc st hi hI
      rw [lcGo_cons (hst i acc st (by simp at hl; omega) hI), p1]
      show ∃ acc' s, ((noX (tt env1 st)).bind fun b => if b.1 = true then (noX (te env1 b.2)).bind fun y => lcGo sub t tt te env es (acc ++ [y.1]) y.2 else lcGo sub t tt te env es acc b.2) = .ok (acc', s) ∧ I ds.length acc' s
      cases q : tt env1 st with
      | ok b =>
        obtain ⟨b, st1⟩ := b
        rw [q] at p2
        simp only [to_ok] at p2
        simp only [noX_ok, R.bind_ok]
        cases b with
        | true =>
          simp only [if_true] at p2 ⊢
          cases q2 : te env1 st1 with
          | ok y =>
            rw [q2] at p2
            simp only [noX_ok, R.bind_ok]
            exact ih _ _ _ hl' hd' p2
          | exc c p s => rw [q2] at p2; exact p2.elim
          | bad => rw [q2] at p2; exact p2.elim
        | false => exact ih _ _ _ hl' hd' p2
      | exc c p s => rw [q] at p2; exact p2.elim
      | bad => rw [q] at p2; exact p2.elim
  exact gen ds 0 [] st (by simp) (by simp) h0
end Dl
namespace Dl
open PySem L2
/-- is_sign: 1 slots, 1 parameters -/
def d_is_sign : SV := sRet (eAnd (eChain leG leG (eC (.str [32])) (eV 0) (eC (.str [126]))) (eOp (eqG true) (eB ordG (aCons (eV 0) (aNil))) (eC (.int 37))))
/-- is_cell: 2 slots, 1 parameters -/
def d_is_cell (m_is_sign : FV) : SV := sCons (sIf (tOrD (tNotD (tv (eIs "str" (eV 0)))) (tv (eOp gtG (eB lenG (aCons (eV 0) (aNil))) (eC (.int 10))))) (sRet (eC (.bl false))) (sNext)) (sRet (eOp (eqG false) (eLc false (iSeq (eV 0)) [1] (.one 1) (tNotD (tv (eCall 1 m_is_sign (aCons (eV 1) (aNil))))) (eV 1)) (eLst false (aNil))))
/-- is_row: 2 slots, 1 parameters -/
def d_is_row (m_is_cell : FV) : SV := sCons (sIf (tOrD (tNotD (tv (eIs "tuple" (eV 0)))) (tNotD (tv (eChain leG leG (eC (.int 1)) (eB lenG (aCons (eV 0) (aNil))) (eC (.int 6)))))) (sRet (eC (.bl false))) (sNext)) (sRet (eOp (eqG false) (eLc false (iSeq (eV 0)) [1] (.one 1) (tNotD (tv (eCall 1 m_is_cell (aCons (eV 1) (aNil))))) (eV 1)) (eLst false (aNil))))
/-- need_page: 3 slots, 1 parameters -/
def d_need_page (m_is_row : FV) : SV := sCons (sIf (tOrD (tNotD (tv (eIs "list" (eV 0)))) (tv (eOp (eqG false) (eV 0) (eLst false (aNil))))) (sBad) (sNext)) (sFor (iEn (aCons (eV 0) (aNil))) (gTp 2 (gsCons (gN 1) (gsCons (gN 2) (gsNil)))) (sIf (tOrD (tv (eOp geG (eV 1) (eC (.int 30)))) (tNotD (tv (eCall 1 m_is_row (aCons (eV 2) (aNil)))))) (sBad) (sNext)))
/-- law_begun: 3 slots, 1 parameters -/
def d_law_begun : SV := sCons (sAsg (eC (.int 0)) (gN 1)) (sCons (sFor (iSeq (eV 0)) (gN 2) (sAsg (eOp modG (eOp (addG true) (eOp (addG true) (eOp (mulG true) (eV 1) (eC (.int 48271))) (eOp (mulG true) (eV 2) (eC (.int 69621)))) (eC (.int 11))) (eC (.int 2147483647))) (gN 1))) (sRet (eLst true (aCons (eB (listG true) (aCons (eV 0) (aNil))) (aCons (eOp (mulG true) (eV 1) (eB intG (aCons (eOp gtG (eB lenG (aCons (eV 0) (aNil))) (eC (.int 2))) (aNil)))) (aNil))))))
/-- law_take: 3 slots, 2 parameters -/
def d_law_take : SV := sCons (sIf (tv (eOp (eqG false) (eOp ixG (eV 0) (eC (.int 0))) (eLst false (aNil)))) (sCons (sAsg (eOp modG (eOp (mulG false) (eOp ixG (eV 0) (eC (.int 1))) (eC (.int 48271))) (eC (.int 2147483647))) (gSb (eV 0) (eC (.int 1)) setLG)) (sRet (eOp modG (eOp divG (eOp ixG (eV 0) (eC (.int 1))) (eC (.int 7))) (eV 1)))) (sNext)) (sCons (sAsg (eOp ixG (eOp ixG (eV 0) (eC (.int 0))) (eC (.int 0))) (gN 2)) (sCons (sAsg (eOp divG (eV 2) (eV 1)) (gSb (eOp ixG (eV 0) (eC (.int 0))) (eC (.int 0)) setLG)) (sCons (sIf (tOrD (tv (eOp (eqG false) (eOp ixG (eOp ixG (eV 0) (eC (.int 0))) (eC (.int 0))) (eC (.int 0)))) (tv (eOp (eqG false) (eOp ixG (eOp ixG (eV 0) (eC (.int 0))) (eC (.int 0))) (eNeg (eC (.int 1)))))) (sExpr (eMt "list" (popG) (eOp ixG (eV 0) (eC (.int 0))) (aCons (eC (.int 0)) (aNil)))) (sNext)) (sRet (eOp modG (eV 2) (eV 1))))))
/-- law_sign: 2 slots, 1 parameters -/
def d_law_sign (m_law_take : FV) : SV := sCons (sAsg (eC (.str [32, 33, 34, 35, 36, 38, 39, 40, 41, 42, 43, 44, 45, 46, 47, 48, 49, 50, 51, 52, 53, 54, 55, 56, 57, 58, 59, 60, 61, 62, 63, 64, 65, 66, 67, 68, 69, 70, 71, 72, 73, 74, 75, 76, 77, 78, 79, 80, 81, 82, 83, 84, 85, 86, 87, 88, 89, 90, 91, 92, 93, 94, 95, 96, 97, 98, 99, 100, 101, 102, 103, 104, 105, 106, 107, 108, 109, 110, 111, 112, 113, 114, 115, 116, 117, 118, 119, 120, 121, 122, 123, 124, 125, 126])) (gN 1)) (sRet (eOp ixG (eV 1) (eCall 2 m_law_take (aCons (eV 0) (aCons (eC (.int 94)) (aNil))))))
/-- law_cell: 6 slots, 2 parameters -/
def d_law_cell (m_law_take : FV) (m_law_sign : FV) : SV := sCons (sAsg (eCall 2 m_law_take (aCons (eV 0) (aCons (eC (.int 9)) (aNil)))) (gN 2)) (sCons (sIf (tv (eOp (eqG false) (eV 2) (eC (.int 0)))) (sRet (eC (.str []))) (sNext)) (sCons (sIf (tOrD (tv (eOp (eqG false) (eV 2) (eC (.int 1)))) (tAndD (tv (eOp (eqG false) (eV 1) (eC (.int 0)))) (tv (eOp ltG (eV 2) (eC (.int 7)))))) (sRet (eOp (addG false) (eOp ixG (eLst false (aCons (eC (.str [])) (aCons (eC (.str [45])) (aNil)))) (eOp divG (eCall 2 m_law_take (aCons (eV 0) (aCons (eC (.int 3)) (aNil)))) (eC (.int 2)))) (eB strG (aCons (eCall 2 m_law_take (aCons (eV 0) (aCons (eOp ixG (eLst false (aCons (eC (.int 10)) (aCons (eC (.int 1000)) (aCons (eOp powG (eC (.int 10)) (eC (.int 9))) (aNil))))) (eCall 2 m_law_take (aCons (eV 0) (aCons (eC (.int 3)) (aNil))))) (aNil)))) (aNil))))) (sNext)) (sCons (sIf (tv (eOp (eqG false) (eV 2) (eC (.int 2)))) (sCons (sAsg (eLst false (aCons (eC (.str [45])) (aCons (eC (.str [45, 45, 49])) (aCons (eC (.str [49, 45])) (aCons (eC (.str [48, 120])) (aCons (eC (.str [32, 49])) (aCons (eC (.str [49, 32])) (aCons (eC (.str [45, 48])) (aCons (eC (.str [48, 48, 55])) (aCons (eC (.str [32])) (aCons (eC (.str [32, 32, 32])) (aCons (eC (.str [49, 50, 51, 52, 53, 54, 55, 120])) (aCons (eC (.str [49, 50, 51, 52, 53, 54, 55, 56, 45])) (aCons (eC (.str [45, 48, 48, 48, 48, 48, 48, 48, 32, 49])) (aNil))))))))))))))) (gN 3)) (sRet (eOp ixG (eV 3) (eCall 2 m_law_take (aCons (eV 0) (aCons (eC (.int 13)) (aNil))))))) (sNext)) (sCons (sAsg (eOp (addG false) (eC (.int 1)) (eCall 2 m_law_take (aCons (eV 0) (aCons (eOp ixG (eLst false (aCons (eC (.int 3)) (aCons (eC (.int 10)) (aNil)))) (eCall 2 m_law_take (aCons (eV 0) (aCons (eC (.int 2)) (aNil))))) (aNil))))) (gN 4)) (sCons (sIf (tv (eOp ltG (eV 2) (eC (.int 6)))) (sRet (eMt "str" (joinG) (eC (.str [])) (aCons (eLc false (iR1 (aCons (eV 4) (aNil))) [5] (.one 5) (tYesD) (eOp ixG (eC (.str [97, 98, 99, 100, 101, 102, 103, 104, 105, 106])) (eCall 2 m_law_take (aCons (eV 0) (aCons (eC (.int 10)) (aNil)))))) (aNil)))) (sNext)) (sRet (eMt "str" (joinG) (eC (.str [])) (aCons (eLc false (iR1 (aCons (eV 4) (aNil))) [5] (.one 5) (tYesD) (eCall 1 m_law_sign (aCons (eV 0) (aNil)))) (aNil)))))))))
/-- law_row: 4 slots, 3 parameters -/
def d_law_row (m_law_cell : FV) : SV := sRet (eB tupG (aCons (eLc false (iR1 (aCons (eV 2) (aNil))) [3] (.one 3) (tYesD) (eCall 2 m_law_cell (aCons (eV 0) (aCons (eOp ixG (eV 1) (eV 3)) (aNil))))) (aNil)))
/-- law_page: 8 slots, 2 parameters -/
def d_law_page (m_law_take : FV) (m_law_row : FV) : SV := sCons (sAsg (eLc false (iR1 (aCons (eC (.int 6)) (aNil))) [7] (.one 7) (tYesD) (eCall 2 m_law_take (aCons (eV 0) (aCons (eC (.int 2)) (aNil))))) (gN 2)) (sCons (sPar 3 4 (aCons (eOp (addG false) (eC (.int 1)) (eCall 2 m_law_take (aCons (eV 0) (aCons (eC (.int 6)) (aNil))))) (aCons (eLst true (aNil)) (aNil)))) (sCons (sFor (iR1 (aCons (eOp (addG false) (eC (.int 1)) (eCall 2 m_law_take (aCons (eV 0) (aCons (eV 1) (aNil))))) (aNil))) (gN 5) (sCons (sAsg (eCall 2 m_law_take (aCons (eV 0) (aCons (eC (.int 8)) (aNil)))) (gN 6)) (sCons (sAsg (eOp ixG (eLst false (aCons (eOp (addG false) (eC (.int 1)) (eCall 2 m_law_take (aCons (eV 0) (aCons (eC (.int 6)) (aNil))))) (aCons (eB maxG (aCons (eC (.int 1)) (aCons (eOp subG (eV 3) (eC (.int 1))) (aNil)))) (aCons (eB minG (aCons (eC (.int 6)) (aCons (eOp (addG false) (eV 3) (eC (.int 1))) (aNil)))) (aCons (eV 3) (aNil)))))) (eB minG (aCons (eV 6) (aCons (eC (.int 3)) (aNil))))) (gN 3)) (sCons (sExpr (eMt "list" (appendG) (eV 4) (aCons (eCall 3 m_law_row (aCons (eV 0) (aCons (eV 2) (aCons (eV 3) (aNil))))) (aNil)))) (sIf (tv (eOp (eqG false) (eV 6) (eC (.int 7)))) (sCons (sAsg (eOp ixG (eV 4) (eCall 2 m_law_take (aCons (eV 0) (aCons (eB lenG (aCons (eV 4) (aNil))) (aNil))))) (gSb (eV 4) (eNeg (eC (.int 1))) setLG)) (sAsg (eB lenG (aCons (eOp ixG (eV 4) (eNeg (eC (.int 1)))) (aNil))) (gN 3))) (sNext)))))) (sRet (eV 4))))
/-- law_style: 2 slots, 1 parameters -/
def d_law_style (m_law_take : FV) : SV := sCons (sAsg (eOp ixG (eLst false (aCons (eCall 2 m_law_take (aCons (eV 0) (aCons (eC (.int 5)) (aNil)))) (aCons (eC (.int 1)) (aCons (eC (.int 2)) (aNil))))) (eCall 2 m_law_take (aCons (eV 0) (aCons (eC (.int 3)) (aNil))))) (gN 1)) (sRet (eTup (aCons (eV 1) (aCons (eOp ixG (eLst false (aCons (eC (.int 0)) (aCons (eCall 2 m_law_take (aCons (eV 0) (aCons (eC (.int 13)) (aNil)))) (aCons (eCall 2 m_law_take (aCons (eV 0) (aCons (eC (.int 13)) (aNil)))) (aNil))))) (eCall 2 m_law_take (aCons (eV 0) (aCons (eC (.int 3)) (aNil))))) (aNil)))))
end Dl
namespace Dl
open PySem L2
def okSign (c : Nat) : Bool := decide (32 ≤ c) && decide (c ≤ 126) && decide (c ≠ 37)
def okCell (s : List Nat) : Bool := decide (s.length ≤ 10) && s.all okSign
def okRow (r : List (List Nat)) : Bool := decide (1 ≤ r.length) && decide (r.length ≤ 6) && r.all okCell
abbrev Row := List (List Nat)
abbrev Page := List Row
def okPage (p : Page) : Bool := decide (1 ≤ p.length) && decide (p.length ≤ 30) && p.all okRow
def encR (r : Row) : D := .tup (r.map .str)
def encP (p : Page) : List D := p.map encR
@[simp] theorem encP_len (p : Page) : (encP p).length = p.length := by simp [encP]
@[simp] theorem pl_encR (r : Row) : D.pl (encR r) = true := by simp [encR]
@[simp] theorem pls_encP (p : Page) : D.pls (encP p) = true := pls_iff.mpr fun d h => by
  obtain ⟨s, _, rfl⟩ := List.mem_map.mp h; exact pl_encR s
theorem dp_encR (r : Row) : D.dp (encR r) ≤ 2 := by
  have := dps_strs r
  simp only [encR, dp_tup]; omega
theorem dps_encP (p : Page) : D.dps (encP p) ≤ 2 := dps_le.mpr fun d h => by
  obtain ⟨s, _, rfl⟩ := List.mem_map.mp h; exact dp_encR s
theorem ltc (a b : Nat) : ([a] < [b]) ↔ a < b := by
  rw [List.cons_lt_cons_iff]
  simp
def m_is_sign : FV := funD 1 d_is_sign
theorem is_sign_str (c : Nat) (st : Store) : m_is_sign [.str [c]] st = .ok (.bl (okSign c), st) := by
  unfold m_is_sign funD d_is_sign
  simp [leG, ordG, ltc]
  by_cases h1 : 32 ≤ c
  · by_cases h2 : c ≤ 126
    · simp [okSign, h1, h2, Nat.not_lt.mpr h1, Nat.not_lt.mpr h2]
      omega
    · simp [okSign, h1, h2, Nat.not_lt.mpr h1, Nat.lt_of_not_le h2]
  · simp [okSign, h1, Nat.lt_of_not_le h1]
theorem still_list {st : Store} {d : D} {w : Wk} (h : listOf st d = some w) : still w.2 st = true := by
  unfold listOf at h
  split at h
  · cases h; rfl
  · split at h
    · cases h; exact still_one ‹_›
    · cases h
  · cases h
theorem lst_list {st : Store} {d : D} {w : Wk} (h : listOf st d = some w) : lstOf st d = some w.1 := by
  unfold listOf at h
  split at h
  · cases h; rfl
  · split at h
    · cases h
      rename_i e
      simp [lstOf, e]
    · cases h
  · cases h
theorem ty_list {st : Store} {d : D} {w : Wk} (h : listOf st d = some w) : tyOf st d = some "list" := by
  unfold listOf at h
  split at h
  · rfl
  · split at h
    · cases h
      rename_i e
      simp [tyOf, e]
    · cases h
  · cases h
theorem len_list {st : Store} {d : D} {w : Wk} (h : listOf st d = some w) : lenG st [d] = .ok (.int w.1.length, st) := by
  have e := lst_list h
  unfold listOf at h
  split at h
  · simp [lenG, e]
  · simp [lenG, e]
  · cases h
theorem eq_list {neg : Bool} {st : Store} {d e : D} {w : Wk} (h : listOf st d = some w) : eqG neg st d e = eqG neg st (.lst w.1) e := by
  unfold listOf at h
  split at h
  · cases h; rfl
  · split at h
    · cases h; exact eqG_refL ‹_›
    · cases h
  · cases h
/-- a comprehension that keeps what p likes -/
theorem lc_keep {sub : List (Nat × List D)} {j : Nat} {tt : TV} {env : Env} {st : Store} (hs : still sub st = true) (p : D → Bool) (ds : List D)
    (h : ∀ d ∈ ds, tt (env.set j (some d)) st = .ok (p d, st)) (hj : j < env.length) : lcGo sub (.one j) tt (eV j) env ds [] st = .ok (ds.filter p, st) := by
  have := lc_pure (t := .one j) (te := eV j) (env := env) (tt := tt) hs p (fun d => d) ds [] fun d hd => ⟨_, rfl, h d hd, fun _ => by simp [hj]⟩
  simpa using this
theorem eq_nilD {st : Store} {ds : List D} (h : D.pls ds = true) (k : D.dps ds ≤ 39) : eqG false st (.lst ds) (.lst []) = .ok (.bl (decide (ds = [])), st) := by
  rw [eqG_pl (by simpa using h) rfl (by simp; omega) (by simp)]
  simp
def m_is_cell : FV := funD 2 (d_is_cell m_is_sign)
theorem is_cell_str (s : List Nat) (st : Store) : m_is_cell [.str s] st = .ok (.bl (okCell s), st) := by
  unfold m_is_cell funD d_is_cell
  simp [tyOf, subTy, gtG, lenG, itemsOf]
  by_cases h : s.length ≤ 10
  · have h' : ¬ ((10 : Int) < s.length) := by omega
    simp only [h', if_false]
    have hl : s.length ≤ LIM := le_LIM (by omega)
    simp [hl, itemsOf]
    rw [lc_keep rfl (fun d => match d with | .str [c] => !okSign c | _ => true) _ (fun d hd => ?_) (by simp [wipeD])]
    · have e : (s.map fun c => D.str [c]).filter (fun d => match d with | .str [c] => !okSign c | _ => true) = ((s.filter fun c => !okSign c).map fun c => [c]).map D.str := by
        rw [List.filter_map, List.map_map]; rfl
      simp only [R.bind_ok, e]
      rw [eq_nilD (pls_strs _) (Nat.le_trans (dps_strs _) (by decide))]
      simp only [R.bind_ok, sOf_ok, List.map_eq_nil_iff]
      congr 3
      rw [okCell, decide_eq_true h, Bool.true_and, Bool.eq_iff_iff]
      simp [List.filter_eq_nil_iff]
    · obtain ⟨c, _, rfl⟩ := List.mem_map.mp hd
      simp [wipeD, is_sign_str]
  · have h' : (10 : Int) < s.length := by omega
    simp [h', h, okCell]
def m_is_row : FV := funD 2 (d_is_row m_is_cell)
theorem is_row_tup (r : Row) (st : Store) : m_is_row [encR r] st = .ok (.bl (okRow r), st) := by
  unfold m_is_row funD d_is_row encR
  simp [tyOf, subTy, leG, lenG, itemsOf]
  by_cases h : 1 ≤ r.length
  · have h1 : (1 : Int) ≤ r.length := by omega
    by_cases h2 : r.length ≤ 6
    · have h3 : (r.length : Int) ≤ 6 := by omega
      have hl : r.length ≤ LIM := le_LIM (by omega)
      simp [h1, h3, hl, itemsOf]
      rw [lc_keep rfl (fun d => match d with | .str c => !okCell c | _ => true) _ (fun d hd => ?_) (by simp [wipeD])]
      · have e : (r.map D.str).filter (fun d => match d with | .str c => !okCell c | _ => true) = (r.filter fun c => !okCell c).map D.str := by
          rw [List.filter_map]; rfl
        simp only [R.bind_ok, e]
        rw [eq_nilD (pls_strs _) (Nat.le_trans (dps_strs _) (by decide))]
        simp only [R.bind_ok, sOf_ok, List.map_eq_nil_iff]
        congr 3
        rw [okRow, decide_eq_true h, decide_eq_true h2, Bool.true_and, Bool.true_and, Bool.eq_iff_iff]
        simp [List.filter_eq_nil_iff]
      · obtain ⟨c, _, rfl⟩ := List.mem_map.mp hd
        simp [wipeD, is_cell_str]
    · have h3 : ¬ (r.length : Int) ≤ 6 := by omega
      simp [h1, h3, h2, okRow]
  · have h1 : ¬ (1 : Int) ≤ r.length := by omega
    simp [h1, h, okRow]
def m_need_page : FV := funD 3 (d_need_page m_is_row)
theorem need_page_ok {p : Page} {d : D} {w : List (Nat × List D)} {st : Store} (h : listOf st d = some (encP p, w)) (hp : okPage p = true) : m_need_page [d] st = .ok (.non, st) := by
  unfold m_need_page funD d_need_page
  simp only [okPage, Bool.and_eq_true, decide_eq_true_eq, List.all_eq_true] at hp
  obtain ⟨⟨h1, h2⟩, h3⟩ := hp
  have ne : encP p ≠ [] := fun z => by rw [← encP_len, z] at h1; simp at h1
  simp [ty_list h, subTy, eq_list h, eq_nilD (pls_encP p) (Nat.le_trans (dps_encP p) (by decide)), ne, h]
  generalize hf : forGo _ _ _ _ _ _ = r
  obtain ⟨e, s, rfl, rfl, e2⟩ := for_at hf (fun i env st' => st' = st ∧ ∃ a b, env = [some d, a, b]) ⟨rfl, _, _, rfl⟩ (fun i env st' _ hI => by rw [hI.1]; exact still_list h) (fun i x env st' hi hI => by
      obtain ⟨rfl, a, b, rfl⟩ := hI
      obtain ⟨y, hy, rfl⟩ := pairUp_at hi
      unfold encP at hy
      rw [List.getElem?_map] at hy
      cases q : p[i]? with
      | none => rw [q] at hy; cases hy
      | some r =>
        rw [q] at hy
        cases hy
        have hr := h3 r (List.mem_of_getElem? q)
        have hi := (List.getElem?_eq_some_iff.mp q).1
        have hi2 : ¬ (30 : Int) ≤ i := by omega
        simp [geG, hi2, is_row_tup, hr])
  rfl
end Dl
namespace Dl
open PySem L2
/-- the box stands first in the store -/
structure Box where
  ns : List Int
  s : Int
def Bx (b : Box) (rest : Store) : Store := .lst (b.ns.map .int) :: .lst [.ref 0, .int b.s] :: rest
@[simp] theorem Bx_len (b : Box) (rest : Store) : (Bx b rest).length = rest.length + 2 := rfl
@[simp] theorem Bx_app (b : Box) (rest more : Store) : Bx b rest ++ more = Bx b (rest ++ more) := rfl
@[simp high] theorem Bx_get (b : Box) (rest : Store) (k : Nat) : (Bx b rest)[k + 2]? = rest[k]? := by simp [Bx]
@[simp] theorem Bx_set (b : Box) (rest : Store) (k : Nat) (o : Ob) : (Bx b rest).set (k + 2) o = Bx b (rest.set k o) := by simp [Bx]
/-- what is taken, and the box behind -/
def tk (b : Box) (n : Int) : Int × Box := match b.ns with
  | [] => (b.s * 48271 % 2147483647 / 7 % n, ⟨[], b.s * 48271 % 2147483647⟩)
  | x :: ns => (x % n, if x / n = 0 ∨ x / n = -1 then ⟨ns, b.s⟩ else ⟨x / n :: ns, b.s⟩)
theorem tk_lo (b : Box) {n : Int} (h : 0 < n) : 0 ≤ (tk b n).1 := by
  obtain ⟨ns, s⟩ := b
  cases ns <;> exact Int.emod_nonneg _ (by omega)
theorem tk_hi (b : Box) {n : Int} (h : 0 < n) : (tk b n).1 < n := by
  obtain ⟨ns, s⟩ := b
  cases ns <;> exact Int.emod_lt_of_pos _ h
@[simp] theorem atI_0 {A : Type} (a : A) (l : List A) : atI (a :: l) 0 = some a := by
  have : (0 : Int) < ↑(l.length + 1) := by omega
  simp [atI, ixN, this]
@[simp] theorem atI_1 {A : Type} (a b : A) (l : List A) : atI (a :: b :: l) 1 = some b := by
  have : (1 : Int) < (l.length : Int) + 1 + 1 := by omega
  simp [atI, ixN, this]
theorem atI_nat {A : Type} (l : List A) (i : Nat) : atI l (i : Int) = l[i]? := by
  by_cases h : i < l.length
  · have : (i : Int) < l.length := by omega
    simp [atI, ixN, h]
  · have : ¬ (i : Int) < l.length := by omega
    simp [atI, ixN, h]
theorem atI_int {A : Type} (l : List A) (i : Int) (h0 : 0 ≤ i) : atI l i = l[i.toNat]? := by
  have := atI_nat l i.toNat
  rwa [Int.toNat_of_nonneg h0] at this
theorem atI_last {A : Type} (l : List A) (a : A) : atI (l ++ [a]) (-1) = some a := by
  have h : -(((l ++ [a]).length : Nat) : Int) ≤ -1 := by simp; omega
  have h1 : ¬ (0 : Int) ≤ -1 := by decide
  simp only [atI, ixN, if_neg h1, if_pos h]
  have : (-1 + (((l ++ [a]).length : Nat) : Int)).toNat = l.length := by simp; omega
  rw [Option.bind_some, this]
  simp
theorem eq_intsR {st : Store} {k : Nat} {ns : List Int} (h : st[k]? = some (.lst (ns.map .int))) : eqG false st (.ref k) (.lst []) = .ok (.bl (decide (ns = [])), st) := by
  rw [eqG_refL h, eq_nilD (pls_ints _) (Nat.le_trans (dps_ints _) (by decide))]
  simp
def m_law_begun : FV := funD 3 d_law_begun
def m_law_take : FV := funD 3 d_law_take
theorem begun_ok (ns : List Int) : ∃ b, m_law_begun [.scr ns] [] = .ok (.ref 1, Bx b []) := by
  unfold m_law_begun funD d_law_begun
  simp [itemsOf]
  generalize hf : forGo _ _ _ _ _ _ = r
  obtain ⟨e, s, rfl, rfl, i, v, rfl⟩ := for_at hf (fun i env st' => st' = [] ∧ ∃ i v, env = [some (.scr ns), some (.int i), v]) ⟨rfl, 0, none, rfl⟩ (fun i env st' _ hI => rfl) (fun i x env st' hi hI => by
    obtain ⟨rfl, a, b, rfl⟩ := hI
    rw [List.getElem?_map] at hi
    cases q : ns[i]? with
    | none => rw [q] at hi; cases hi
    | some r =>
      rw [q] at hi
      cases hi
      simp [mulG, addG, modG])
  have h3 : ∀ b : Bool, -18446744073709551616 < (if b = true then (1 : Int) else 0) ∧ (if b = true then (1 : Int) else 0) < 18446744073709551616 := fun b => by cases b <;> decide
  simp [listG, lenG, gtG, intG, mulG, newL]
  by_cases hb : (2 : Int) < ns.length
  · exact ⟨⟨ns, _⟩, by simp [hb, Bx]; rfl⟩
  · exact ⟨⟨ns, _⟩, by simp [hb, Bx]; rfl⟩
theorem take_eq (b : Box) (rest : Store) (n : Int) (h : 0 < n) (hn : n < 18446744073709551616) : m_law_take [.ref 1, .int n] (Bx b rest) = .ok (.int (tk b n).1, Bx (tk b n).2 rest) := by
  unfold m_law_take funD d_law_take
  obtain ⟨ns, s⟩ := b
  cases ns with
  | nil =>
    have e := eq_intsR (st := Bx ⟨[], s⟩ rest) (k := 0) (ns := []) rfl
    simp only [Bx, List.map_nil] at e
    simp [Bx, ixG, lstOf, e, mulG, modG, divG, setLG, ixN, h, tk]
  | cons x ns =>
    have e := eq_intsR (st := Bx ⟨x :: ns, s⟩ rest) (k := 0) (ns := x :: ns) rfl
    simp only [Bx, List.map_cons] at e
    have hl : (0 : Int) < (ns.length : Int) + 1 := by omega
    by_cases h1 : x / n = 0
    · simp [Bx, ixG, lstOf, e, mulG, modG, divG, setLG, ixN, h, hl, hn, h1, tyM, popG, tk]
    · by_cases h2 : x / n = -1
      · simp [Bx, ixG, lstOf, e, mulG, modG, divG, setLG, ixN, h, hl, hn, h2, tyM, popG, tk]
      · simp [Bx, ixG, lstOf, e, mulG, modG, divG, setLG, ixN, h, hl, hn, h1, h2, tk]
theorem atI_mem {A : Type} {l : List A} {i : Int} (h0 : 0 ≤ i) (h1 : i < l.length) : ∃ x, atI l i = some x ∧ x ∈ l := by
  rw [atI_int l i h0]
  have : i.toNat < l.length := by omega
  exact ⟨l[i.toNat], by simp [this], by simp⟩
def m_law_sign : FV := funD 2 (d_law_sign m_law_take)
def everySign : List Nat := [32, 33, 34, 35, 36, 38, 39, 40, 41, 42, 43, 44, 45, 46, 47, 48, 49, 50, 51, 52, 53, 54, 55, 56, 57, 58, 59, 60, 61, 62, 63, 64, 65, 66, 67, 68, 69, 70, 71, 72, 73, 74, 75, 76, 77, 78, 79, 80, 81, 82, 83, 84, 85, 86, 87, 88, 89, 90, 91, 92, 93, 94, 95, 96, 97, 98, 99, 100, 101, 102, 103, 104, 105, 106, 107, 108, 109, 110, 111, 112, 113, 114, 115, 116, 117, 118, 119, 120, 121, 122, 123, 124, 125, 126]
theorem sign_ok (b : Box) (rest : Store) : ∃ c b', okSign c = true ∧ m_law_sign [.ref 1] (Bx b rest) = .ok (.str [c], Bx b' rest) := by
  obtain ⟨c, e, m⟩ := atI_mem (l := everySign) (tk_lo b (n := 94) (by decide)) (tk_hi b (n := 94) (by decide))
  refine ⟨c, (tk b 94).2, ?_, ?_⟩
  · have : ∀ c ∈ everySign, okSign c = true := by decide
    exact this c m
  · unfold m_law_sign funD d_law_sign
    unfold everySign at e
    simp [take_eq, ixG, e]
theorem joinL_ones (cs : List Nat) : TL.joinL [] (cs.map fun c => [c]) = cs := by
  induction cs with
  | nil => rfl
  | cons c cs ih =>
    cases cs with
    | nil => rfl
    | cons d cs =>
      simp only [List.map_cons] at ih ⊢
      rw [TL.joinL, ih]; rfl
theorem join_ones (cs : List Nat) (st : Store) (h : cs.length ≤ LIM) : joinG st (.str []) [.lst ((cs.map fun c => [c]).map D.str)] = .ok (.str cs, st) := by
  unfold joinG
  simp only [lstOf, Option.bind_some, strsOf_map]
  have e : ((cs.map fun c => [c]).map List.length).sum = cs.length := by
    induction cs with
    | nil => rfl
    | cons c cs ih => simp_all; omega
  rw [e, joinL_ones]
  simp [h]
theorem join_ones' (cs : List Nat) (st : Store) (h : cs.length ≤ LIM) : joinG st (.str []) [.lst (cs.map (D.str ∘ fun c => [c]))] = .ok (.str cs, st) := by
  rw [← List.map_map]; exact join_ones cs st h
def m_law_cell : FV := funD 6 (d_law_cell m_law_take m_law_sign)
theorem okCell_num {k : Int} (h0 : 0 ≤ k) (h : k < 10 ^ 9) : okCell (TL.numL k.toNat) = true ∧ okCell (45 :: TL.numL k.toNat) = true := by
  have hl : (TL.numL k.toNat).length ≤ 9 := TL.numL_len (by decide) (by omega)
  have ha : ∀ c ∈ TL.numL k.toNat, okSign c = true := fun c hc => by
    have := TL.numL_digits _ c hc
    simp [okSign]
    omega
  have hb : okSign 45 = true := by decide
  refine ⟨?_, ?_⟩
  · simp only [okCell, Bool.and_eq_true, decide_eq_true_eq, List.all_eq_true]
    exact ⟨by omega, ha⟩
  · simp only [okCell, Bool.and_eq_true, decide_eq_true_eq, List.all_eq_true, List.length_cons, List.mem_cons]
    refine ⟨by omega, fun c hc => ?_⟩
    rcases hc with rfl | hc
    · exact hb
    · exact ha c hc
theorem cell_ok (b : Box) (rest : Store) (sort : Int) : ∃ s b', okCell s = true ∧ m_law_cell [.ref 1, .int sort] (Bx b rest) = .ok (.str s, Bx b' rest) := by
  unfold m_law_cell funD d_law_cell
  simp [take_eq]
  have h0 := tk_lo b (n := 9) (by decide)
  have h9 := tk_hi b (n := 9) (by decide)
  generalize tk b 9 = p at h0 h9 ⊢
  obtain ⟨way, b⟩ := p
  simp only at h0 h9 ⊢
  by_cases h : way = 0
  · exact ⟨[], by decide, b, by simp [h]⟩
  simp [h]
  have len2 : (([D.str [], D.str [45]] : List D).length : Int) = 2 := rfl
  have t3 := tk_lo b (n := 3) (by decide)
  have t3' := tk_hi b (n := 3) (by decide)
  obtain ⟨x, ex, mx⟩ := atI_mem (l := [D.str [], D.str [45]]) (i := (tk b 3).1 / 2) (by omega) (by rw [len2]; omega)
  obtain ⟨y, ey, my⟩ := atI_mem (l := [D.int 10, D.int 1000, D.int 1000000000]) (i := (tk (tk b 3).2 3).1) (tk_lo _ (by decide)) (tk_hi _ (by decide))
  have hy : ∃ n : Int, y = .int n ∧ 0 < n ∧ n ≤ 1000000000 := by
    simp at my
    rcases my with rfl | rfl | rfl <;> exact ⟨_, rfl, by decide, by decide⟩
  obtain ⟨n, rfl, n0, n9⟩ := hy
  have n64 : n < 18446744073709551616 := by omega
  have k0 := tk_lo (tk (tk b 3).2 3).2 n0
  have k1 := tk_hi (tk (tk b 3).2 3).2 n0
  by_cases hc : way = 1 ∨ sort = 0 ∧ way < 7
  · have q := okCell_num k0 (by omega)
    have ql : (TL.numL (tk (tk (tk b 3).2 3).2 n).1.toNat).length + 1 ≤ LIM := le_LIM (by have := q.2; simp [okCell] at this; omega)
    have ql' : (TL.numL (tk (tk (tk b 3).2 3).2 n).1.toNat).length ≤ LIM := Nat.le_trans (Nat.le_succ _) ql
    have e18 : (tk (tk (tk b 3).2 3).2 n).1 < 1000000000000000000 := by omega
    simp at mx
    rcases hc with hc | ⟨hc, hc'⟩ <;> rcases mx with rfl | rfl <;> simp [*, Nat.add_comm 1, ltG, ixG, lstOf, divG, powG, strG, addG, take_eq]
    all_goals first | exact ⟨_, q.1, _, rfl, rfl⟩ | exact ⟨_, q.2, _, rfl, rfl⟩ | exact ⟨_, q.1, rfl, _, rfl⟩ | exact ⟨_, q.2, rfl, _, rfl⟩
  · have c1 : ¬ way = 1 := fun z => hc (.inl z)
    have step : ∀ st : Store, (if way = 1 then R.ok (true, st) else if sort = 0 then R.ok (decide (way < 7), st) else R.ok (false, st)) = R.ok (false, st) := fun st => by
      by_cases hs : sort = 0
      · have : ¬ way < 7 := fun z => hc (.inr ⟨hs, z⟩)
        simp [c1, hs, this]
      · simp [c1, hs]
    simp [ltG, step]
    by_cases h2 : way = 2
    · obtain ⟨z, ez, mz⟩ := atI_mem (l := [D.str [45], D.str [45, 45, 49], D.str [49, 45], D.str [48, 120], D.str [32, 49], D.str [49, 32], D.str [45, 48], D.str [48, 48, 55], D.str [32], D.str [32, 32, 32], D.str [49, 50, 51, 52, 53, 54, 55, 120], D.str [49, 50, 51, 52, 53, 54, 55, 56, 45], D.str [45, 48, 48, 48, 48, 48, 48, 48, 32, 49]]) (i := (tk b 13).1) (tk_lo _ (by decide)) (tk_hi _ (by decide))
      have hz : ∃ s, z = .str s ∧ okCell s = true := by
        simp at mz
        rcases mz with rfl | rfl | rfl | rfl | rfl | rfl | rfl | rfl | rfl | rfl | rfl | rfl | rfl <;> exact ⟨_, rfl, by decide⟩
      obtain ⟨s, rfl, hs⟩ := hz
      simp [h2, take_eq, ixG, lstOf, ez]
      exact ⟨s, hs, rfl, _, rfl⟩
    · obtain ⟨y, ey, my⟩ := atI_mem (l := [D.int 3, D.int 10]) (i := (tk b 2).1) (tk_lo _ (by decide)) (tk_hi _ (by decide))
      have hy : ∃ n : Int, y = .int n ∧ 0 < n ∧ n ≤ 10 := by
        simp at my
        rcases my with rfl | rfl <;> exact ⟨_, rfl, by decide, by decide⟩
      obtain ⟨n, rfl, n0, n9⟩ := hy
      have n64 : n < 18446744073709551616 := by omega
      have k0 := tk_lo (tk b 2).2 n0
      have k1 := tk_hi (tk b 2).2 n0
      simp [h2, take_eq, ixG, lstOf, addG, ey, n0, n64]
      generalize tk (tk b 2).2 n = p at k0 k1 ⊢
      obtain ⟨m, b⟩ := p
      simp only at k0 k1 ⊢
      have m1 : -1000000 ≤ 1 + m ∧ 1 + m ≤ 1000000 := by omega
      have m2 : (1 + m).toNat ≤ LIM := le_LIM (by omega)
      by_cases h6 : way < 6
      · simp [ltG, h6, m1, m2]
        generalize hf : lcGo _ _ _ _ _ _ _ _ = r
        obtain ⟨acc, s, rfl, cs, b', hc1, hc2, rfl, hc3⟩ := lc_at hf (fun i acc st' => ∃ cs b', cs.length = i ∧ (∀ c ∈ cs, okSign c = true) ∧ acc = (cs.map fun c => [c]).map D.str ∧ st' = Bx b' rest) ⟨[], b, rfl, by simp, rfl, rfl⟩ (fun _ _ _ _ _ => rfl) (fun i x acc st' hi ⟨cs, b', e1, e2, e3, e4⟩ => by
          subst e3 e4
          obtain ⟨c, ec, mc⟩ := atI_mem (l := [97, 98, 99, 100, 101, 102, 103, 104, 105, 106]) (i := (tk b' 10).1) (tk_lo _ (by decide)) (tk_hi _ (by decide))
          have hc : okSign c = true := by
            have : ∀ c ∈ ([97, 98, 99, 100, 101, 102, 103, 104, 105, 106] : List Nat), okSign c = true := by decide
            exact this c mc
          refine ⟨_, rfl, ?_⟩
          simp [take_eq, ixG, ec]
          exact ⟨cs ++ [c], by simp [e1], fun x hx => by simp at hx; rcases hx with hx | rfl <;> first | exact e2 _ hx | exact hc, by simp, _, rfl⟩)
        have hcl : cs.length ≤ 10 := by simp at hc1; omega
        have hk : okCell cs = true := by
          simp only [okCell, Bool.and_eq_true, decide_eq_true_eq, List.all_eq_true]
          exact ⟨hcl, hc2⟩
        subst hc3
        simp [tyM, join_ones' cs _ (le_LIM (by omega))]
        exact ⟨cs, hk, rfl, _, rfl⟩
      · simp [ltG, h6, m1, m2]
        generalize hf : lcGo _ _ _ _ _ _ _ _ = r
        obtain ⟨acc, s, rfl, cs, b', hc1, hc2, rfl, hc3⟩ := lc_at hf (fun i acc st' => ∃ cs b', cs.length = i ∧ (∀ c ∈ cs, okSign c = true) ∧ acc = (cs.map fun c => [c]).map D.str ∧ st' = Bx b' rest) ⟨[], b, rfl, by simp, rfl, rfl⟩ (fun _ _ _ _ _ => rfl) (fun i x acc st' hi ⟨cs, b', e1, e2, e3, e4⟩ => by
          subst e3 e4
          obtain ⟨c, b2, hc, ec⟩ := sign_ok b' rest
          refine ⟨_, rfl, ?_⟩
          simp [ec]
          exact ⟨cs ++ [c], by simp [e1], fun x hx => by simp at hx; rcases hx with hx | rfl <;> first | exact e2 _ hx | exact hc, by simp, _, rfl⟩)
        have hcl : cs.length ≤ 10 := by simp at hc1; omega
        have hk : okCell cs = true := by
          simp only [okCell, Bool.and_eq_true, decide_eq_true_eq, List.all_eq_true]
          exact ⟨hcl, hc2⟩
        subst hc3
        simp [tyM, join_ones' cs _ (le_LIM (by omega))]
        exact ⟨cs, hk, rfl, _, rfl⟩
end Dl
namespace Dl
open PySem L2
theorem ints_get {n : Nat} {i : Nat} {x : D} (h : (intsD 0 n)[i]? = some x) : i < n ∧ x = .int i := by
  have hi := (List.getElem?_eq_some_iff.mp h).1
  rw [intsD_len] at hi
  rw [ints_at 0 n i hi] at h
  cases h
  exact ⟨hi, by simp⟩
theorem ixN_last (n : Nat) : ixN (n + 1) (-1) = some n := by
  have h1 : ¬ (0 : Int) ≤ -1 := by decide
  have h2 : -(((n + 1 : Nat)) : Int) ≤ -1 := by omega
  rw [ixN, if_neg h1, if_pos h2]
  congr 1
  omega
theorem mem_encP {p : Page} {y : D} (h : y ∈ encP p) : ∃ r, r ∈ p ∧ y = encR r := by
  obtain ⟨r, hr, rfl⟩ := List.mem_map.mp h; exact ⟨r, hr, rfl⟩
def m_law_row : FV := funD 4 (d_law_row m_law_cell)
theorem row_ok (b : Box) (rest : Store) (sorts : List Int) (n : Int) (h1 : 1 ≤ n) (h6 : n ≤ 6) (hs : sorts.length = 6) : ∃ r b', okRow r = true ∧ m_law_row [.ref 1, .lst (sorts.map .int), .int n] (Bx b rest) = .ok (encR r, Bx b' rest) := by
  unfold m_law_row funD d_law_row
  have m1 : -1000000 ≤ n ∧ n ≤ 1000000 := by omega
  have m2 : n.toNat ≤ LIM := le_LIM (by omega)
  simp [m1, m2]
  generalize hf : lcGo _ _ _ _ _ _ _ _ = r
  obtain ⟨acc, s, rfl, cs, b', hc1, hc2, rfl, hc3⟩ := lc_at hf (fun i acc st' => ∃ cs b', cs.length = i ∧ (∀ c ∈ cs, okCell c = true) ∧ acc = cs.map D.str ∧ st' = Bx b' rest) ⟨[], b, rfl, by simp, rfl, rfl⟩ (fun _ _ _ _ _ => rfl) (fun i x acc st' hi ⟨cs, b', e1, e2, e3, e4⟩ => by
    subst e3 e4
    obtain ⟨hi, rfl⟩ := ints_get hi
    have his : i < sorts.length := by omega
    obtain ⟨c, b2, hc, ec⟩ := cell_ok b' rest sorts[i]
    have ei : atI (sorts.map D.int) (i : Int) = some (.int sorts[i]) := by rw [atI_nat]; simp [his]
    refine ⟨_, rfl, ?_⟩
    simp [ixG, lstOf, ei, ec]
    exact ⟨cs ++ [c], by simp [e1], fun x hx => by simp at hx; rcases hx with hx | rfl <;> first | exact e2 _ hx | exact hc, by simp, _, rfl⟩)
  subst hc3
  rw [intsD_len] at hc1
  simp [tupG, lstOf]
  refine ⟨cs, ?_, rfl, _, rfl⟩
  simp only [okRow, Bool.and_eq_true, decide_eq_true_eq, List.all_eq_true]
  exact ⟨⟨by omega, by omega⟩, hc2⟩
def m_law_page : FV := funD 8 (d_law_page m_law_take m_law_row)
theorem page_ok (b : Box) (rest : Store) (n : Int) (h1 : 1 ≤ n) (h6 : n ≤ 30) : ∃ p b', okPage p = true ∧ (p.length : Int) ≤ n ∧ m_law_page [.ref 1, .int n] (Bx b rest) = .ok (.ref (rest.length + 2), Bx b' (rest ++ [.lst (encP p)])) := by
  unfold m_law_page funD d_law_page
  have m1 : -1000000 ≤ n ∧ n ≤ 1000000 := by omega
  have m2 : n.toNat ≤ LIM := le_LIM (by omega)
  simp [show (6 : Int).toNat = 6 from rfl]
  generalize hf : lcGo _ _ _ _ _ _ _ _ = r
  obtain ⟨acc, s, rfl, cs, b', hc1, rfl, hc3⟩ := lc_at hf (fun i acc st' => ∃ cs b', cs.length = i ∧ acc = cs.map D.int ∧ st' = Bx b' rest) ⟨[], b, rfl, rfl, rfl⟩ (fun _ _ _ _ _ => rfl) (fun i x acc st' hi ⟨cs, b', e1, e3, e4⟩ => by
    subst e3 e4
    refine ⟨_, rfl, ?_⟩
    simp [take_eq]
    exact ⟨cs ++ [_], by simp [e1], by simp; rfl, _, rfl⟩)
  subst hc3
  rw [intsD_len] at hc1
  simp [take_eq, addG]
  have k0 := tk_lo b' (n := 6) (by decide)
  have k1 := tk_hi b' (n := 6) (by decide)
  generalize tk b' 6 = q at k0 k1 ⊢
  obtain ⟨m, b⟩ := q
  simp only at k0 k1 ⊢
  have n0 : 0 < n := by omega
  have n64 : n < 18446744073709551616 := by omega
  have z0 := tk_lo b n0
  have z1 := tk_hi b n0
  simp [n0, n64, take_eq, addG]
  generalize tk b n = q at z0 z1 ⊢
  obtain ⟨t, b⟩ := q
  simp only at z0 z1 ⊢
  have m1 : -1000000 ≤ 1 + t ∧ 1 + t ≤ 1000000 := by omega
  simp [m1]
  generalize hf : forGo _ _ _ _ _ _ = r
  obtain ⟨e, st, rfl, p, b', many, a5, a6, a7, e1, e2, rfl, e4, he⟩ := for_at hf (fun i env st' => ∃ p b' many a5 a6 a7, p.length = i ∧ (∀ r ∈ p, okRow r = true) ∧ st' = Bx b' (rest ++ [.lst (encP p)]) ∧ (1 ≤ many ∧ many ≤ 6) ∧ env = [some (.ref 1), some (.int n), some (.lst (cs.map D.int)), some (.int many), some (.ref (rest.length + 2)), a5, a6, a7])
    ⟨[], b, _, _, _, _, rfl, by simp, rfl, by omega, rfl⟩ (fun _ _ _ _ _ => rfl) (fun i x env st' hi ⟨p, b, many, a5, a6, a7, e1, e2, e3, e4, e5⟩ => by
      subst e3 e5
      obtain ⟨hi, rfl⟩ := ints_get hi
      have w0 := tk_lo b (n := 8) (by decide)
      have w1 := tk_hi b (n := 8) (by decide)
      have v0 := tk_lo (tk b 8).2 (n := 6) (by decide)
      have v1 := tk_hi (tk b 8).2 (n := 6) (by decide)
      obtain ⟨y, ey, my⟩ := atI_mem (l := [D.int (1 + (tk (tk b 8).2 6).1), D.int (max 1 (many - 1)), D.int (min 6 (many + 1)), D.int many]) (i := min (tk b 8).1 3) (by omega) (by
        show min (tk b 8).1 3 < 4
        omega)
      have hy : ∃ n : Int, y = .int n ∧ 1 ≤ n ∧ n ≤ 6 := by
        simp at my
        rcases my with rfl | rfl | rfl | rfl <;> exact ⟨_, rfl, by omega, by omega⟩
      obtain ⟨k, rfl, k1, k2⟩ := hy
      obtain ⟨r, b2, hr, er⟩ := row_ok (tk (tk b 8).2 6).2 (rest ++ [.lst (encP p)]) cs k k1 k2 hc1
      have pl : p.length < LIM := lt_LIM (by omega)
      simp [take_eq, addG, subG, maxG, minG, ixG, lstOf, ey, er, tyM, appendG, pl]
      by_cases h7 : (tk b 8).1 = 7
      · have c0 : (0 : Int) < p.length + 1 := by omega
        have c1 : (p.length : Int) + 1 < 18446744073709551616 := by omega
        have u0 := tk_lo b2 c0
        have u1 := tk_hi b2 c0
        obtain ⟨y, ey2, my2⟩ := atI_mem (l := encP p ++ [encR r]) (i := (tk b2 ((p.length : Int) + 1)).1) u0 (by simp; omega)
        have hy : ∃ r2, okRow r2 = true ∧ y = encR r2 := by
          rcases List.mem_append.mp my2 with h | h
          · obtain ⟨r2, m, rfl⟩ := mem_encP h; exact ⟨r2, e2 _ m, rfl⟩
          · simp at h; exact ⟨r, hr, h⟩
        obtain ⟨r2, hr2, rfl⟩ := hy
        have er2 : lenG (Bx (tk b2 ((p.length : Int) + 1)).2 (rest ++ [.lst (encP p ++ [encR r2])])) [encR r2] = .ok (.int r2.length, Bx (tk b2 ((p.length : Int) + 1)).2 (rest ++ [.lst (encP p ++ [encR r2])])) := by simp [lenG, encR]
        have es : (encP p ++ [encR r]).set p.length (encR r2) = encP p ++ [encR r2] := by
          rw [← encP_len p, List.set_append_right _ _ (Nat.le_refl _)]; simp
        have el : lenG (Bx b2 (rest ++ [.lst (encP p ++ [encR r])])) [.ref (rest.length + 2)] = .ok (.int ((p.length : Int) + 1), Bx b2 (rest ++ [.lst (encP p ++ [encR r])])) := by simp [lenG, lstOf]
        simp [h7, el, ixG, lstOf, take_eq, c0, c1, ey2, setLG, ixN_last, es, atI_last, er2]
        simp only [okRow, Bool.and_eq_true, decide_eq_true_eq] at hr2
        refine ⟨p ++ [r2], by simp [e1], fun x hx => ?_, ⟨_, by simp [encP]; rfl⟩, by omega, by omega⟩
        simp at hx
        rcases hx with hx | rfl
        · exact e2 _ hx
        · simp only [okRow, Bool.and_eq_true, decide_eq_true_eq]; exact hr2
      · simp [h7]
        refine ⟨p ++ [r], by simp [e1], fun x hx => ?_, ⟨_, by simp [encP]; rfl⟩, k1, k2⟩
        simp at hx
        rcases hx with hx | rfl
        · exact e2 _ hx
        · exact hr)
  subst he
  rw [intsD_len] at e1
  simp
  refine ⟨p, ?_, by omega, _, rfl⟩
  simp only [okPage, Bool.and_eq_true, decide_eq_true_eq, List.all_eq_true]
  exact ⟨⟨by omega, by omega⟩, e2⟩
end Dl
namespace Dl
open PySem L2
theorem okRow_parts {r : Row} (h : okRow r = true) : 1 ≤ r.length ∧ r.length ≤ 6 ∧ ∀ c ∈ r, okCell c = true := by
  simp only [okRow, Bool.and_eq_true, decide_eq_true_eq, List.all_eq_true] at h
  exact ⟨h.1.1, h.1.2, h.2⟩
theorem okPage_parts {p : Page} (h : okPage p = true) : 1 ≤ p.length ∧ p.length ≤ 30 ∧ ∀ r ∈ p, okRow r = true := by
  simp only [okPage, Bool.and_eq_true, decide_eq_true_eq, List.all_eq_true] at h
  exact ⟨h.1.1, h.1.2, h.2⟩
theorem okCell_parts {c : List Nat} (h : okCell c = true) : c.length ≤ 10 ∧ ∀ x ∈ c, 32 ≤ x ∧ x ≤ 126 ∧ x ≠ 37 := by
  simp only [okCell, Bool.and_eq_true, decide_eq_true_eq, List.all_eq_true] at h
  refine ⟨h.1, fun x hx => ?_⟩
  have := h.2 x hx
  simp only [okSign, Bool.and_eq_true, decide_eq_true_eq] at this
  omega
theorem take_snoc {A : Type} {l : List A} {i : Nat} {a : A} (h : l[i]? = some a) : l.take (i + 1) = l.take i ++ [a] := by
  rw [List.take_add_one, h]; rfl
theorem ix_list {st : Store} {d : D} {w : Wk} (h : listOf st d = some w) (i : Int) : ixG st d (.int i) = R.of ((atI w.1 i).map fun x => (x, st)) := by
  have e := lst_list h
  unfold listOf at h
  split at h
  · simp [ixG, e]
  · simp [ixG, e]
  · cases h
end Dl
namespace Dl
open PySem L2
theorem while_at {t : TV} {b : SV} (I : Nat → Env → Store → Prop) (Q : Env → Store → Prop)
    (turn : ∀ n env st, I n env st → (t env st).to fun c st1 => if c = true then (b env st1).turn fun e s => ∃ m, m < n ∧ I m e s else Q env st1) :
    ∀ fuel n env st, n < fuel → I n env st → ∃ e s, whileGo t b fuel env st = .nx e s ∧ Q e s := by
  intro fuel
  induction fuel with
  | zero => intro n env st h; omega
  | succ fuel ih =>
    intro n env st h hI
    have z := turn n env st hI
    unfold whileGo
    cases q : t env st with
    | ok a =>
      obtain ⟨c, st1⟩ := a
      rw [q] at z
      simp only [to_ok] at z
      simp only [sOf_ok]
      cases c with
      | true =>
        simp only [if_true] at z ⊢
        obtain ⟨e, s, h1, m, h2, h3⟩ := turn_ex z
        obtain ⟨e', s', r1, r2⟩ := ih m e s (by omega) h3
        rcases h1 with h1 | h1 <;> rw [h1] <;> exact ⟨e', s', r1, r2⟩
      | false => exact ⟨env, st1, rfl, by simpa using z⟩
    | exc c p s => rw [q] at z; exact z.elim
    | bad => rw [q] at z; exact z.elim
theorem while_go {t : TV} {b : SV} {fuel n : Nat} {env : Env} {st : Store} {r : SR} (hw : whileGo t b fuel env st = r) (I : Nat → Env → Store → Prop) (Q : Env → Store → Prop) (hn : n < fuel) (h0 : I n env st)
    (turn : ∀ n env st, I n env st → (t env st).to fun c st1 => if c = true then (b env st1).turn fun e s => ∃ m, m < n ∧ I m e s else Q env st1) : ∃ e s, r = .nx e s ∧ Q e s := by
  subst hw; exact while_at I Q turn fuel n env st hn h0
def All2 {A B : Type} (R : A → B → Prop) : List A → List B → Prop
  | [], [] => True
  | a :: as, b :: bs => R a b ∧ All2 R as bs
  | _, _ => False
theorem All2.len {A B : Type} {R : A → B → Prop} : ∀ {as : List A} {bs : List B}, All2 R as bs → as.length = bs.length
  | [], [], _ => rfl
  | a :: as, b :: bs, h => by simp [All2.len h.2]
  | [], _ :: _, h => h.elim
  | _ :: _, [], h => h.elim
theorem All2.imp {A B : Type} {R S : A → B → Prop} (k : ∀ a b, R a b → S a b) : ∀ {as : List A} {bs : List B}, All2 R as bs → All2 S as bs
  | [], [], _ => trivial
  | a :: as, b :: bs, h => ⟨k _ _ h.1, All2.imp k h.2⟩
  | [], _ :: _, h => h.elim
  | _ :: _, [], h => h.elim
theorem All2.app {A B : Type} {R : A → B → Prop} : ∀ {as as' : List A} {bs bs' : List B}, All2 R as bs → All2 R as' bs' → All2 R (as ++ as') (bs ++ bs')
  | [], _, [], _, _, k => k
  | a :: as, _, b :: bs, _, h, k => ⟨h.1, All2.app h.2 k⟩
  | [], _, _ :: _, _, h, _ => h.elim
  | _ :: _, _, [], _, h, _ => h.elim
theorem All2.get {A B : Type} {R : A → B → Prop} : ∀ {as : List A} {bs : List B} {i : Nat} {a : A}, All2 R as bs → as[i]? = some a → ∃ b, bs[i]? = some b ∧ R a b
  | a :: as, b :: bs, 0, x, h, e => by simp at e; subst e; exact ⟨b, rfl, h.1⟩
  | a :: as, b :: bs, i + 1, x, h, e => by simpa using All2.get h.2 (by simpa using e)
  | [], [], _, _, _, e => by simp at e
  | [], _ :: _, _, _, h, _ => h.elim
  | _ :: _, [], _, _, h, _ => h.elim
mutual
/-- d reads as the plain x -/
def Rd (st : Store) : D → D → Prop
  | d, .tup xs => ∃ ds, d = .tup ds ∧ Rds st ds xs
  | d, .lst xs => ∃ ds w, listOf st d = some (ds, w) ∧ Rds st ds xs
  | d, .non => d = .non
  | d, .bl b => d = .bl b
  | d, .int i => d = .int i
  | d, .str s => d = .str s
  | _, .ref _ => False
  | _, .scr _ => False
  | _, .exn _ _ => False
def Rds (st : Store) : List D → List D → Prop
  | [], [] => True
  | d :: ds, x :: xs => Rd st d x ∧ Rds st ds xs
  | _, _ => False
end
/-- what stays of the store -/
def Stays (st st' : Store) : Prop := ∀ (k : Nat) (ds : List D), st[k]? = some (.lst ds) → st'[k]? = some (.lst ds)
theorem listOf_stays {st st' : Store} (s : Stays st st') {d : D} {w : Wk} (h : listOf st d = some w) : listOf st' d = some w := by
  unfold listOf at h
  split at h
  · exact h
  · split at h
    · rename_i n ds e
      cases h
      have e' := s _ _ e
      simp [listOf, e']
    · cases h
  · cases h
mutual
theorem Rd.stays {st st' : Store} (s : Stays st st') : ∀ {x d : D}, Rd st d x → Rd st' d x
  | .tup xs, d, h => by
    rw [Rd] at h ⊢
    obtain ⟨ds, e, k⟩ := h
    exact ⟨ds, e, Rds.stays s k⟩
  | .lst xs, d, h => by
    rw [Rd] at h ⊢
    obtain ⟨ds, w, e, k⟩ := h
    exact ⟨ds, w, listOf_stays s e, Rds.stays s k⟩
  | .non, d, h => by rw [Rd] at h ⊢; exact h
  | .bl _, d, h => by rw [Rd] at h ⊢; exact h
  | .int _, d, h => by rw [Rd] at h ⊢; exact h
  | .str _, d, h => by rw [Rd] at h ⊢; exact h
  | .ref _, d, h => by rw [Rd] at h; exact h.elim
  | .scr _, d, h => by rw [Rd] at h; exact h.elim
  | .exn _ _, d, h => by rw [Rd] at h; exact h.elim
theorem Rds.stays {st st' : Store} (s : Stays st st') : ∀ {xs ds : List D}, Rds st ds xs → Rds st' ds xs
  | [], [], h => by rw [Rds] at h ⊢; trivial
  | x :: xs, d :: ds, h => by
    rw [Rds] at h ⊢
    exact ⟨Rd.stays s h.1, Rds.stays s h.2⟩
  | [], _ :: _, h => by simp [Rds] at h
  | _ :: _, [], h => by simp [Rds] at h
end
theorem Stays.app (st more : Store) : Stays st (st ++ more) := fun k ds e => by
  have h := (List.getElem?_eq_some_iff.mp e).1
  rw [List.getElem?_append_left h]; exact e
theorem Stays.refl (st : Store) : Stays st st := fun _ _ e => e
theorem Stays.trans {a b c : Store} (x : Stays a b) (y : Stays b c) : Stays a c := fun k ds e => y k ds (x k ds e)
mutual
/-- plain, truth values too -/
def D.pk : D → Bool
  | .tup ds => D.pks ds
  | .lst ds => D.pks ds
  | .ref _ => false
  | .scr _ => false
  | .exn _ _ => false
  | _ => true
def D.pks : List D → Bool
  | [] => true
  | d :: ds => D.pk d && D.pks ds
end
mutual
theorem rd_self {st : Store} : ∀ {x : D}, D.pk x = true → Rd st x x
  | .tup xs, h => by
    rw [D.pk] at h
    rw [Rd]; exact ⟨xs, rfl, rds_self h⟩
  | .lst xs, h => by
    rw [D.pk] at h
    rw [Rd]; exact ⟨xs, [], rfl, rds_self h⟩
  | .non, _ => by rw [Rd]
  | .bl _, _ => by rw [Rd]
  | .int _, _ => by rw [Rd]
  | .str _, _ => by rw [Rd]
  | .ref _, h => by simp [D.pk] at h
  | .scr _, h => by simp [D.pk] at h
  | .exn _ _, h => by simp [D.pk] at h
theorem rds_self {st : Store} : ∀ {xs : List D}, D.pks xs = true → Rds st xs xs
  | [], _ => by rw [Rds]; trivial
  | x :: xs, h => by
    simp only [D.pks, Bool.and_eq_true] at h
    rw [Rds]
    exact ⟨rd_self h.1, rds_self h.2⟩
end
end Dl
namespace Dl
open PySem L2
/-- is_number: 3 slots, 3 parameters -/
def d_is_number : SV := sRet (eAnd (eIs "int" (eV 0)) (eAnd (eNot (eIs "bool" (eV 0))) (eChain leG leG (eV 1) (eV 0) (eV 2))))
/-- need_style: 1 slots, 1 parameters -/
def d_need_style (m_is_number : FV) : SV := sCons (sIf (tOrD (tNotD (tv (eIs "tuple" (eV 0)))) (tv (eOp (eqG true) (eB lenG (aCons (eV 0) (aNil))) (eC (.int 2))))) (sBad) (sNext)) (sIf (tOrD (tNotD (tv (eCall 3 m_is_number (aCons (eOp ixG (eV 0) (eC (.int 0))) (aCons (eC (.int 0)) (aCons (eC (.int 4)) (aNil))))))) (tNotD (tv (eCall 3 m_is_number (aCons (eOp ixG (eV 0) (eC (.int 1))) (aCons (eC (.int 0)) (aCons (eC (.int 12)) (aNil)))))))) (sBad) (sNext))
/-- Stretch_init: 4 slots, 4 parameters -/
def d_Stretch_init : SV := sCons (sFldD 12 "column" (eV 0) (eV 1)) (sCons (sFldD 12 "begin" (eV 0) (eV 2)) (sCons (sFldD 12 "end" (eV 0) (eOp (addG false) (eV 2) (eB lenG (aCons (eV 3) (aNil))))) (sFldD 12 "cells" (eV 0) (eV 3))))
/-- stretches_of: 9 slots, 4 parameters -/
def d_stretches_of (m_Stretch_init : FV) : SV := sCons (sAsg (eLst true (aNil)) (gN 4)) (sCons (sAsg (eC .non) (gN 5)) (sCons (sFor (iR2 (aCons (eV 2) (aCons (eOp (addG false) (eV 3) (eC (.int 1))) (aNil)))) (gN 6) (sCons (sAsg (eAnd (eOp ltG (eV 6) (eV 3)) (eOp gtG (eB lenG (aCons (eOp ixG (eV 0) (eV 6)) (aNil))) (eOp (addG false) (eV 1) (eC (.int 1))))) (gN 7)) (sCons (sIf (tAndD (tv (eV 7)) (tv (eOp (isG false) (eV 5) (eC .non)))) (sAsg (eV 6) (gN 5)) (sNext)) (sIf (tAndD (tNotD (tv (eV 7))) (tv (eOp (isG true) (eV 5) (eC .non)))) (sCons (sExpr (eMt "list" (appendG) (eV 4) (aCons (eMake 12 4 m_Stretch_init (aCons (eV 1) (aCons (eV 5) (aCons (eLc false (iR2 (aCons (eV 5) (aCons (eV 6) (aNil)))) [8] (.one 8) (tYesD) (eOp ixG (eOp ixG (eV 0) (eV 8)) (eV 1))) (aNil))))) (aNil)))) (sAsg (eC .non) (gN 5))) (sNext))))) (sRet (eV 4))))
/-- all_stretches: 3 slots, 1 parameters -/
def d_all_stretches (m_stretches_of : FV) : SV := sCons (sAsg (eLst true (aNil)) (gN 1)) (sCons (sFor (iR1 (aCons (eOp subG (eC (.int 6)) (eC (.int 1))) (aNil))) (gN 2) (sExpr (eMt "list" (extendG) (eV 1) (aCons (eCall 4 m_stretches_of (aCons (eV 0) (aCons (eV 2) (aCons (eC (.int 0)) (aCons (eB lenG (aCons (eV 0) (aNil))) (aNil)))))) (aNil))))) (sRet (eV 1)))
/-- is_figures: 3 slots, 1 parameters -/
def d_is_figures : SV := sCons (sAsg (eIf (tv (eOp (eqG false) (eSl false (eV 0) (poNone) (poSome (eC (.int 1)))) (eC (.str [45])))) (eSl false (eV 0) (poSome (eC (.int 1))) (poNone)) (eV 0)) (gN 1)) (sRet (eAnd (eOp (eqG true) (eV 1) (eC (.str []))) (eOp (eqG false) (eLc false (iSeq (eV 1)) [2] (.one 2) (tv (eOp (inG true) (eV 2) (eC (.str [48, 49, 50, 51, 52, 53, 54, 55, 56, 57])))) (eV 2)) (eLst false (aNil)))))
/-- Stretch_is_right: 3 slots, 1 parameters -/
def d_Stretch_is_right (m_is_figures : FV) : SV := sCons (sAsg (eLc false (iSeq (eFld 12 "cells" (eV 0))) [2] (.one 2) (tv (eOp (eqG true) (eV 2) (eC (.str [])))) (eV 2)) (gN 1)) (sRet (eAnd (eOp (eqG true) (eV 1) (eLst false (aNil))) (eOp (eqG false) (eLc false (iSeq (eV 1)) [2] (.one 2) (tNotD (tv (eCall 1 m_is_figures (aCons (eV 2) (aNil))))) (eV 2)) (eLst false (aNil)))))
/-- Stretch_width: 3 slots, 2 parameters -/
def d_Stretch_width : SV := sRet (eB maxG (aCons (eOp ixG (eV 1) (eC (.int 1))) (aCons (eOp (addG false) (eB maxG (aCons (eLc false (iSeq (eFld 12 "cells" (eV 0))) [2] (.one 2) (tYesD) (eB lenG (aCons (eV 2) (aNil)))) (aNil))) (eOp ixG (eV 1) (eC (.int 0)))) (aNil))))
end Dl
namespace Dl
open PySem L2
def m_is_number : FV := funD 3 d_is_number
@[simp] theorem is_number_int (i lo hi : Int) (st : Store) : m_is_number [.int i, .int lo, .int hi] st = .ok (.bl (decide (lo ≤ i ∧ i ≤ hi)), st) := by
  unfold m_is_number funD d_is_number
  simp [tyOf, subTy, leG]
  by_cases h : lo ≤ i <;> simp [h]
def m_need_style : FV := funD 1 (d_need_style m_is_number)
structure Sty where
  g : Int
  l : Int
def Sty.ok (s : Sty) : Prop := (0 ≤ s.g ∧ s.g ≤ 4) ∧ 0 ≤ s.l ∧ s.l ≤ 12
def Sty.enc (s : Sty) : D := .tup [.int s.g, .int s.l]
theorem need_style_ok {s : Sty} (h : s.ok) (st : Store) : m_need_style [s.enc] st = .ok (.non, st) := by
  unfold m_need_style funD d_need_style Sty.enc
  simp [tyOf, subTy, lenG, ixG, h.1.1, h.1.2, h.2.1, h.2.2]
def m_law_style : FV := funD 2 (d_law_style m_law_take)
theorem style_ok (b : Box) (rest : Store) : ∃ s b', Sty.ok s ∧ m_law_style [.ref 1] (Bx b rest) = .ok (s.enc, Bx b' rest) := by
  unfold m_law_style funD d_law_style
  have a0 := tk_lo b (n := 5) (by decide)
  have a1 := tk_hi b (n := 5) (by decide)
  have b0 := tk_lo (tk b 5).2 (n := 3) (by decide)
  have b1 := tk_hi (tk b 5).2 (n := 3) (by decide)
  obtain ⟨y, ey, my⟩ := atI_mem (l := [D.int (tk b 5).1, D.int 1, D.int 2]) (i := (tk (tk b 5).2 3).1) b0 b1
  have hy : ∃ n : Int, y = .int n ∧ 0 ≤ n ∧ n ≤ 4 := by
    simp at my
    rcases my with rfl | rfl | rfl <;> exact ⟨_, rfl, by omega, by omega⟩
  obtain ⟨g, rfl, g0, g1⟩ := hy
  simp [take_eq, ixG, lstOf, ey]
  generalize (tk (tk b 5).2 3).2 = b
  have a0 := tk_lo b (n := 13) (by decide)
  have a1 := tk_hi b (n := 13) (by decide)
  have c0 := tk_lo (tk b 13).2 (n := 13) (by decide)
  have c1 := tk_hi (tk b 13).2 (n := 13) (by decide)
  have b0 := tk_lo (tk (tk b 13).2 13).2 (n := 3) (by decide)
  have b1 := tk_hi (tk (tk b 13).2 13).2 (n := 3) (by decide)
  obtain ⟨y, ez, my⟩ := atI_mem (l := [D.int 0, D.int (tk b 13).1, D.int (tk (tk b 13).2 13).1]) (i := (tk (tk (tk b 13).2 13).2 3).1) b0 b1
  have hy : ∃ n : Int, y = .int n ∧ 0 ≤ n ∧ n ≤ 12 := by
    simp at my
    rcases my with rfl | rfl | rfl <;> exact ⟨_, rfl, by omega, by omega⟩
  obtain ⟨l, rfl, l0, l1⟩ := hy
  simp [ez]
  exact ⟨⟨g, l⟩, ⟨⟨g0, g1⟩, l0, l1⟩, rfl, _, rfl⟩
def figs (s : List Nat) : Bool :=
  let rest := if s.take 1 = [45] then s.drop 1 else s
  decide (rest ≠ []) && rest.all fun c => decide (48 ≤ c ∧ c ≤ 57)
theorem cut_to {A : Type} (xs : List A) (k : Nat) : cutD xs none (some (k : Int)) = xs.take k := by
  unfold cutD
  rw [HT.sIx_none, HT.sIx_nat]
  simp
theorem cut_from {A : Type} (xs : List A) (k : Nat) : cutD xs (some (k : Int)) none = xs.drop k := by
  unfold cutD
  rw [HT.sIx_nat, HT.sIx_none]
  by_cases h : k ≤ xs.length
  · rw [Nat.min_eq_left h, List.take_of_length_le (by simp)]
  · rw [Nat.min_eq_right (by omega)]
    simp
    omega
def m_is_figures : FV := funD 3 d_is_figures
theorem is_figures_str (s : List Nat) (h : s.length ≤ 1000000) (st : Store) : m_is_figures [.str s] st = .ok (.bl (figs s), st) := by
  unfold m_is_figures funD d_is_figures
  have c1 : cutD s none (some 1) = s.take 1 := cut_to s 1
  have c2 : cutD s (some 1) none = s.drop 1 := cut_from s 1
  have key : ∀ rest : List Nat, rest.length ≤ 1000000 → ((eAnd (eOp (eqG true) (eV 1) (eC (.str []))) (eOp (eqG false) (eLc false (iSeq (eV 1)) [2] (.one 2) (tv (eOp (inG true) (eV 2) (eC (.str [48, 49, 50, 51, 52, 53, 54, 55, 56, 57])))) (eV 2)) (eLst false (aNil)))) [some (.str s), some (.str rest), none] st)
      = .ok (.bl (decide (rest ≠ []) && rest.all fun c => decide (48 ≤ c ∧ c ≤ 57)), st) := fun rest hr => by
    by_cases h0 : rest = []
    · simp [h0]
    · have hl : rest.length ≤ LIM := le_LIM hr
      simp [h0, itemsOf, hl]
      rw [lc_keep rfl (fun d => match d with | .str [c] => !decide (48 ≤ c ∧ c ≤ 57) | _ => true) _ (fun d hd => ?_) (by simp)]
      · have e : (rest.map fun c => D.str [c]).filter (fun d => match d with | .str [c] => !decide (48 ≤ c ∧ c ≤ 57) | _ => true) = ((rest.filter fun c => !decide (48 ≤ c ∧ c ≤ 57)).map fun c => [c]).map D.str := by
          rw [List.filter_map, List.map_map]; rfl
        simp only [e]
        rw [eq_nilD (pls_strs _) (Nat.le_trans (dps_strs _) (by decide))]
        simp only [List.map_eq_nil_iff]
        congr 3
        rw [Bool.eq_iff_iff]
        simp [List.filter_eq_nil_iff]
      · obtain ⟨c, _, rfl⟩ := List.mem_map.mp hd
        have key : (c ∈ ([48, 49, 50, 51, 52, 53, 54, 55, 56, 57] : List Nat)) ↔ (48 ≤ c ∧ c ≤ 57) := by simp; omega
        simp only [List.set_cons_succ, List.set_cons_zero, r_tv, r_eOp, r_eV, r_eC, bind_m, List.getElem?_cons_succ, List.getElem?_cons_zero, inG, if_true, decide_eq_decide.mpr key]
  by_cases hc : s.take 1 = [45]
  · have k := key (s.drop 1) (by simp; omega)
    simp only [figs, if_pos hc]
    simp [slG, c1, c2, hc, -r_eAnd]
    rw [List.drop_one] at k
    rw [k]
    simp
  · have k := key s h
    simp only [figs, if_neg hc]
    simp [slG, c1, c2, hc, -r_eAnd]
    rw [k]
    simp
def clo (p : Page) (c k : Nat) : Bool := match p[k]? with
  | some r => decide (c + 1 < r.length)
  | none => false
theorem clo_out {p : Page} {c k : Nat} (h : p.length ≤ k) : clo p c k = false := by
  unfold clo; rw [List.getElem?_eq_none h]
theorem clo_at {p : Page} {c k : Nat} {r : Row} (h : p[k]? = some r) : clo p c k = decide (c + 1 < r.length) := by
  unfold clo; rw [h]
theorem clo_row {p : Page} {c k : Nat} (h : clo p c k = true) : ∃ r, p[k]? = some r ∧ c + 1 < r.length := by
  unfold clo at h
  cases e : p[k]? with
  | none => rw [e] at h; cases h
  | some r => rw [e] at h; exact ⟨r, rfl, of_decide_eq_true h⟩
def rEnd (f : Nat → Bool) : Nat → Nat → Nat
  | 0, k => k
  | n + 1, k => if f k = true then rEnd f n (k + 1) else k
/-- where the run that holds k ends -/
def endOf (p : Page) (c k : Nat) : Nat := rEnd (clo p c) (p.length - k) k
theorem rEnd_eq {f : Nat → Bool} : ∀ {n k e : Nat}, k ≤ e → e ≤ k + n → (∀ j, k ≤ j → j < e → f j = true) → f e = false → rEnd f n k = e
  | 0, k, e, h1, h2, _, _ => by unfold rEnd; omega
  | n + 1, k, e, h1, h2, h3, h4 => by
    unfold rEnd
    by_cases h : k = e
    · subst h; rw [if_neg (by simp [h4])]
    · rw [if_pos (h3 k (Nat.le_refl _) (by omega))]
      exact rEnd_eq (by omega) (by omega) (fun j a b => h3 j (by omega) b) h4
theorem rEnd_ok {f : Nat → Bool} : ∀ {n k : Nat}, f (k + n) = false → k ≤ rEnd f n k ∧ rEnd f n k ≤ k + n ∧ (∀ j, k ≤ j → j < rEnd f n k → f j = true) ∧ f (rEnd f n k) = false
  | 0, k, h => by
    unfold rEnd
    exact ⟨Nat.le_refl _, Nat.le_refl _, fun j a b => by omega, h⟩
  | n + 1, k, h => by
    unfold rEnd
    by_cases hk : f k = true
    · rw [if_pos hk]
      obtain ⟨a, b, c, d⟩ := rEnd_ok (f := f) (n := n) (k := k + 1) (by rw [show k + 1 + n = k + (n + 1) by omega]; exact h)
      refine ⟨by omega, by omega, fun j x y => ?_, d⟩
      by_cases z : j = k
      · subst z; exact hk
      · exact c j (by omega) y
    · rw [if_neg hk]
      exact ⟨Nat.le_refl _, by omega, fun j a b => by omega, by simpa using hk⟩
theorem endOf_ok {p : Page} {c k : Nat} (h : k ≤ p.length) : k ≤ endOf p c k ∧ endOf p c k ≤ p.length ∧ (∀ j, k ≤ j → j < endOf p c k → clo p c j = true) ∧ clo p c (endOf p c k) = false := by
  have := rEnd_ok (f := clo p c) (n := p.length - k) (k := k) (clo_out (by omega))
  rw [show k + (p.length - k) = p.length by omega] at this
  exact this
theorem endOf_eq {p : Page} {c k e : Nat} (h : k ≤ e) (h2 : e ≤ p.length) (h3 : ∀ j, k ≤ j → j < e → clo p c j = true) (h4 : clo p c e = false) : endOf p c k = e := rEnd_eq h (by omega) h3 h4
/-- a run begins at k -/
def isB (p : Page) (c k : Nat) : Bool := clo p c k && (k == 0 || !clo p c (k - 1))
/-- begins ahead of n -/
def begs (p : Page) (c n : Nat) : List Nat := (List.range n).filter (isB p c)
theorem begs_succ (p : Page) (c n : Nat) : begs p c (n + 1) = begs p c n ++ (if isB p c n = true then [n] else []) := by
  unfold begs
  rw [List.range_succ, List.filter_append]
  congr 1
  cases h : isB p c n <;> simp [h]
/-- a stretch: its column, begin, end -/
structure Stt where
  c : Nat
  b : Nat
  e : Nat
def sttOf (p : Page) (c b : Nat) : Stt := ⟨c, b, endOf p c b⟩
def sttsC (p : Page) (c : Nat) : List Stt := (begs p c p.length).map (sttOf p c)
def stts (p : Page) : List Stt := (List.range 5).flatMap (sttsC p)
def cellAt (p : Page) (k c : Nat) : List Nat := (p.getD k []).getD c []
def cellsOf (p : Page) (s : Stt) : List (List Nat) := (List.range (s.e - s.b)).map fun k => cellAt p (s.b + k) s.c
/-- a stretch of the page -/
structure Stt.Of (p : Page) (s : Stt) : Prop where
  c4 : s.c < 5
  lt : s.b < s.e
  le : s.e ≤ p.length
  clo : ∀ j, s.b ≤ j → j < s.e → clo p s.c j = true
  fin : Dl.clo p s.c s.e = false
  beg : isB p s.c s.b = true
theorem begs_mem {p : Page} {c n b : Nat} (h : b ∈ begs p c n) : b < n ∧ isB p c b = true := by
  unfold begs at h
  rw [List.mem_filter, List.mem_range] at h
  exact h
theorem stts_mem {p : Page} {s : Stt} (h : s ∈ stts p) : s.Of p := by
  unfold stts at h
  rw [List.mem_flatMap] at h
  obtain ⟨c, hc, h⟩ := h
  obtain ⟨b, hb, rfl⟩ := List.mem_map.mp h
  obtain ⟨h1, h2⟩ := begs_mem hb
  have e := endOf_ok (p := p) (c := c) (k := b) (by omega)
  have hb : clo p c b = true := by simp only [isB, Bool.and_eq_true] at h2; exact h2.1
  have hne : b ≠ endOf p c b := fun z => by rw [← z, hb] at e; cases e.2.2.2
  exact ⟨List.mem_range.mp hc, by show b < endOf p c b; omega, e.2.1, e.2.2.1, e.2.2.2, h2⟩
end Dl
namespace Dl
open PySem L2
@[simp high] theorem low0 : ((-1000000 : Int) ≤ 0) = True := eq_true (by decide)
@[simp high] theorem hi0 : ((0 : Int) ≤ 1000000) = True := eq_true (by decide)
section
variable (env : Env) (st : Store)
@[simp] theorem r_eMake (c n : Nat) (g : FV) (ga : AV) : eMake c n g ga env st = (ga env st).bind fun a => if a.1.length + 1 = n then (g (.ref a.2.length :: a.1) (a.2 ++ [.ins c []])).bind fun b => match b.1 with
  | .non => .ok (.ref a.2.length, b.2)
  | _ => .bad else .bad := rfl
@[simp] theorem r_eMeth (c : Nat) (m : Str) (n : Nat) (g : FV) (fo : EV) (ga : AV) : eMeth c m n g fo ga env st = (fo env st).bind fun o => match o.1 with
  | .ref i => match o.2[i]? with
    | some (.ins c' fs) => if c' = c ∧ fs.lookup m = none then (ga env o.2).bind fun a => if a.1.length + 1 = n then g (.ref i :: a.1) a.2 else .bad else .bad
    | _ => .bad
  | _ => .bad := rfl
@[simp] theorem r_sFldD (c : Nat) (f : Str) (fo fv : EV) : sFldD c f fo fv env st = sOf (fv env st) fun v => sOf (fo env v.2) fun o => match o.1 with
  | .ref i => match o.2[i]? with
    | some (.ins c' fs) => if c' = c ∧ fs.length < 900 then .nx env (o.2.set i (.ins c' (putD f v.1 fs))) else .bad
    | _ => .bad
  | _ => .bad := rfl
end
def stFs (s : Stt) (cells : List (List Nat)) : List (Str × D) := [("column", .int s.c), ("begin", .int s.b), ("end", .int s.e), ("cells", .lst (cells.map .str))]
def stOb (p : Page) (s : Stt) : Ob := .ins 12 (stFs s (cellsOf p s))
theorem st_col (s : Stt) (cells : List (List Nat)) : (stFs s cells).lookup ("column" : Str) = some (.int s.c) := by
  unfold stFs
  rw [List.lookup_cons, show (("column" : Str) == "column") = true by decide +kernel]
theorem st_beg (s : Stt) (cells : List (List Nat)) : (stFs s cells).lookup ("begin" : Str) = some (.int s.b) := by
  unfold stFs
  rw [List.lookup_cons, show (("begin" : Str) == "column") = false by decide +kernel, List.lookup_cons, show (("begin" : Str) == "begin") = true by decide +kernel]
theorem st_end (s : Stt) (cells : List (List Nat)) : (stFs s cells).lookup ("end" : Str) = some (.int s.e) := by
  unfold stFs
  rw [List.lookup_cons, show (("end" : Str) == "column") = false by decide +kernel, List.lookup_cons, show (("end" : Str) == "begin") = false by decide +kernel, List.lookup_cons, show (("end" : Str) == "end") = true by decide +kernel]
theorem st_cells (s : Stt) (cells : List (List Nat)) : (stFs s cells).lookup ("cells" : Str) = some (.lst (cells.map .str)) := by
  unfold stFs
  rw [List.lookup_cons, show (("cells" : Str) == "column") = false by decide +kernel, List.lookup_cons, show (("cells" : Str) == "begin") = false by decide +kernel, List.lookup_cons, show (("cells" : Str) == "end") = false by decide +kernel, List.lookup_cons, show (("cells" : Str) == "cells") = true by decide +kernel]
theorem st_no {m : Str} (s : Stt) (cells : List (List Nat)) (h1 : (m == "column") = false) (h2 : (m == "begin") = false) (h3 : (m == "end") = false) (h4 : (m == "cells") = false) : (stFs s cells).lookup m = none := by
  unfold stFs
  rw [List.lookup_cons, h1, List.lookup_cons, h2, List.lookup_cons, h3, List.lookup_cons, h4]; rfl
theorem st_width (s : Stt) (cells : List (List Nat)) : (stFs s cells).lookup ("width" : Str) = none := st_no s cells (by decide +kernel) (by decide +kernel) (by decide +kernel) (by decide +kernel)
theorem st_right (s : Stt) (cells : List (List Nat)) : (stFs s cells).lookup ("is_right" : Str) = none := st_no s cells (by decide +kernel) (by decide +kernel) (by decide +kernel) (by decide +kernel)
theorem put_st (a b c d : D) : putD "cells" d (putD "end" c (putD "begin" b (putD "column" a []))) = ([("column", a), ("begin", b), ("end", c), ("cells", d)] : List (Str × D)) := by
  simp only [putD, show ¬ (("column" : Str) = "begin") by decide +kernel, show ¬ (("column" : Str) = "end") by decide +kernel, show ¬ (("column" : Str) = "cells") by decide +kernel, show ¬ (("begin" : Str) = "end") by decide +kernel, show ¬ (("begin" : Str) = "cells") by decide +kernel, show ¬ (("end" : Str) = "cells") by decide +kernel, if_false]
theorem put_len (f : Str) (v : D) : ∀ l : List (Str × D), (putD f v l).length ≤ l.length + 1
  | [] => by simp [putD]
  | (g, u) :: r => by
    unfold putD
    split
    · simp
    · simp only [List.length_cons]; have := put_len f v r; omega
def m_Stretch_init : FV := funD 4 d_Stretch_init
theorem Stretch_init_ok (st : Store) (c b : Nat) (cells : List (List Nat)) : m_Stretch_init [.ref st.length, .int c, .int b, .lst (cells.map .str)] (st ++ [.ins 12 []]) = .ok (.non, st ++ [.ins 12 (stFs ⟨c, b, b + cells.length⟩ cells)]) := by
  unfold m_Stretch_init funD d_Stretch_init
  have l1 := put_len "column" (.int c) []
  have l2 := put_len "begin" (.int b) (putD "column" (.int c) [])
  have l3 := put_len "end" (.int (b + cells.length)) (putD "begin" (.int b) (putD "column" (.int c) []))
  have z : ([] : List (Str × D)).length = 0 := rfl
  rw [z] at l1
  have q1 : (putD "column" (D.int c) []).length < 900 := by omega
  have q2 : (putD "begin" (D.int b) (putD "column" (.int c) [])).length < 900 := by omega
  have q3 : (putD "end" (D.int (b + cells.length)) (putD "begin" (.int b) (putD "column" (.int c) []))).length < 900 := by omega
  clear l1 l2 l3 z
  have pe := put_st (.int c) (.int b) (.int (b + cells.length)) (.lst (cells.map .str))
  simp [addG, lenG, lstOf, q1, q2, q3, pe, stFs]
/-- the references from k on -/
def refs (k n : Nat) : List D := (List.range n).map fun i => .ref (k + i)
theorem refs_succ (k n : Nat) : refs k (n + 1) = refs k n ++ [.ref (k + n)] := by
  unfold refs; rw [List.range_succ, List.map_append]; rfl
@[simp] theorem refs_len (k n : Nat) : (refs k n).length = n := by simp [refs]
def m_stretches_of : FV := funD 9 (d_stretches_of m_Stretch_init)
theorem cellsOf_len (p : Page) (s : Stt) : (cellsOf p s).length = s.e - s.b := by simp [cellsOf]
theorem st_test {p : Page} {d : D} {w : List (Nat × List D)} {S : Store} (hd : listOf S d = some (encP p, w)) (c i : Nat) (a2 a4 a5 a7 a8 : Option D) :
    (eAnd (eOp ltG (eV 6) (eV 3)) (eOp gtG (eB lenG (aCons (eOp ixG (eV 0) (eV 6)) (aNil))) (eOp (addG false) (eV 1) (eC (.int 1)))))
      [some d, some (.int c), a2, some (.int p.length), a4, a5, some (.int i), a7, a8] S = .ok (.bl (clo p c i), S) := by
  by_cases hl : i < p.length
  · obtain ⟨r, hr⟩ : ∃ r, p[i]? = some r := ⟨p[i], by simp [hl]⟩
    have ei : atI (encP p) (i : Int) = some (encR r) := by rw [atI_nat]; simp [encP, hr]
    have hcl : decide ((c : Int) + 1 < (r.length : Int)) = clo p c i := by
      rw [clo_at hr]
      exact decide_eq_decide.mpr (by omega)
    simp [ltG, hl, ix_list hd, ei, addG, gtG]
    simp [encR, lenG, hcl]
  · rw [clo_out (by omega)]
    simp [ltG, hl]
theorem st_made {p : Page} (hp : okPage p = true) {d : D} {w : List (Nat × List D)} {S : Store} (hd : listOf S d = some (encP p, w)) (c b i L : Nat) (rs : List D) (hL : S[L]? = some (.lst rs)) (hrs : rs.length < 100) (hb : b < i) (hi : i ≤ p.length) (hcl : ∀ j, b ≤ j → j < i → clo p c j = true) (a2 a3 a7 a8 : Option D) :
    (sCons (sExpr (eMt "list" (appendG) (eV 4) (aCons (eMake 12 4 m_Stretch_init (aCons (eV 1) (aCons (eV 5) (aCons (eLc false (iR2 (aCons (eV 5) (aCons (eV 6) (aNil)))) [8] (.one 8) (tYesD) (eOp ixG (eOp ixG (eV 0) (eV 8)) (eV 1))) (aNil))))) (aNil)))) (sAsg (eC .non) (gN 5)))
      [some d, some (.int c), a2, a3, some (.ref L), some (.int b), some (.int i), a7, a8] S = .nx [some d, some (.int c), a2, a3, some (.ref L), some .non, some (.int i), a7, a8] ((S ++ [stOb p ⟨c, b, i⟩]).set L (.lst (rs ++ [.ref S.length]))) := by
  obtain ⟨p1, p2, p3⟩ := okPage_parts hp
  have tm : tyM S (.ref L) = some "list" := by simp [tyM, hL]
  have mb : (-1000000 ≤ (b : Int) ∧ (b : Int) ≤ 1000000) ∧ -1000000 ≤ (i : Int) ∧ (i : Int) ≤ 1000000 := by omega
  have hl : i - b ≤ LIM := le_LIM (by omega)
  have en : ((i : Int) - (b : Int)).toNat = i - b := by omega
  rw [r_sCons, r_sExpr]
  simp only [eMt, r_eV, List.getElem?_cons_succ, List.getElem?_cons_zero, R.bind_ok, tm, if_true, r_aCons, r_aNil, r_eMake, r_eLc, r_iR2, mb, and_self, en, lcS_ok, intsD_len, hl, wipe_cons, wipe_nil, List.set_cons_succ, List.set_cons_zero]
  generalize q : lcGo _ _ _ _ _ _ _ _ = r
  obtain ⟨acc, s, rfl, rfl, rfl⟩ := lc_at q (fun j acc st' => S = st' ∧ acc = ((List.range j).map fun k => cellAt p (b + k) c).map D.str) ⟨rfl, rfl⟩ (fun _ _ _ _ _ => rfl) (fun j x acc st' hj ⟨e1, e2⟩ => by
    subst e1 e2
    have hj' := (List.getElem?_eq_some_iff.mp hj).1
    rw [intsD_len] at hj'
    rw [ints_at _ _ _ hj'] at hj
    cases hj
    obtain ⟨r, hr, hc⟩ := clo_row (hcl (b + j) (by omega) (by omega))
    have ei : atI (encP p) ((b : Int) + (j : Int)) = some (encR r) := by
      rw [show (b : Int) + (j : Int) = ((b + j : Nat) : Int) by omega, atI_nat]; simp [encP, hr]
    have ec : atI (r.map D.str) (c : Int) = some (.str (cellAt p (b + j) c)) := by
      rw [atI_nat]
      simp [cellAt, hr, show c < r.length by omega]
    refine ⟨_, rfl, ?_⟩
    simp [ix_list hd, ei]
    simp [ixG, encR, ec, List.range_succ])
  have ini := Stretch_init_ok S c b ((List.range (i - b)).map fun k => cellAt p (b + k) c)
  have e1 : b + (i - b) = i := by omega
  rw [List.length_map, List.length_range, e1] at ini
  have eo : Ob.ins 12 (stFs ⟨c, b, i⟩ ((List.range (i - b)).map fun k => cellAt p (b + k) c)) = stOb p ⟨c, b, i⟩ := rfl
  rw [eo] at ini
  have hL' : (S ++ [stOb p ⟨c, b, i⟩])[L]? = some (.lst rs) := Stays.app _ _ _ _ hL
  have hrl : rs.length < LIM := lt_LIM (by omega)
  rw [intsD_len]
  simp only [R.bind_ok, r_newF, List.length_cons, List.length_nil, if_true, ini]
  simp [appendG, hL', hrl]
theorem stretches_of_ok {p : Page} (hp : okPage p = true) {d : D} {w : List (Nat × List D)} {st : Store} (hd : listOf st d = some (encP p, w)) (c : Nat) (hc : c < 5) :
    m_stretches_of [d, .int c, .int 0, .int p.length] st = .ok (.ref st.length, st ++ .lst (refs (st.length + 1) (sttsC p c).length) :: (sttsC p c).map (stOb p)) := by
  rw [m_stretches_of, funD, d_stretches_of]
  obtain ⟨p1, p2, p3⟩ := okPage_parts hp
  have m1 : -1000000 ≤ (p.length : Int) + 1 ∧ (p.length : Int) + 1 ≤ 1000000 := by omega
  have e1 : ((p.length : Int) + 1).toNat = p.length + 1 := by omega
  simp [addG, m1, e1]
  generalize q : forGo _ _ _ _ _ _ = r
  obtain ⟨e, s, rfl, Bs, first, a6, a7, a8, rfl, rfl, hI⟩ := for_at q (fun i env st' => ∃ (Bs : List Nat) (first a6 a7 a8 : Option D), st' = st ++ .lst (refs (st.length + 1) Bs.length) :: (Bs.map (sttOf p c)).map (stOb p) ∧
      env = [some d, some (.int c), some (.int 0), some (.int p.length), some (.ref st.length), first, a6, a7, a8] ∧
      ((first = some .non ∧ Bs = begs p c i ∧ (i = 0 ∨ clo p c (i - 1) = false)) ∨ ∃ b : Nat, first = some (.int (b : Int)) ∧ begs p c i = Bs ++ [b] ∧ b < i ∧ ∀ j, b ≤ j → j < i → clo p c j = true))
    ⟨[], _, _, _, _, by simp [refs], rfl, .inl ⟨rfl, rfl, .inl rfl⟩⟩ (fun _ _ _ _ _ => rfl) (fun i x env st' hi ⟨Bs, first, a6, a7, a8, e1, e2, hI⟩ => by
      subst e1 e2
      obtain ⟨hi, rfl⟩ := ints_get hi
      have hd' : listOf (st ++ .lst (refs (st.length + 1) Bs.length) :: (Bs.map (sttOf p c)).map (stOb p)) d = some (encP p, w) := listOf_stays (Stays.app _ _) hd
      simp only [r_gN, sOf_ok, r_sCons, List.set_cons_succ, List.set_cons_zero, r_sAsg]
      rw [st_test hd']
      have hBl : ∀ n, (begs p c n).length ≤ n := fun n => by
        unfold begs
        exact Nat.le_trans (List.length_filter_le _ _) (by simp)
      rcases hI with ⟨rfl, hB, h0⟩ | ⟨b, rfl, hB, hb, hcl⟩
      · cases hc : clo p c i with
        | true =>
          have hi : isB p c i = true := by
            rcases h0 with h0 | h0
            · subst h0; simp [isB, hc]
            · simp [isB, hc, h0]
          simp [isG]
          exact ⟨Bs, ⟨rfl, rfl⟩, i, rfl, by rw [begs_succ, hi, hB]; rfl, by omega, fun j h1 h2 => by rw [show j = i by omega]; exact hc⟩
        | false =>
          have hi : isB p c i = false := by simp [isB, hc]
          simp [isG]
          exact ⟨Bs, ⟨rfl, rfl⟩, by rw [begs_succ, hi, hB]; simp, hc⟩
      · cases hc : clo p c i with
        | true =>
          have hi : isB p c i = false := by
            have := hcl (i - 1) (by omega) (by omega)
            simp [isB, hc, this]
            omega
          simp [isG]
          refine ⟨Bs, ⟨rfl, rfl⟩, b, rfl, by rw [begs_succ, hi, hB]; simp, by omega, fun j h1 h2 => ?_⟩
          by_cases z : j = i
          · rw [z]; exact hc
          · exact hcl j h1 (by omega)
        | false =>
          have hi : isB p c i = false := by simp [isB, hc]
          have hlen := hBl i
          rw [hB] at hlen
          simp at hlen
          have made := st_made (S := st ++ .lst (refs (st.length + 1) Bs.length) :: (Bs.map (sttOf p c)).map (stOb p)) hp hd' c b i st.length (refs (st.length + 1) Bs.length) (by simp) (by simp; omega) hb (by omega) hcl (some (.int 0)) (some (.int p.length)) (some (.bl false)) a8
          have en : endOf p c b = i := endOf_eq (by omega) (by omega) hcl hc
          rw [sOf_ok, then_nx, r_sCons, r_sIf]
          simp only [r_tAndD, r_tNotD, r_tv, r_eV, r_eOp, r_eC, isG, List.getElem?_cons_succ, List.getElem?_cons_zero, R.bind_ok, ifS_ok, r_sNext, then_nx, r_sIf, if_true, Bool.false_eq_true, if_false, Bool.not_false, Bool.not_true]
          rw [made, turn_nx]
          refine ⟨Bs ++ [b], _, _, _, _, ?_, rfl, .inl ⟨rfl, by rw [begs_succ, hi, hB]; simp, .inr (by simpa using hc)⟩⟩
          have eL : (st ++ Ob.lst (refs (st.length + 1) Bs.length) :: List.map (stOb p) (List.map (sttOf p c) Bs)).length = st.length + 1 + Bs.length := by simp; omega
          rw [eL, ← refs_succ, List.append_assoc, List.set_append_right _ _ (Nat.le_refl _)]
          simp [sttOf, en])
  rw [intsD_len] at hI
  have last : begs p c (p.length + 1) = begs p c p.length := by
    rw [begs_succ, show isB p c p.length = false by simp [isB, clo_out (p := p) (c := c) (Nat.le_refl _)]]
    simp
  rcases hI with ⟨_, hB, _⟩ | ⟨b, _, _, hb, hcl⟩
  · rw [last] at hB
    subst hB
    simp [sttsC]
  · have := hcl p.length (by omega) (by omega)
    rw [clo_out (Nat.le_refl _)] at this
    cases this
end Dl
namespace Dl
open PySem L2
/-- d is the stretch s of p in the store -/
def IsSt (p : Page) (st : Store) (d : D) (s : Stt) : Prop := ∃ k : Nat, d = .ref k ∧ st[k]? = some (stOb p s)
theorem isSt_refs (p : Page) : ∀ (ss : List Stt) (k : Nat) (st : Store), (∀ i, i < ss.length → st[k + i]? = (ss.map (stOb p))[i]?) → All2 (IsSt p st) (refs k ss.length) ss
  | [], k, st, _ => trivial
  | s :: ss, k, st, h => by
    have e : refs k (s :: ss).length = .ref k :: refs (k + 1) ss.length := by
      unfold refs
      rw [List.length_cons, List.range_succ_eq_map, List.map_cons, List.map_map]
      congr 1
      refine List.map_congr_left fun a _ => ?_
      show D.ref (k + (a + 1)) = D.ref (k + 1 + a)
      congr 1; omega
    rw [e]
    refine ⟨⟨k, rfl, by have := h 0 (by simp); simpa using this⟩, isSt_refs p ss (k + 1) st fun i hi => ?_⟩
    have := h (i + 1) (by simp; omega)
    rw [show k + 1 + i = k + (i + 1) by omega, this]
    simp
theorem IsSt.stays {p : Page} {st st' : Store} (h : ∀ (k : Nat) (fs : List (Str × D)), st[k]? = some (.ins 12 fs) → st'[k]? = some (.ins 12 fs)) {d : D} {s : Stt} (x : IsSt p st d s) : IsSt p st' d s :=
  let ⟨k, a, b⟩ := x; ⟨k, a, h k _ b⟩
def m_all_stretches : FV := funD 3 (d_all_stretches m_stretches_of)
theorem sttsC_le (p : Page) (c : Nat) : (sttsC p c).length ≤ p.length := by
  unfold sttsC begs
  rw [List.length_map]
  exact Nat.le_trans (List.length_filter_le _ _) (by simp)
theorem flat_le (p : Page) : ∀ i, ((List.range i).flatMap (sttsC p)).length ≤ p.length * i
  | 0 => by simp
  | i + 1 => by
    have h1 := flat_le p i
    have h2 := sttsC_le p i
    rw [List.range_succ, List.flatMap_append, List.length_append, Nat.mul_succ]
    simp only [List.flatMap_cons, List.flatMap_nil, List.append_nil]
    omega
theorem all_stretches_ok {p : Page} (hp : okPage p = true) {d : D} {w : List (Nat × List D)} {st : Store} (hd : listOf st d = some (encP p, w)) :
    ∃ R more, m_all_stretches [d] st = .ok (.ref st.length, st ++ .lst R :: more) ∧ All2 (IsSt p (st ++ .lst R :: more)) R (stts p) := by
  rw [m_all_stretches, funD, d_all_stretches]
  obtain ⟨p1, p2, p3⟩ := okPage_parts hp
  simp [subG, show (5 : Int).toNat = 5 from rfl]
  generalize q : forGo _ _ _ _ _ _ = r
  obtain ⟨e, s, rfl, R, more, a2, rfl, rfl, hR⟩ := for_at q (fun i env st' => ∃ R more a2, st' = st ++ .lst R :: more ∧ env = [some d, some (.ref st.length), a2] ∧ All2 (IsSt p st') R ((List.range i).flatMap (sttsC p)))
    ⟨[], [], _, rfl, rfl, trivial⟩ (fun _ _ _ _ _ => rfl) (fun i x env st' hi ⟨R, more, a2, e1, e2, hR⟩ => by
      subst e1 e2
      obtain ⟨hi, rfl⟩ := ints_get hi
      have hd' : listOf (st ++ .lst R :: more) d = some (encP p, w) := listOf_stays (Stays.app _ _) hd
      have so := stretches_of_ok hp hd' i (by omega)
      have ln := len_list hd'
      simp only [encP_len] at ln
      have Rl : R.length ≤ 30 * i := by
        rw [hR.len]
        exact Nat.le_trans (flat_le p i) (Nat.mul_le_mul_right _ p2)
      have lm : R.length + (sttsC p i).length ≤ LIM := le_LIM (by have := sttsC_le p i; omega)
      have t1 : (st ++ .lst R :: more ++ .lst (refs ((st ++ .lst R :: more).length + 1) (sttsC p i).length) :: (sttsC p i).map (stOb p))[st.length]? = some (.lst R) := by simp
      have t2 : lstOf (st ++ .lst R :: more ++ .lst (refs ((st ++ .lst R :: more).length + 1) (sttsC p i).length) :: (sttsC p i).map (stOb p)) (.ref (st ++ .lst R :: more).length) = some (refs ((st ++ .lst R :: more).length + 1) (sttsC p i).length) := by simp [lstOf]
      have t3 : (st ++ .lst R :: more ++ .lst (refs ((st ++ .lst R :: more).length + 1) (sttsC p i).length) :: (sttsC p i).map (stOb p)).set st.length (.lst (R ++ refs ((st ++ .lst R :: more).length + 1) (sttsC p i).length)) = st ++ .lst (R ++ refs ((st ++ .lst R :: more).length + 1) (sttsC p i).length) :: (more ++ .lst (refs ((st ++ .lst R :: more).length + 1) (sttsC p i).length) :: (sttsC p i).map (stOb p)) := by simp
      have tm : tyM (st ++ .lst R :: more) (.ref st.length) = some "list" := by simp [tyM]
      have ex : extendG (st ++ .lst R :: more ++ .lst (refs ((st ++ .lst R :: more).length + 1) (sttsC p i).length) :: (sttsC p i).map (stOb p)) (.ref st.length) [.ref (st ++ .lst R :: more).length] = .ok (.non, st ++ .lst (R ++ refs ((st ++ .lst R :: more).length + 1) (sttsC p i).length) :: (more ++ .lst (refs ((st ++ .lst R :: more).length + 1) (sttsC p i).length) :: (sttsC p i).map (stOb p))) := by
        unfold extendG
        simp only [t1, t2, refs_len, lm, if_true, t3]
      have nx : All2 (IsSt p (st ++ .lst (R ++ refs ((st ++ .lst R :: more).length + 1) (sttsC p i).length) :: (more ++ .lst (refs ((st ++ .lst R :: more).length + 1) (sttsC p i).length) :: (sttsC p i).map (stOb p)))) (R ++ refs ((st ++ .lst R :: more).length + 1) (sttsC p i).length) ((List.range (i + 1)).flatMap (sttsC p)) := by
        have h1 : All2 (IsSt p (st ++ .lst (R ++ refs ((st ++ .lst R :: more).length + 1) (sttsC p i).length) :: (more ++ .lst (refs ((st ++ .lst R :: more).length + 1) (sttsC p i).length) :: (sttsC p i).map (stOb p)))) R ((List.range i).flatMap (sttsC p)) := by
          refine hR.imp fun a b x => x.stays fun k fs e => ?_
          rw [← t3, List.getElem?_set_ne (by intro z; rw [← z] at e; simp at e)]
          rw [List.getElem?_append_left (List.getElem?_eq_some_iff.mp e).1]; exact e
        have h2 : All2 (IsSt p (st ++ .lst (R ++ refs ((st ++ .lst R :: more).length + 1) (sttsC p i).length) :: (more ++ .lst (refs ((st ++ .lst R :: more).length + 1) (sttsC p i).length) :: (sttsC p i).map (stOb p)))) (refs ((st ++ .lst R :: more).length + 1) (sttsC p i).length) (sttsC p i) := by
          refine isSt_refs p _ _ _ fun j hj => ?_
          rw [← t3, List.getElem?_set_ne (by simp; omega), List.getElem?_append_right (by omega), show (st ++ .lst R :: more).length + 1 + j - (st ++ .lst R :: more).length = j + 1 by omega]
          rfl
        rw [List.range_succ, List.flatMap_append]
        simp only [List.flatMap_cons, List.flatMap_nil, List.append_nil]
        exact All2.app h1 h2
      generalize st ++ .lst R :: more = S at so ln tm ex nx
      simp [so, ln, tm, ex]
      exact nx)
  rw [intsD_len] at hR
  simp
  exact ⟨R, more, ⟨rfl, rfl⟩, hR⟩
end Dl
namespace Dl
open PySem L2
/-- the longest cell -/
def most (ss : List (List Nat)) : Int := maxL (ss.map fun s => (s.length : Int))
def wid (y : Sty) (ss : List (List Nat)) : Int := max y.l (most ss + y.g)
def right (ss : List (List Nat)) : Bool := decide (ss.filter (fun s => decide (s ≠ [])) ≠ []) && (ss.filter fun s => decide (s ≠ [])).all figs
/-- a stretch's object in the store -/
def StAt (p : Page) (st : Store) (k : Nat) (s : Stt) : Prop := st[k]? = some (stOb p s)
theorem fld_cells {p : Page} {st : Store} {k : Nat} {s : Stt} (h : StAt p st k s) (env : Env) (i : Nat) (hi : env[i]? = some (some (.ref k))) : eFld 12 "cells" (eV i) env st = .ok (.lst ((cellsOf p s).map .str), st) := by
  unfold StAt stOb at h
  simp only [eFld, r_eV, hi, R.bind_ok, h, if_true, st_cells]
theorem fld_begin {p : Page} {st : Store} {k : Nat} {s : Stt} (h : StAt p st k s) (env : Env) (i : Nat) (hi : env[i]? = some (some (.ref k))) : eFld 12 "begin" (eV i) env st = .ok (.int s.b, st) := by
  unfold StAt stOb at h
  simp only [eFld, r_eV, hi, R.bind_ok, h, if_true, st_beg]
theorem fld_end {p : Page} {st : Store} {k : Nat} {s : Stt} (h : StAt p st k s) (env : Env) (i : Nat) (hi : env[i]? = some (some (.ref k))) : eFld 12 "end" (eV i) env st = .ok (.int s.e, st) := by
  unfold StAt stOb at h
  simp only [eFld, r_eV, hi, R.bind_ok, h, if_true, st_end]
theorem fld_column {p : Page} {st : Store} {k : Nat} {s : Stt} (h : StAt p st k s) (env : Env) (i : Nat) (hi : env[i]? = some (some (.ref k))) : eFld 12 "column" (eV i) env st = .ok (.int s.c, st) := by
  unfold StAt stOb at h
  simp only [eFld, r_eV, hi, R.bind_ok, h, if_true, st_col]
theorem cells_fit {p : Page} {s : Stt} (hp : okPage p = true) (hs : s.Of p) : (cellsOf p s).length ≤ 30 ∧ cellsOf p s ≠ [] ∧ ∀ c ∈ cellsOf p s, okCell c = true := by
  obtain ⟨p1, p2, p3⟩ := okPage_parts hp
  have h1 := hs.lt
  have h2 := hs.le
  refine ⟨by rw [cellsOf_len]; omega, fun z => by have := cellsOf_len p s; rw [z] at this; simp at this; omega, fun c hc => ?_⟩
  obtain ⟨k, hk, rfl⟩ := List.mem_map.mp hc
  rw [List.mem_range] at hk
  obtain ⟨r, hr, hl⟩ := clo_row (hs.clo (s.b + k) (by omega) (by omega))
  have hrow := okRow_parts (p3 r (List.mem_of_getElem? hr))
  have e : cellAt p (s.b + k) s.c = r[s.c] := by
    simp [cellAt, hr, show s.c < r.length by omega]
  rw [e]
  exact hrow.2.2 _ (by simp)
/-- the lengths of the cells, by a comprehension -/
theorem lens_ok (ss : List (List Nat)) (env : Env) (j : Nat) (hj : j < env.length) (st : Store) : lcGo [] (.one j) tYesD (eB lenG (aCons (eV j) (aNil))) env (ss.map D.str) [] st = .ok ((ss.map fun s => (s.length : Int)).map D.int, st) := by
  rw [lc_map rfl (fun d => match d with | .str s => .int s.length | _ => .non) _ fun d hd => ?_]
  · rw [List.map_map, List.map_map]; rfl
  · obtain ⟨s, _, rfl⟩ := List.mem_map.mp hd
    exact ⟨_, rfl, by simp [hj, lenG]⟩
@[simp] theorem maxG2 (a b : Int) (st : Store) : maxG st [.int a, .int b] = .ok (.int (max a b), st) := (rfl)
@[simp] theorem minG2 (a b : Int) (st : Store) : minG st [.int a, .int b] = .ok (.int (min a b), st) := (rfl)
theorem most_ok (ss : List (List Nat)) (h : ss ≠ []) (st : Store) : maxG st [.lst (ss.map (D.int ∘ fun s => (s.length : Int)))] = .ok (.int (most ss), st) := by
  rw [← List.map_map]
  have ne : ss.map (fun s => (s.length : Int)) ≠ [] := by simpa using h
  unfold maxG
  simp only [lstOf, Option.bind_some, intsOf_map, if_pos ne, most]
def m_Stretch_width : FV := funD 3 d_Stretch_width
theorem width_ok {p : Page} (hp : okPage p = true) {s : Stt} (hs : s.Of p) {st : Store} {k : Nat} (h : StAt p st k s) (y : Sty) : m_Stretch_width [.ref k, y.enc] st = .ok (.int (wid y (cellsOf p s)), st) := by
  rw [m_Stretch_width, funD, d_Stretch_width]
  obtain ⟨c1, c2, c3⟩ := cells_fit hp hs
  have f := fld_cells h [some (.ref k), some (.tup [.int y.g, .int y.l]), none] 0 rfl
  have hl : (cellsOf p s).length ≤ LIM := le_LIM (by omega)
  have ln := lens_ok (cellsOf p s) [some (.ref k), some (.tup [.int y.g, .int y.l]), none] 2 (by simp) st
  have ne : (cellsOf p s).map (fun s => (s.length : Int)) ≠ [] := by simpa using c2
  simp [f, itemsOf, hl, ln, Sty.enc, ixG, -r_eFld, most_ok _ c2, addG, wid]
def m_Stretch_is_right : FV := funD 3 (d_Stretch_is_right m_is_figures)
theorem is_right_ok {p : Page} (hp : okPage p = true) {s : Stt} (hs : s.Of p) {st : Store} {k : Nat} (h : StAt p st k s) : m_Stretch_is_right [.ref k] st = .ok (.bl (right (cellsOf p s)), st) := by
  rw [m_Stretch_is_right, funD, d_Stretch_is_right]
  obtain ⟨c1, c2, c3⟩ := cells_fit hp hs
  have f := fld_cells h [some (.ref k), none, none] 0 rfl
  have hl : (cellsOf p s).length ≤ LIM := le_LIM (by omega)
  generalize cellsOf p s = ss at f hl c3 ⊢
  have l1 : lcGo [] (.one 2) (tv (eOp (eqG true) (eV 2) (eC (.str [])))) (eV 2) [some (.ref k), none, none] (ss.map D.str) [] st = .ok ((ss.filter fun s => decide (s ≠ [])).map D.str, st) := by
    rw [lc_keep rfl (fun d => match d with | .str c => decide (c ≠ []) | _ => true) _ (fun d hd => ?_) (by simp)]
    · rw [List.filter_map]; rfl
    · obtain ⟨c, _, rfl⟩ := List.mem_map.mp hd
      simp
  have hl2 : (ss.filter fun s => decide (s ≠ [])).length ≤ LIM := Nat.le_trans (List.length_filter_le _ _) hl
  have l2 : lcGo [] (.one 2) (tNotD (tv (eCall 1 m_is_figures (aCons (eV 2) (aNil))))) (eV 2) [some (.ref k), some (.lst ((ss.filter fun s => decide (s ≠ [])).map D.str)), none] ((ss.filter fun s => decide (s ≠ [])).map D.str) [] st = .ok (((ss.filter fun s => decide (s ≠ [])).filter fun s => !figs s).map D.str, st) := by
    rw [lc_keep rfl (fun d => match d with | .str c => !figs c | _ => true) _ (fun d hd => ?_) (by simp)]
    · rw [List.filter_map]; rfl
    · obtain ⟨c, hc, rfl⟩ := List.mem_map.mp hd
      have := (okCell_parts (c3 c (List.mem_filter.mp hc).1)).1
      simp [is_figures_str c (by omega)]
  unfold right
  generalize (ss.filter fun s => decide (s ≠ [])) = full at l1 l2 hl2 ⊢
  have e1 : eqG true st (.lst (full.map D.str)) (.lst []) = .ok (.bl (decide (full ≠ [])), st) := by
    rw [eqG_pl (by simp) rfl (by have := dps_strs full; simp; omega) (by simp)]
    simp
  have e2 : ∀ l : List (List Nat), eqG false st (.lst (l.map D.str)) (.lst []) = .ok (.bl (decide (l = [])), st) := fun l => by
    rw [eq_nilD (pls_strs _) (Nat.le_trans (dps_strs _) (by decide))]
    simp
  by_cases hf : full = []
  · subst hf
    have e0 : eqG true st (.lst []) (.lst []) = .ok (.bl false, st) := by simpa using e1
    simp [f, itemsOf, hl, l1, -r_eFld, e0]
  · simp [f, itemsOf, hl, l1, -r_eFld, e1, hf, hl2, l2, e2]
    rw [Bool.eq_iff_iff]
    simp [List.filter_eq_nil_iff]
end Dl
namespace Dl
open PySem L2
theorem turn_eq {r : SR} {e : Env} {s : Store} {J : Env → Store → Prop} (h : r = .nx e s) (k : J e s) : r.turn J := by rw [h]; exact k
end Dl
namespace Dl
open PySem L2
def begOf (p : Page) (c : Nat) : Nat → Nat
  | 0 => 0
  | k + 1 => if clo p c k = true then begOf p c k else k + 1
theorem begOf_le (p : Page) (c : Nat) : ∀ k, begOf p c k ≤ k
  | 0 => Nat.le_refl _
  | k + 1 => by
    unfold begOf
    split
    · exact Nat.le_succ_of_le (begOf_le p c k)
    · exact Nat.le_refl _
theorem begOf_self {p : Page} {c k : Nat} : begOf p c k = k ↔ (k = 0 ∨ clo p c (k - 1) = false) := by
  cases k with
  | zero => simp [begOf]
  | succ k =>
    unfold begOf
    cases h : clo p c k with
    | true =>
      have := begOf_le p c k
      simp [h]
      omega
    | false => simp [h]
@[simp] theorem lenR (r : Row) (st : Store) : lenG st [encR r] = .ok (.int r.length, st) := by simp [lenG, encR]
@[simp] theorem sty0 (y : Sty) (st : Store) : ixG st y.enc (.int 0) = .ok (.int y.g, st) := by simp [Sty.enc, ixG]
@[simp] theorem sty1 (y : Sty) (st : Store) : ixG st y.enc (.int 1) = .ok (.int y.l, st) := by simp [Sty.enc, ixG]
@[simp] theorem lenS (s : List Nat) (st : Store) : lenG st [.str s] = .ok (.int s.length, st) := (rfl)
theorem run_all {p : Page} {c k : Nat} (hk : clo p c k = true) : ∀ j, begOf p c k ≤ j → j < endOf p c (k + 1) → clo p c j = true := by
  have hlt : k < p.length := by
    obtain ⟨r, hr, _⟩ := clo_row hk
    exact (List.getElem?_eq_some_iff.mp hr).1
  have eo := endOf_ok (p := p) (c := c) (k := k + 1) (by omega)
  have low : ∀ n, n ≤ k → ∀ j, begOf p c n ≤ j → j < n → clo p c j = true := by
    intro n
    induction n with
    | zero => intro _ j _ h; omega
    | succ n ih =>
      intro hn j h1 h2
      unfold begOf at h1
      cases hc : clo p c n with
      | true =>
        rw [if_pos hc] at h1
        by_cases z : j = n
        · rw [z]; exact hc
        · exact ih (by omega) j h1 (by omega)
      | false =>
        rw [if_neg (by simp [hc])] at h1
        omega
  intro j h1 h2
  by_cases z : j < k
  · exact low k (Nat.le_refl _) j h1 z
  · by_cases z2 : j = k
    · rw [z2]; exact hk
    · exact eo.2.2.1 j (by omega) h2
end Dl
namespace Dl
open PySem L2
@[simp] theorem ix_tup (ds : List D) (i : Int) (st : Store) : ixG st (.tup ds) (.int i) = R.of ((atI ds i).map fun x => (x, st)) := (rfl)
@[simp] theorem ix_lst (ds : List D) (i : Int) (st : Store) : ixG st (.lst ds) (.int i) = R.of ((atI ds i).map fun x => (x, st)) := (rfl)
@[simp] theorem ix_str (s : List Nat) (i : Int) (st : Store) : ixG st (.str s) (.int i) = R.of ((atI s i).map fun c => (.str [c], st)) := (rfl)
end Dl
namespace Dl
open PySem L2
theorem stts_le {p : Page} (hp : okPage p = true) : (stts p).length ≤ 150 := Nat.le_trans (flat_le p 5) (by have := (okPage_parts hp).2.1; omega)
theorem pks_ints : ∀ l : List Int, D.pks (l.map .int) = true
  | [] => rfl
  | i :: l => by
    rw [List.map_cons, D.pks, pks_ints l]; rfl
end Dl
namespace Dl
open PySem L2
/-- stops_by: 10 slots, 3 parameters -/
def d_stops_by (m_Stretch_width : FV) : SV := sCons (sAsg (eDictT) (gN 3)) (sCons (sFor (iSeq (eV 2)) (gN 4) (sFor (iR2 (aCons (eFld 12 "begin" (eV 4)) (aCons (eFld 12 "end" (eV 4)) (aNil)))) (gN 5) (sAsg (eMeth 12 "width" 2 m_Stretch_width (eV 4) (aCons (eV 1) (aNil))) (gSb (eV 3) (eTup (aCons (eV 5) (aCons (eFld 12 "column" (eV 4)) (aNil)))) dsetG)))) (sCons (sAsg (eLst true (aNil)) (gN 6)) (sCons (sFor (iEn (aCons (eV 0) (aNil))) (gTp 2 (gsCons (gN 5) (gsCons (gN 7) (gsNil)))) (sCons (sAsg (eLst true (aCons (eC (.int 0)) (aNil))) (gN 8)) (sCons (sFor (iR1 (aCons (eOp subG (eB lenG (aCons (eV 7) (aNil))) (eC (.int 1))) (aNil))) (gN 9) (sExpr (eMt "list" (appendG) (eV 8) (aCons (eOp (addG false) (eOp ixG (eV 8) (eNeg (eC (.int 1)))) (eOp dgetG (eV 3) (eTup (aCons (eV 5) (aCons (eV 9) (aNil)))))) (aNil))))) (sExpr (eMt "list" (appendG) (eV 6) (aCons (eV 8) (aNil))))))) (sRet (eV 6)))))
/-- begins_by: 7 slots, 3 parameters -/
def d_begins_by (m_stops_by : FV) (m_Stretch_is_right : FV) (m_Stretch_width : FV) : SV := sCons (sAsg (eCall 3 m_stops_by (aCons (eV 0) (aCons (eV 1) (aCons (eV 2) (aNil))))) (gN 3)) (sCons (sFor (iSeq (eV 2)) (gN 4) (sIf (tv (eMeth 12 "is_right" 1 m_Stretch_is_right (eV 4) aNil)) (sFor (iR1 (aCons (eB lenG (aCons (eFld 12 "cells" (eV 4)) (aNil))) (aNil))) (gN 5) (sCons (sAsg (eOp ixG (eV 3) (eOp (addG false) (eFld 12 "begin" (eV 4)) (eV 5))) (gN 6)) (sAsg (eOp subG (eOp subG (eOp (addG false) (eOp ixG (eV 6) (eFld 12 "column" (eV 4))) (eMeth 12 "width" 2 m_Stretch_width (eV 4) (aCons (eV 1) (aNil)))) (eOp ixG (eV 1) (eC (.int 0)))) (eB lenG (aCons (eOp ixG (eFld 12 "cells" (eV 4)) (eV 5)) (aNil)))) (gSb (eV 6) (eFld 12 "column" (eV 4)) setLG)))) (sNext))) (sRet (eV 3)))
/-- laid: 2 slots, 2 parameters -/
def d_laid (m_need_page : FV) (m_need_style : FV) (m_begins_by : FV) (m_all_stretches : FV) : SV := sCons (sExpr (eCall 1 m_need_page (aCons (eV 0) (aNil)))) (sCons (sExpr (eCall 1 m_need_style (aCons (eV 1) (aNil)))) (sRet (eCall 3 m_begins_by (aCons (eV 0) (aCons (eV 1) (aCons (eCall 1 m_all_stretches (aCons (eV 0) (aNil))) (aNil)))))))
end Dl
namespace Dl
open PySem L2
theorem begOf_eq {p : Page} {c b : Nat} (hb : isB p c b = true) : ∀ k, b ≤ k → (∀ j, b ≤ j → j ≤ k → clo p c j = true) → begOf p c k = b
  | 0, h, _ => by
    have : b = 0 := by omega
    subst this; rfl
  | k + 1, h, hc => by
    by_cases z : b = k + 1
    · subst z
      rw [begOf_self]
      simp only [isB, Bool.and_eq_true, Bool.or_eq_true, Bool.not_eq_true', beq_iff_eq] at hb
      exact hb.2
    · unfold begOf
      rw [if_pos (hc k (by omega) (by omega))]
      exact begOf_eq hb k (by omega) fun j h1 h2 => hc j h1 (by omega)
def sttAt (p : Page) (k c : Nat) : Stt := sttOf p c (begOf p c k)
/-- the cell k, c lies in the stretch s -/
def Covers (s : Stt) (k c : Nat) : Prop := s.c = c ∧ s.b ≤ k ∧ k < s.e
instance (s : Stt) (k c : Nat) : Decidable (Covers s k c) := by unfold Covers; exact inferInstance
theorem stts_form {p : Page} {s : Stt} (h : s ∈ stts p) : s = sttOf p s.c s.b := by
  unfold stts at h
  rw [List.mem_flatMap] at h
  obtain ⟨c, hc, h⟩ := h
  obtain ⟨b, hb, rfl⟩ := List.mem_map.mp h
  rfl
theorem covers_at {p : Page} {s : Stt} (h : s ∈ stts p) {k c : Nat} (hk : Covers s k c) : s = sttAt p k c := by
  have so := stts_mem h
  obtain ⟨rfl, h1, h2⟩ := hk
  unfold sttAt
  rw [begOf_eq so.beg k h1 fun j a b => so.clo j a (by omega)]
  exact stts_form h
theorem begOf_isB {p : Page} {c : Nat} : ∀ k, clo p c k = true → isB p c (begOf p c k) = true
  | 0, h => by
    show isB p c 0 = true
    simp [isB, h]
  | k + 1, h => by
    unfold begOf
    by_cases hc : clo p c k = true
    · rw [if_pos hc]; exact begOf_isB k hc
    · rw [if_neg hc]
      simp [isB, h, hc]
theorem endOf_run {p : Page} {c k : Nat} (hk : clo p c k = true) : endOf p c (begOf p c k) = endOf p c (k + 1) := by
  have hlt : k < p.length := by
    obtain ⟨r, hr, _⟩ := clo_row hk
    exact (List.getElem?_eq_some_iff.mp hr).1
  have eo := endOf_ok (p := p) (c := c) (k := k + 1) (by omega)
  have bl := begOf_le p c k
  exact endOf_eq (by omega) eo.2.1 (run_all hk) eo.2.2.2
theorem sttAt_mem {p : Page} {k c : Nat} (hc : c < 5) (hk : clo p c k = true) : sttAt p k c ∈ stts p ∧ Covers (sttAt p k c) k c := by
  have hlt : k < p.length := by
    obtain ⟨r, hr, _⟩ := clo_row hk
    exact (List.getElem?_eq_some_iff.mp hr).1
  have eo := endOf_ok (p := p) (c := c) (k := k + 1) (by omega)
  have bl := begOf_le p c k
  refine ⟨?_, rfl, bl, ?_⟩
  · unfold stts
    rw [List.mem_flatMap]
    refine ⟨c, List.mem_range.mpr hc, List.mem_map.mpr ⟨begOf p c k, ?_, rfl⟩⟩
    unfold begs
    rw [List.mem_filter, List.mem_range]
    exact ⟨by omega, begOf_isB k hk⟩
  · show k < endOf p c (begOf p c k)
    rw [endOf_run hk]; omega
def wAt (p : Page) (y : Sty) (k c : Nat) : Int := wid y (cellsOf p (sttAt p k c))
def sumW (p : Page) (y : Sty) (k : Nat) : Nat → Int
  | 0 => 0
  | c + 1 => sumW p y k c + wAt p y k c
def leftsN (p : Page) (y : Sty) (k n : Nat) : List Int := (List.range n).map (sumW p y k)
theorem leftsN_succ (p : Page) (y : Sty) (k n : Nat) : leftsN p y k (n + 1) = leftsN p y k n ++ [sumW p y k n] := by
  unfold leftsN
  rw [List.range_succ, List.map_append]; rfl
@[simp] theorem leftsN_len (p : Page) (y : Sty) (k n : Nat) : (leftsN p y k n).length = n := by simp [leftsN]
def cellsIn (p : Page) (k : Nat) : Nat := (p.getD k []).length
def rightAt (p : Page) (k c : Nat) : Bool := clo p c k && right (cellsOf p (sttAt p k c))
def bAt (p : Page) (y : Sty) (k c : Nat) : Int := if rightAt p k c = true then sumW p y k (c + 1) - y.g - (cellAt p k c).length else sumW p y k c
def rowI (p : Page) (f : Nat → Nat → Int) (k : Nat) : List D := ((List.range (cellsIn p k)).map (f k)).map .int
def gridS (p : Page) (f : Nat → Nat → Int) : Store := (List.range p.length).map fun k => .lst (rowI p f k)
@[simp] theorem rowI_len (p : Page) (f : Nat → Nat → Int) (k : Nat) : (rowI p f k).length = cellsIn p k := by simp [rowI]
@[simp] theorem gridS_len (p : Page) (f : Nat → Nat → Int) : (gridS p f).length = p.length := by simp [gridS]
theorem rowI_at {p : Page} (f : Nat → Nat → Int) {k c : Nat} (h : c < cellsIn p k) : (rowI p f k)[c]? = some (.int (f k c)) := by simp [rowI, h]
theorem gridS_at {p : Page} (f : Nat → Nat → Int) {k : Nat} (h : k < p.length) : (gridS p f)[k]? = some (.lst (rowI p f k)) := by simp [gridS, h]
theorem rowI_congr {p : Page} {f g : Nat → Nat → Int} {k : Nat} (h : ∀ c, c < cellsIn p k → f k c = g k c) : rowI p f k = rowI p g k := by
  unfold rowI
  refine congrArg (List.map D.int) (List.map_congr_left fun c hc => h c ?_)
  exact List.mem_range.mp hc
theorem gridS_congr {p : Page} {f g : Nat → Nat → Int} (h : ∀ k c, k < p.length → c < cellsIn p k → f k c = g k c) : gridS p f = gridS p g := by
  unfold gridS
  refine List.map_congr_left fun k hk => ?_
  rw [rowI_congr fun c hc => h k c (List.mem_range.mp hk) hc]
theorem gridS_set {p : Page} (f : Nat → Nat → Int) {k c : Nat} (hk : k < p.length) (hc : c < cellsIn p k) (v : Int) :
    (gridS p f).set k (.lst ((rowI p f k).set c (.int v))) = gridS p fun k' c' => if k' = k ∧ c' = c then v else f k' c' := by
  refine List.ext_getElem? fun j => ?_
  by_cases hj : j < p.length
  · rw [gridS_at _ hj]
    by_cases z : k = j
    · subst z
      rw [List.getElem?_set_self (by simpa using hk)]
      refine congrArg (fun l => some (Ob.lst l)) (List.ext_getElem? fun i => ?_)
      by_cases hi : i < cellsIn p k
      · rw [rowI_at _ hi]
        by_cases q : c = i
        · subst q
          rw [List.getElem?_set_self (by simpa using hc)]
          simp
        · rw [List.getElem?_set_ne q, rowI_at _ hi]
          simp [Ne.symm q]
      · rw [List.getElem?_eq_none (by simp; omega), List.getElem?_eq_none (by simp; omega)]
    · rw [List.getElem?_set_ne z, gridS_at _ hj, rowI_congr fun c' _ => ?_]
      simp [Ne.symm z]
  · rw [List.getElem?_eq_none (by simp; omega), List.getElem?_eq_none (by simp; omega)]
theorem cellsIn_row {p : Page} {k : Nat} {r : Row} (h : p[k]? = some r) : cellsIn p k = r.length := by
  unfold cellsIn
  rw [List.getD_eq_getElem?_getD, h]; rfl
theorem cellsIn_le {p : Page} (hp : okPage p = true) {k : Nat} (hk : k < p.length) : 1 ≤ cellsIn p k ∧ cellsIn p k ≤ 6 := by
  obtain ⟨p1, p2, p3⟩ := okPage_parts hp
  have hr : p[k]? = some p[k] := by simp [hk]
  rw [cellsIn_row hr]
  obtain ⟨r1, r2, r3⟩ := okRow_parts (p3 _ (List.mem_of_getElem? hr))
  exact ⟨r1, r2⟩
theorem clo_cells {p : Page} {k c : Nat} (hk : k < p.length) : clo p c k = decide (c + 1 < cellsIn p k) := by
  have hr : p[k]? = some p[k] := by simp [hk]
  rw [clo_at hr, cellsIn_row hr]
end Dl
namespace Dl
open PySem L2
theorem ints_getL {lo : Int} {n j : Nat} {x : D} (h : (intsD lo n)[j]? = some x) : j < n ∧ x = .int (lo + (j : Int)) := by
  have hl := (List.getElem?_eq_some_iff.mp h).1
  rw [intsD_len] at hl
  rw [ints_at lo n j hl] at h
  cases h
  exact ⟨hl, rfl⟩
def m_stops_by : FV := funD 10 (d_stops_by m_Stretch_width)
def kkc (k c : Nat) : List L2.Key := [Sum.inl (k : Int), Sum.inl (c : Int)]
theorem kkc_inj {k c k' c' : Nat} : kkc k c = kkc k' c' ↔ k = k' ∧ c = c' := by
  unfold kkc
  simp only [List.cons.injEq, Sum.inl.injEq, and_true]
  omega
/-- what the widths tell -/
def Told (p : Page) (y : Sty) (kvs : List (List L2.Key × D)) (k c : Nat) : Prop := valK kvs (kkc k c) = some (.int (wAt p y k c))
theorem told_put {p : Page} {y : Sty} {kvs : List (List L2.Key × D)} {k c k' c' : Nat} (h : Told p y kvs k c ∨ (k = k' ∧ c = c')) : Told p y (putKD kvs (kkc k' c') (.int (wAt p y k' c'))) k c := by
  unfold Told
  rw [valK_put]
  by_cases z : kkc k c = kkc k' c'
  · rw [if_pos z]
    obtain ⟨rfl, rfl⟩ := kkc_inj.mp z
    rfl
  · rw [if_neg z]
    rcases h with h | h
    · exact h
    · exact absurd (kkc_inj.mpr h) z
theorem stAt_app {p : Page} {st more : Store} {k : Nat} {s : Stt} (h : StAt p st k s) : StAt p (st ++ more) k s := by
  unfold StAt at h ⊢
  rw [List.getElem?_append_left (List.getElem?_eq_some_iff.mp h).1]; exact h
theorem get_app {st more : Store} {n : Nat} {o : Ob} (h : st[n]? = some o) : (st ++ more)[n]? = some o := by
  rw [List.getElem?_append_left (List.getElem?_eq_some_iff.mp h).1]; exact h
theorem stops_by_ok {p : Page} (hp : okPage p = true) (y : Sty) {d : D} {w : List (Nat × List D)} {st : Store} (hd : listOf st d = some (encP p, w)) {n : Nat} {RR : List D} (hn : st[n]? = some (.lst RR)) (hR : All2 (IsSt p st) RR (stts p)) :
    ∃ kvs, m_stops_by [d, y.enc, .ref n] st = .ok (.ref (st.length + 1), st ++ .dT kvs :: .lst (refs (st.length + 2) p.length) :: gridS p (sumW p y)) := by
  rw [m_stops_by, funD, d_stops_by]
  obtain ⟨p1, p2, p3⟩ := okPage_parts hp
  have hit : itemsOf (st ++ [Ob.dT []]) (.ref n) = some (RR, [(n, RR)]) := by simp only [itemsOf, get_app hn]
  simp [hit]
  generalize q : forGo _ _ _ _ _ _ = r
  obtain ⟨e, s, rfl, kvs, a4, a5, rfl, rfl, hkl, hkv⟩ := for_at q (fun i env st' => ∃ kvs a4 a5, st' = st ++ [Ob.dT kvs] ∧ env = [some d, some y.enc, some (.ref n), some (.ref st.length), a4, a5, none, none, none, none] ∧ kvs.length ≤ 30 * i ∧ ∀ s ∈ (stts p).take i, ∀ k, s.b ≤ k → k < s.e → Told p y kvs k s.c)
    ⟨[], none, none, rfl, rfl, by simp, by simp⟩ (fun i env st' _ ⟨kvs, a4, a5, e1, e2, e3⟩ => by subst e1; exact still_one (get_app hn)) (fun i x env st' hi ⟨kvs, a4, a5, e1, e2, hl, hk⟩ => by
      obtain ⟨s, hs, kk, rfl, hkk⟩ := hR.get hi
      have so := stts_mem (List.mem_of_getElem? hs)
      have slt := so.lt
      have sle := so.le
      have sc4 := so.c4
      have sa : ∀ more, StAt p (st ++ more) kk s := fun more => stAt_app hkk
      have il : i < 150 := by have := (List.getElem?_eq_some_iff.mp hs).1; have := stts_le hp; omega
      subst e2
      have f2 := fld_begin (sa [Ob.dT kvs]) [some d, some y.enc, some (.ref n), some (.ref st.length), some (.ref kk), a5, none, none, none, none] 4 rfl
      have f3 := fld_end (sa [Ob.dT kvs]) [some d, some y.enc, some (.ref n), some (.ref st.length), some (.ref kk), a5, none, none, none, none] 4 rfl
      rw [← e1] at f2 f3
      have mb : (-1000000 ≤ (s.b : Int) ∧ (s.b : Int) ≤ 1000000) ∧ -1000000 ≤ (s.e : Int) ∧ (s.e : Int) ≤ 1000000 := by omega
      have en2 : ((s.e : Int) - (s.b : Int)).toNat = s.e - s.b := by omega
      have hle : s.e - s.b ≤ LIM := le_LIM (by omega)
      simp [f2, f3, -r_eFld, mb, en2, hle]
      generalize q : forGo _ _ _ _ _ _ = r
      obtain ⟨e, s', rfl, kvs', a5', rfl, rfl, hl', hk1, hk2⟩ := for_at q (fun j env st' => ∃ kvs a5, st' = st ++ [Ob.dT kvs] ∧ env = [some d, some y.enc, some (.ref n), some (.ref st.length), some (.ref kk), a5, none, none, none, none] ∧ kvs.length ≤ 30 * i + j ∧ (∀ s ∈ (stts p).take i, ∀ k, s.b ≤ k → k < s.e → Told p y kvs k s.c) ∧ ∀ k, s.b ≤ k → k < s.b + j → Told p y kvs k s.c)
        ⟨kvs, a5, e1, rfl, by omega, hk, fun k h1 h2 => by omega⟩ (fun _ _ _ _ _ => rfl) (fun j x env st' hj ⟨kvs, a5, e1, e2, hl, hk1, hk2⟩ => by
          obtain ⟨hj2, rfl⟩ := ints_getL hj
          subst e2
          have f4 := fld_column (sa [Ob.dT kvs]) [some d, some y.enc, some (.ref n), some (.ref st.length), some (.ref kk), some (.int ((s.b : Int) + (j : Int))), none, none, none, none] 4 rfl
          have w1 := width_ok hp so (sa [Ob.dT kvs]) y
          have hk' : (st ++ [Ob.dT kvs])[kk]? = some (.ins 12 (stFs s (cellsOf p s))) := sa [Ob.dT kvs]
          have ll : kvs.length < LIM := lt_LIM (by omega)
          have ww : wid y (cellsOf p s) = wAt p y (s.b + j) s.c := by
            unfold wAt
            rw [← covers_at (List.mem_of_getElem? hs) (k := s.b + j) (c := s.c) ⟨rfl, by omega, by omega⟩]
          have ds : dsetG (st ++ [Ob.dT kvs]) (.ref st.length) (.tup [.int ((s.b : Int) + (j : Int)), .int s.c]) (.int (wid y (cellsOf p s))) = some (st ++ [Ob.dT (putKD kvs (kkc (s.b + j) s.c) (.int (wAt p y (s.b + j) s.c)))]) := by
            have ek : kkc (s.b + j) s.c = [Sum.inl ((s.b : Int) + (j : Int)), Sum.inl (s.c : Int)] := by
              unfold kkc; rw [show ((s.b + j : Nat) : Int) = (s.b : Int) + (j : Int) by omega]
            rw [ek, ← ww]
            simp [dsetG, ll]
          rw [← e1] at f4 w1 hk' ds
          refine turn_eq (e := [some d, some y.enc, some (.ref n), some (.ref st.length), some (.ref kk), some (.int ((s.b : Int) + (j : Int))), none, none, none, none]) (s := st ++ [Ob.dT (putKD kvs (kkc (s.b + j) s.c) (.int (wAt p y (s.b + j) s.c)))]) (by
            simp [f4, -r_eFld, hk', st_width, w1, ds, gSb]) ⟨_, _, rfl, rfl, Nat.le_trans (putKD_len _ _ _) (by omega), fun s1 h1 k h2 h3 => told_put (.inl (hk1 s1 h1 k h2 h3)), fun k h1 h2 => told_put ?_⟩
          by_cases z : k = s.b + j
          · exact .inr ⟨z, rfl⟩
          · exact .inl (hk2 k h1 (by omega)))
      rw [intsD_len] at hl' hk2
      refine ⟨kvs', rfl, ⟨_, _, rfl⟩, by omega, fun s1 h1 k h2 h3 => ?_⟩
      rw [take_snoc hs, List.mem_append] at h1
      rcases h1 with h1 | h1
      · exact hk1 s1 h1 k h2 h3
      · obtain rfl : s1 = s := by simpa using h1
        exact hk2 k h2 (by omega))
  rw [hR.len, List.take_length] at hkv
  have told : ∀ k c, clo p c k = true → c < 5 → Told p y kvs k c := fun k c h hc => by
    obtain ⟨m, cv⟩ := sttAt_mem hc h
    have := hkv _ m k cv.2.1 cv.2.2
    rwa [cv.1] at this
  clear hkv hkl
  have hd1 : ∀ more, listOf (st ++ more) d = some (encP p, w) := fun more => listOf_stays (Stays.app _ _) hd
  simp [hd1]
  generalize q : forGo _ _ _ _ _ _ = r
  obtain ⟨e, s, rfl, a5, a7, a8, a9, rfl, rfl⟩ := for_at q (fun i env st' => ∃ a5 a7 a8 a9, st' = st ++ Ob.dT kvs :: .lst (refs (st.length + 2) i) :: (gridS p (sumW p y)).take i ∧ env = [some d, some y.enc, some (.ref n), some (.ref st.length), a4, a5, some (.ref (st.length + 1)), a7, a8, a9])
    ⟨_, _, _, _, by simp [refs], rfl⟩ (fun i env st' _ ⟨a5, a7, a8, a9, e1, e2⟩ => by subst e1; exact still_list (hd1 _)) (fun i x env st' hi ⟨a5, a7, a8, a9, e1, e2⟩ => by
      obtain ⟨z, hz, rfl⟩ := pairUp_at hi
      unfold encP at hz
      rw [List.getElem?_map] at hz
      cases er : p[i]? with
      | none => rw [er] at hz; cases hz
      | some r =>
        rw [er] at hz
        cases hz
        have hip := (List.getElem?_eq_some_iff.mp er).1
        have ci := cellsIn_row er
        have cl := cellsIn_le hp hip
        have el : st'.length = st.length + 2 + i := by rw [e1]; simp; omega
        have g0 : st'[st.length]? = some (.dT kvs) := by rw [e1]; simp
        have g1 : st'[st.length + 1]? = some (.lst (refs (st.length + 2) i)) := by rw [e1]; simp
        have m1 : -1000000 ≤ (r.length : Int) - 1 ∧ (r.length : Int) - 1 ≤ 1000000 := by omega
        have tn : ((r.length : Int) - 1).toNat = r.length - 1 := by omega
        subst e2
        simp [subG, m1, tn]
        generalize q : forGo _ _ _ _ _ _ = r'
        obtain ⟨e, s, rfl, a9', rfl, rfl⟩ := for_at q (fun j env st'' => ∃ a9, st'' = st' ++ [Ob.lst ((leftsN p y i (j + 1)).map .int)] ∧ env = [some d, some y.enc, some (.ref n), some (.ref st.length), a4, some (.int i), some (.ref (st.length + 1)), some (encR r), some (.ref st'.length), a9])
          ⟨_, rfl, rfl⟩ (fun _ _ _ _ _ => rfl) (fun j x env st'' hj ⟨a9, e1, e2⟩ => by
            obtain ⟨hj, rfl⟩ := ints_get hj
            have hcl : clo p j i = true := by rw [clo_cells hip, ci]; exact decide_eq_true (by omega)
            have tl := told i j hcl (by omega)
            have gA : (st' ++ [Ob.lst ((leftsN p y i (j + 1)).map D.int)])[st.length]? = some (.dT kvs) := get_app g0
            have gL : (st' ++ [Ob.lst ((leftsN p y i (j + 1)).map D.int)])[st'.length]? = some (.lst ((leftsN p y i (j + 1)).map .int)) := by simp
            have ixl : ixG (st' ++ [Ob.lst ((leftsN p y i (j + 1)).map D.int)]) (.ref st'.length) (.int (-1)) = .ok (.int (sumW p y i j), st' ++ [Ob.lst ((leftsN p y i (j + 1)).map D.int)]) := by
              have : atI ((leftsN p y i (j + 1)).map D.int) (-1) = some (.int (sumW p y i j)) := by
                rw [leftsN_succ, List.map_append]; exact atI_last _ _
              simp [ixG, lstOf, this]
            have dg : dgetG (st' ++ [Ob.lst ((leftsN p y i (j + 1)).map D.int)]) (.ref st.length) (.tup [.int i, .int j]) = .ok (.int (wAt p y i j), st' ++ [Ob.lst ((leftsN p y i (j + 1)).map D.int)]) := by
              have e3 : dvalG (st' ++ [Ob.lst ((leftsN p y i (j + 1)).map D.int)]) (.ref st.length) (.tup [.int i, .int j]) = some (some (.int (wAt p y i j))) := by
                simp only [dvalG, gA, keysOf_int, keysOf_nil, Option.map_some]
                exact congrArg some tl
              simp only [dgetG, e3]
            have tm : tyM (st' ++ [Ob.lst ((leftsN p y i (j + 1)).map D.int)]) (.ref st'.length) = some "list" := by simp only [tyM, gL]
            have ll : j + 1 < LIM := lt_LIM (by omega)
            have ap : appendG (st' ++ [Ob.lst ((leftsN p y i (j + 1)).map D.int)]) (.ref st'.length) [.int (sumW p y i j + wAt p y i j)] = .ok (.non, st' ++ [Ob.lst ((leftsN p y i (j + 2)).map D.int)]) := by
              rw [leftsN_succ p y i (j + 1)]
              simp [appendG, ll]
              rfl
            subst e2
            rw [← e1] at ixl dg tm ap
            exact turn_eq (e := [some d, some y.enc, some (.ref n), some (.ref st.length), a4, some (.int i), some (.ref (st.length + 1)), some (encR r), some (.ref st'.length), some (.int j)]) (s := st' ++ [Ob.lst ((leftsN p y i (j + 2)).map D.int)]) (by
              simp [ixl, dg, tm, ap, addG]) ⟨_, rfl, rfl⟩)
        rw [intsD_len]
        have h1 : r.length - 1 + 1 = cellsIn p i := by omega
        rw [h1]
        have gL : (st' ++ [Ob.lst ((leftsN p y i (cellsIn p i)).map D.int)])[st.length + 1]? = some (.lst (refs (st.length + 2) i)) := get_app g1
        have tm : tyM (st' ++ [Ob.lst ((leftsN p y i (cellsIn p i)).map D.int)]) (.ref (st.length + 1)) = some "list" := by simp only [tyM, gL]
        have ll : i < LIM := lt_LIM (by omega)
        have er' : rowI p (sumW p y) i = (leftsN p y i (cellsIn p i)).map D.int := rfl
        have ap : appendG (st' ++ [Ob.lst ((leftsN p y i (cellsIn p i)).map D.int)]) (.ref (st.length + 1)) [.ref st'.length] = .ok (.non, st ++ Ob.dT kvs :: .lst (refs (st.length + 2) (i + 1)) :: (gridS p (sumW p y)).take (i + 1)) := by
          simp only [appendG, gL, refs_len, ll, if_true]
          refine congrArg (fun l => R.ok (D.non, l)) ?_
          rw [refs_succ, ← el, take_snoc (gridS_at _ hip), er', e1]
          simp
        simp [tm, ap])
  rw [pairUp_len, encP_len]
  simp
  exact List.take_of_length_le (by simp)
end Dl
namespace Dl
open PySem L2
theorem stts_nodup (p : Page) : (stts p).Nodup := by
  unfold stts List.Nodup
  rw [List.pairwise_flatMap]
  refine ⟨fun c hc => ?_, ?_⟩
  · unfold sttsC
    rw [List.pairwise_map]
    have h0 : List.Pairwise (fun a b : Nat => a ≠ b) (begs p c p.length) := by
      unfold begs
      exact List.Pairwise.filter _ List.nodup_range
    exact h0.imp fun {a b} h z => h (congrArg Stt.b z)
  · have h0 : List.Pairwise (fun a b : Nat => a ≠ b) (List.range 5) := List.nodup_range
    refine h0.imp fun {a b} h x hx y hy z => ?_
    obtain ⟨b1, _, rfl⟩ := List.mem_map.mp hx
    obtain ⟨b2, _, rfl⟩ := List.mem_map.mp hy
    exact h (congrArg Stt.c z)
def cov (p : Page) (i k c : Nat) : Bool := ((stts p).take i).any fun s => decide (Covers s k c)
theorem cov_false {p : Page} {i : Nat} {s : Stt} (hs : (stts p)[i]? = some s) {k c : Nat} (hk : Covers s k c) : cov p i k c = false := by
  unfold cov
  rw [List.any_eq_false]
  intro s' h'
  simp only [decide_eq_true_eq]
  intro hc
  have e1 := covers_at (List.mem_of_mem_take h') hc
  have e2 := covers_at (List.mem_of_getElem? hs) hk
  rw [← e2] at e1
  subst e1
  obtain ⟨j, hj⟩ := List.mem_iff_getElem?.mp h'
  rw [List.getElem?_take] at hj
  split at hj
  · rename_i hlt
    obtain ⟨l1, g1⟩ := List.getElem?_eq_some_iff.mp hj
    obtain ⟨l2, g2⟩ := List.getElem?_eq_some_iff.mp hs
    have := List.pairwise_iff_getElem.mp (stts_nodup p) j i l1 l2 hlt
    exact this (g1.trans g2.symm)
  · cases hj
theorem cov_succ {p : Page} {i : Nat} {s : Stt} (hs : (stts p)[i]? = some s) (k c : Nat) : cov p (i + 1) k c = (cov p i k c || decide (Covers s k c)) := by
  unfold cov
  rw [take_snoc hs, List.any_append]
  simp
def upd2 (f : Nat → Nat → Int) (k c : Nat) (v : Int) : Nat → Nat → Int := fun k' c' => if k' = k ∧ c' = c then v else f k' c'
def layS (B : Store) (p : Page) (f : Nat → Nat → Int) : Store := B ++ .lst (refs (B.length + 1) p.length) :: gridS p f
section
variable {B : Store} {p : Page} {f : Nat → Nat → Int} {k c : Nat}
theorem lay_keep {o : Ob} {n : Nat} (h : B[n]? = some o) : (layS B p f)[n]? = some o := get_app h
theorem lay_found : (layS B p f)[B.length]? = some (.lst (refs (B.length + 1) p.length)) := by simp [layS]
theorem lay_row (hk : k < p.length) : (layS B p f)[B.length + 1 + k]? = some (.lst (rowI p f k)) := by
  unfold layS
  rw [List.getElem?_append_right (by omega), show B.length + 1 + k - B.length = k + 1 by omega, List.getElem?_cons_succ, gridS_at f hk]
theorem refs_get {n m : Nat} (h : k < m) : (refs n m)[k]? = some (.ref (n + k)) := by simp [refs, h]
theorem lay_ixF (hk : k < p.length) : ixG (layS B p f) (.ref B.length) (.int k) = .ok (.ref (B.length + 1 + k), layS B p f) := by
  have : lstOf (layS B p f) (.ref B.length) = some (refs (B.length + 1) p.length) := by simp only [lstOf, lay_found]
  simp only [ixG, this, atI_nat, refs_get hk]
  rfl
theorem lay_ixR (hk : k < p.length) (hc : c < cellsIn p k) : ixG (layS B p f) (.ref (B.length + 1 + k)) (.int c) = .ok (.int (f k c), layS B p f) := by
  have : lstOf (layS B p f) (.ref (B.length + 1 + k)) = some (rowI p f k) := by simp only [lstOf, lay_row hk]
  simp only [ixG, this, atI_nat, rowI_at f hc]
  rfl
theorem lay_set (hk : k < p.length) (hc : c < cellsIn p k) (v : Int) : setLG (layS B p f) (.ref (B.length + 1 + k)) (.int c) (.int v) = some (layS B p (upd2 f k c v)) := by
  have hx : ixN (rowI p f k).length (c : Int) = some c := by
    have h2 : (c : Int) < ((cellsIn p k : Nat) : Int) := by omega
    simp [ixN, hc]
  simp only [setLG, lay_row hk, hx]
  unfold layS upd2
  rw [List.set_append_right _ _ (by omega), show B.length + 1 + k - B.length = k + 1 by omega, List.set_cons_succ, gridS_set f hk hc]
end
theorem lay_congr {B : Store} {p : Page} {f g : Nat → Nat → Int} (h : ∀ k c, k < p.length → c < cellsIn p k → f k c = g k c) : layS B p f = layS B p g := by
  unfold layS; rw [gridS_congr h]
def m_begins_by : FV := funD 7 (d_begins_by m_stops_by m_Stretch_is_right m_Stretch_width)
theorem begins_by_ok {p : Page} (hp : okPage p = true) (y : Sty) {d : D} {w : List (Nat × List D)} {st : Store} (hd : listOf st d = some (encP p, w)) {n : Nat} {RR : List D} (hn : st[n]? = some (.lst RR)) (hR : All2 (IsSt p st) RR (stts p)) :
    ∃ kvs, m_begins_by [d, y.enc, .ref n] st = .ok (.ref (st.length + 1), layS (st ++ [.dT kvs]) p (bAt p y)) := by
  rw [m_begins_by, funD, d_begins_by]
  obtain ⟨p1, p2, p3⟩ := okPage_parts hp
  obtain ⟨kvs, sb⟩ := stops_by_ok hp y hd hn hR
  obtain ⟨B, hB⟩ : ∃ B, B = st ++ [Ob.dT kvs] := ⟨_, rfl⟩
  have Bl : B.length = st.length + 1 := by rw [hB]; simp
  have eS : st ++ Ob.dT kvs :: Ob.lst (refs (st.length + 2) p.length) :: gridS p (sumW p y) = layS B p (sumW p y) := by
    unfold layS
    rw [Bl, hB]; simp
  rw [eS, ← Bl] at sb
  refine ⟨kvs, ?_⟩
  rw [← hB, ← Bl]
  have hnB : B[n]? = some (.lst RR) := by rw [hB]; exact get_app hn
  have hit : ∀ f, itemsOf (layS B p f) (.ref n) = some (RR, [(n, RR)]) := fun f => by simp only [itemsOf, lay_keep hnB]
  have hRB : All2 (IsSt p B) RR (stts p) := hR.imp fun a b ⟨k, u, v⟩ => ⟨k, u, by rw [hB]; exact get_app v⟩
  clear hR hn hd
  simp [sb, hit]
  generalize q : forGo _ _ _ _ _ _ = r
  obtain ⟨e, s, rfl, f, a4, a5, a6, rfl, rfl, hf⟩ := for_at q (fun i env st' => ∃ f a4 a5 a6, st' = layS B p f ∧ env = [some d, some y.enc, some (.ref n), some (.ref B.length), a4, a5, a6] ∧ ∀ k c, f k c = if cov p i k c = true then bAt p y k c else sumW p y k c)
    ⟨_, _, _, _, rfl, rfl, fun k c => by simp [cov]⟩ (fun i env st' _ ⟨f, a4, a5, a6, e1, e2, e3⟩ => by subst e1; exact still_one (lay_keep hnB)) (fun i x env st' hi ⟨f, a4, a5, a6, e1, e2, hf⟩ => by
      obtain ⟨s, hs, kk, rfl, hkk⟩ := hRB.get hi
      have so := stts_mem (List.mem_of_getElem? hs)
      have slt := so.lt
      have sle := so.le
      have sc4 := so.c4
      have sa : ∀ f, StAt p (layS B p f) kk s := fun f => lay_keep hkk
      have hk' : ∀ f, (layS B p f)[kk]? = some (.ins 12 (stFs s (cellsOf p s))) := fun f => sa f
      have w2 := fun f => is_right_ok hp so (sa f)
      subst e1 e2
      cases hr : right (cellsOf p s) with
      | false =>
        rw [hr] at w2
        refine turn_eq (e := [some d, some y.enc, some (.ref n), some (.ref B.length), some (.ref kk), a5, a6]) (s := layS B p f) (by simp [hk', st_right, w2]) ⟨f, _, _, _, rfl, rfl, fun k c => ?_⟩
        rw [hf k c, cov_succ hs]
        by_cases hc : Covers s k c
        · have e0 : bAt p y k c = sumW p y k c := by
            unfold bAt rightAt
            rw [← covers_at (List.mem_of_getElem? hs) hc, hr]
            simp
          simp [e0]
        · simp [hc]
      | true =>
        rw [hr] at w2
        have f1 := fld_cells (sa f) [some d, some y.enc, some (.ref n), some (.ref B.length), some (.ref kk), a5, a6] 4 rfl
        have cl := cellsOf_len p s
        have m1 : (s.e - s.b : Nat) ≤ LIM := le_LIM (by omega)
        have m2 : -1000000 ≤ ((s.e - s.b : Nat) : Int) ∧ ((s.e - s.b : Nat) : Int) ≤ 1000000 := by omega
        simp [hk', st_right, w2, f1, -r_eFld, lenG, lstOf, cl, m1, m2]
        generalize q : forGo _ _ _ _ _ _ = r
        obtain ⟨e, s', rfl, f', a5', a6', rfl, rfl, hf'⟩ := for_at q (fun j env st' => ∃ f a5 a6, st' = layS B p f ∧ env = [some d, some y.enc, some (.ref n), some (.ref B.length), some (.ref kk), a5, a6] ∧ ∀ k c, f k c = if (cov p i k c || (decide (Covers s k c) && decide (k < s.b + j))) = true then bAt p y k c else sumW p y k c)
          ⟨f, _, _, rfl, rfl, fun k c => by
            rw [hf k c]
            have : (decide (Covers s k c) && decide (k < s.b + 0)) = false := by
              by_cases z : Covers s k c
              · have := z.2.1
                simp [z]; omega
              · simp [z]
            rw [this, Bool.or_false]⟩ (fun _ _ _ _ _ => rfl) (fun j x env st' hj ⟨f, a5, a6, e1, e2, hf⟩ => by
            obtain ⟨hj2, rfl⟩ := ints_get hj
            subst e1 e2
            have kp : s.b + j < p.length := by omega
            have hcl : clo p s.c (s.b + j) = true := so.clo _ (by omega) (by omega)
            have hcc : s.c + 1 < cellsIn p (s.b + j) := by
              rw [clo_cells kp] at hcl; exact of_decide_eq_true hcl
            have cv : Covers s (s.b + j) s.c := ⟨rfl, by omega, by omega⟩
            have sAt := covers_at (List.mem_of_getElem? hs) cv
            have fv : f (s.b + j) s.c = sumW p y (s.b + j) s.c := by
              rw [hf, cov_false hs cv]; simp
            have ww : wid y (cellsOf p s) = wAt p y (s.b + j) s.c := by unfold wAt; rw [← sAt]
            have bv : bAt p y (s.b + j) s.c = sumW p y (s.b + j) s.c + wid y (cellsOf p s) - y.g - ((cellAt p (s.b + j) s.c).length : Int) := by
              unfold bAt rightAt
              rw [hcl, ← sAt, hr, ww]
              rfl
            have env1 : ∀ z, eFld 12 "begin" (eV 4) [some d, some y.enc, some (.ref n), some (.ref B.length), some (.ref kk), some (.int j), z] (layS B p f) = .ok (.int s.b, layS B p f) := fun z => fld_begin (sa f) _ 4 rfl
            have env2 : ∀ z, eFld 12 "column" (eV 4) [some d, some y.enc, some (.ref n), some (.ref B.length), some (.ref kk), some (.int j), z] (layS B p f) = .ok (.int s.c, layS B p f) := fun z => fld_column (sa f) _ 4 rfl
            have env3 : ∀ z, eFld 12 "cells" (eV 4) [some d, some y.enc, some (.ref n), some (.ref B.length), some (.ref kk), some (.int j), z] (layS B p f) = .ok (.lst ((cellsOf p s).map .str), layS B p f) := fun z => fld_cells (sa f) _ 4 rfl
            have w1 := width_ok hp so (sa f) y
            have x1 := lay_ixF (B := B) (p := p) (f := f) kp
            rw [show ((s.b + j : Nat) : Int) = (s.b : Int) + (j : Int) by omega] at x1
            have x2 := lay_ixR (B := B) (p := p) (f := f) kp (show s.c < cellsIn p (s.b + j) by omega)
            rw [fv] at x2
            have x3 := lay_set (B := B) (p := p) (f := f) kp (show s.c < cellsIn p (s.b + j) by omega) (bAt p y (s.b + j) s.c)
            rw [bv] at x3
            have x4 : atI ((cellsOf p s).map D.str) (j : Int) = some (.str (cellAt p (s.b + j) s.c)) := by
              rw [atI_nat]
              have : j < s.e - s.b := by omega
              simp [cellsOf, this]
            refine turn_eq (e := [some d, some y.enc, some (.ref n), some (.ref B.length), some (.ref kk), some (.int j), some (.ref (B.length + 1 + (s.b + j)))]) (s := layS B p (upd2 f (s.b + j) s.c (sumW p y (s.b + j) s.c + wid y (cellsOf p s) - y.g - ((cellAt p (s.b + j) s.c).length : Int)))) (by
              simp [env1, env2, env3, -r_eFld, x1, x2, x3, x4, hk', st_width, w1, addG, subG, gSb]) ⟨_, _, _, rfl, rfl, fun k c => ?_⟩
            rw [← bv]
            unfold upd2
            by_cases z : k = s.b + j ∧ c = s.c
            · obtain ⟨rfl, rfl⟩ := z
              simp [cv]
            · rw [if_neg z, hf k c]
              have : (decide (Covers s k c) && decide (k < s.b + j)) = (decide (Covers s k c) && decide (k < s.b + (j + 1))) := by
                by_cases h : Covers s k c
                · have : k ≠ s.b + j := fun q => z ⟨q, h.1.symm⟩
                  simp only [h, decide_true, Bool.true_and]
                  refine decide_eq_decide.mpr ?_
                  omega
                · simp [h]
              rw [this])
        rw [intsD_len] at hf'
        refine ⟨f', rfl, ⟨_, _, _, rfl⟩, fun k c => ?_⟩
        rw [hf' k c, cov_succ hs]
        have : (decide (Covers s k c) && decide (k < s.b + (s.e - s.b))) = decide (Covers s k c) := by
          by_cases h : Covers s k c
          · have := h.2.2
            simp [h]; omega
          · simp [h]
        rw [this])
  rw [hRB.len] at hf
  simp
  refine lay_congr fun k c hk hc => ?_
  rw [hf k c]
  by_cases hcl : clo p c k = true
  · have h5 : c < 5 := by
      have := cellsIn_le hp hk
      rw [clo_cells hk] at hcl
      have := of_decide_eq_true hcl
      omega
    obtain ⟨m, cv⟩ := sttAt_mem h5 hcl
    have : cov p (stts p).length k c = true := by
      unfold cov
      rw [List.take_length, List.any_eq_true]
      exact ⟨_, m, decide_eq_true cv⟩
    rw [if_pos this]
  · have e0 : bAt p y k c = sumW p y k c := by
      unfold bAt rightAt
      simp [hcl]
    rw [e0]; simp
end Dl
namespace Dl
open PySem L2
end Dl
namespace Dl
open PySem L2
def m_laid : FV := funD 2 (d_laid m_need_page m_need_style m_begins_by m_all_stretches)
theorem laid_ok {p : Page} (hp : okPage p = true) {y : Sty} (hy : y.ok) {d : D} {w : List (Nat × List D)} {st : Store} (hd : listOf st d = some (encP p, w)) :
    ∃ M, m_laid [d, y.enc] st = .ok (.ref (st.length + M.length), layS (st ++ M) p (bAt p y)) := by
  rw [m_laid, funD, d_laid]
  obtain ⟨RR, more, ha, hR⟩ := all_stretches_ok hp hd
  have np := need_page_ok hd hp
  have ns := need_style_ok hy st
  have hd1 : listOf (st ++ .lst RR :: more) d = some (encP p, w) := listOf_stays (Stays.app _ _) hd
  obtain ⟨kvs, sb⟩ := begins_by_ok hp y hd1 (n := st.length) (RR := RR) (by simp) hR
  refine ⟨.lst RR :: more ++ [.dT kvs], ?_⟩
  simp [np, ns, ha, sb]
  omega
def rowsD (p : Page) (f : Nat → Nat → Int) : List D := (List.range p.length).map fun k => .lst (rowI p f k)
theorem rds_mk {S : Store} : ∀ {ds xs : List D}, ds.length = xs.length → (∀ (i : Nat) (d x : D), ds[i]? = some d → xs[i]? = some x → Rd S d x) → Rds S ds xs
  | [], [], _, _ => by rw [Rds]; trivial
  | d :: ds, x :: xs, hl, h => by
    rw [Rds]
    exact ⟨h 0 d x rfl rfl, rds_mk (by simpa using hl) fun i a b e1 e2 => h (i + 1) a b (by simpa using e1) (by simpa using e2)⟩
  | [], _ :: _, hl, _ => by simp at hl
  | _ :: _, [], hl, _ => by simp at hl
theorem rowI_pks (p : Page) (f : Nat → Nat → Int) (k : Nat) : D.pks (rowI p f k) = true := pks_ints _
theorem rowsD_dp (p : Page) (f : Nat → Nat → Int) : D.dp (.lst (rowsD p f)) ≤ 3 := by
  rw [dp_lst]
  have : D.dps (rowsD p f) ≤ 2 := dps_le.mpr fun d hd => by
    obtain ⟨k, _, rfl⟩ := List.mem_map.mp hd
    rw [dp_lst]
    have := dps_ints ((List.range (cellsIn p k)).map (f k))
    unfold rowI
    omega
  omega
theorem lay_pre (st M : Store) (p : Page) (f : Nat → Nat → Int) : ∃ m, layS (st ++ M) p f = st ++ m := ⟨M ++ Ob.lst (refs ((st ++ M).length + 1) p.length) :: gridS p f, by unfold layS; rw [List.append_assoc]⟩
end Dl
namespace Dl
open PySem L2
end Dl
namespace Dl
open PySem L2
@[simp] theorem r_iZm (g : AV) (env : Env) (st : Store) : iZm g env st = (g env st).bind fun a => match a.1 with
  | [.tup ds, e] => match listOf a.2 e with
    | some w' => .ok ((zipUp ds w'.1, w'.2), a.2)
    | none => .bad
  | _ => .bad := (rfl)
end Dl
namespace Dl
open PySem L2
end Dl
namespace Dl
open PySem L2
/-- Sheet_init: 3 slots, 3 parameters -/
def d_Sheet_init (m_need_page : FV) (m_need_style : FV) (m_begins_by : FV) (m_all_stretches : FV) : SV := sCons (sExpr (eCall 1 m_need_page (aCons (eV 1) (aNil)))) (sCons (sExpr (eCall 1 m_need_style (aCons (eV 2) (aNil)))) (sCons (sFldD 13 "rows" (eV 0) (eB (listG false) (aCons (eV 1) (aNil)))) (sCons (sFldD 13 "style" (eV 0) (eV 2)) (sCons (sFldD 13 "lefts" (eV 0) (eCall 3 m_begins_by (aCons (eFld 13 "rows" (eV 0)) (aCons (eV 2) (aCons (eCall 1 m_all_stretches (aCons (eFld 13 "rows" (eV 0)) (aNil))) (aNil)))))) (sFldD 13 "past" (eV 0) (eLst true (aNil)))))))
/-- Sheet_page: 1 slots, 1 parameters -/
def d_Sheet_page : SV := sRet (eB (listG true) (aCons (eFld 13 "rows" (eV 0)) (aNil)))
/-- Sheet_back: 1 slots, 1 parameters -/
def d_Sheet_back (m_begins_by : FV) (m_all_stretches : FV) : SV := sCons (sIf (tv (eOp (eqG false) (eFld 13 "past" (eV 0)) (eLst false (aNil)))) (sRet (eC (.bl false))) (sNext)) (sCons (sFldD 13 "rows" (eV 0) (eMt "list" (popG) (eFld 13 "past" (eV 0)) aNil)) (sCons (sFldD 13 "lefts" (eV 0) (eCall 3 m_begins_by (aCons (eFld 13 "rows" (eV 0)) (aCons (eFld 13 "style" (eV 0)) (aCons (eCall 1 m_all_stretches (aCons (eFld 13 "rows" (eV 0)) (aNil))) (aNil)))))) (sRet (eC (.bl true)))))
/-- Cursor_init: 3 slots, 3 parameters -/
def d_Cursor_init (m_Sheet_init : FV) : SV := sCons (sFldD 14 "sheet" (eV 0) (eMake 13 3 m_Sheet_init (aCons (eV 1) (aCons (eV 2) (aNil))))) (sCons (sFldD 14 "number" (eV 0) (eC (.int 0))) (sCons (sFldD 14 "cell" (eV 0) (eC (.int 0))) (sFldD 14 "place" (eV 0) (eC (.int 0)))))
/-- Cursor_at: 1 slots, 1 parameters -/
def d_Cursor_at : SV := sRet (eTup (aCons (eFld 14 "number" (eV 0)) (aCons (eFld 14 "cell" (eV 0)) (aCons (eFld 14 "place" (eV 0)) (aNil)))))
/-- Cursor_mine: 1 slots, 1 parameters -/
def d_Cursor_mine : SV := sRet (eOp ixG (eFld 13 "rows" (eFld 14 "sheet" (eV 0))) (eFld 14 "number" (eV 0)))
/-- Cursor_go: 5 slots, 4 parameters -/
def d_Cursor_go (m_Cursor_at : FV) : SV := sCons (sAsg (eOp (eqG true) (eTup (aCons (eV 1) (aCons (eV 2) (aCons (eV 3) (aNil))))) (eMeth 14 "at" 1 m_Cursor_at (eV 0) aNil)) (gN 4)) (sCons (sAsg (eTup (aCons (eV 1) (aCons (eV 2) (aCons (eV 3) (aNil))))) (gTp 3 (gsCons (gFldD 14 "number" (eV 0)) (gsCons (gFldD 14 "cell" (eV 0)) (gsCons (gFldD 14 "place" (eV 0)) (gsNil)))))) (sRet (eV 4)))
/-- Cursor_right: 1 slots, 1 parameters -/
def d_Cursor_right (m_Cursor_mine : FV) (m_Cursor_go : FV) : SV := sCons (sIf (tv (eOp ltG (eFld 14 "place" (eV 0)) (eB lenG (aCons (eOp ixG (eMeth 14 "mine" 1 m_Cursor_mine (eV 0) aNil) (eFld 14 "cell" (eV 0))) (aNil))))) (sRet (eMeth 14 "go" 4 m_Cursor_go (eV 0) (aCons (eFld 14 "number" (eV 0)) (aCons (eFld 14 "cell" (eV 0)) (aCons (eOp (addG false) (eFld 14 "place" (eV 0)) (eC (.int 1))) (aNil)))))) (sNext)) (sCons (sIf (tv (eOp ltG (eFld 14 "cell" (eV 0)) (eOp subG (eB lenG (aCons (eMeth 14 "mine" 1 m_Cursor_mine (eV 0) aNil) (aNil))) (eC (.int 1))))) (sRet (eMeth 14 "go" 4 m_Cursor_go (eV 0) (aCons (eFld 14 "number" (eV 0)) (aCons (eOp (addG false) (eFld 14 "cell" (eV 0)) (eC (.int 1))) (aCons (eC (.int 0)) (aNil)))))) (sNext)) (sCons (sIf (tv (eOp ltG (eFld 14 "number" (eV 0)) (eOp subG (eB lenG (aCons (eFld 13 "rows" (eFld 14 "sheet" (eV 0))) (aNil))) (eC (.int 1))))) (sRet (eMeth 14 "go" 4 m_Cursor_go (eV 0) (aCons (eOp (addG false) (eFld 14 "number" (eV 0)) (eC (.int 1))) (aCons (eC (.int 0)) (aCons (eC (.int 0)) (aNil)))))) (sNext)) (sRet (eC (.bl false)))))
/-- Cursor_page: 1 slots, 1 parameters -/
def d_Cursor_page (m_Sheet_page : FV) : SV := sRet (eMeth 13 "page" 1 m_Sheet_page (eFld 14 "sheet" (eV 0)) aNil)
end Dl
namespace Dl
open PySem L2
abbrev Pos3 := Nat × Nat × Nat
def encT (t : Pos3) : D := .tup [.int t.1, .int t.2.1, .int t.2.2]
theorem encT_inj {s t : Pos3} (h : encT s = encT t) : s = t := by
  obtain ⟨a, b, c⟩ := s
  obtain ⟨a', b', c'⟩ := t
  simp [encT] at h
  simp; omega
def plsC (p : Page) (k c : Nat) : List Pos3 := (List.range ((cellAt p k c).length + 1)).map fun e => (k, c, e)
def plsR (p : Page) (k n : Nat) : List Pos3 := (List.range n).flatMap (plsC p k)
def plsP (p : Page) (n : Nat) : List Pos3 := (List.range n).flatMap fun k => plsR p k (cellsIn p k)
def plc (p : Page) : List Pos3 := plsP p p.length
def Valid (p : Page) (t : Pos3) : Prop := t.1 < p.length ∧ t.2.1 < cellsIn p t.1 ∧ t.2.2 ≤ (cellAt p t.1 t.2.1).length
theorem plc_mem {p : Page} {t : Pos3} : t ∈ plc p ↔ Valid p t := by
  obtain ⟨a, b, c⟩ := t
  simp only [plc, plsP, plsR, plsC, List.mem_flatMap, List.mem_range, List.mem_map, Valid, Prod.mk.injEq]
  constructor
  · rintro ⟨k, hk, c', hc, e, he, rfl, rfl, rfl⟩
    exact ⟨hk, hc, by omega⟩
  · rintro ⟨h1, h2, h3⟩
    exact ⟨a, h1, b, h2, c, by omega, rfl, rfl, rfl⟩
def goR (p : Page) (t : Pos3) : Pos3 := if t.2.2 < (cellAt p t.1 t.2.1).length then (t.1, t.2.1, t.2.2 + 1) else if t.2.1 + 1 < cellsIn p t.1 then (t.1, t.2.1 + 1, 0) else if t.1 + 1 < p.length then (t.1 + 1, 0, 0) else t
def goL (p : Page) (t : Pos3) : Pos3 := if 0 < t.2.2 then (t.1, t.2.1, t.2.2 - 1) else if 0 < t.2.1 then (t.1, t.2.1 - 1, (cellAt p t.1 (t.2.1 - 1)).length) else if 0 < t.1 then (t.1 - 1, cellsIn p (t.1 - 1) - 1, (cellAt p (t.1 - 1) (cellsIn p (t.1 - 1) - 1)).length) else t
theorem goR_mk (p : Page) (a b c : Nat) : goR p (a, b, c) = if c < (cellAt p a b).length then (a, b, c + 1) else if b + 1 < cellsIn p a then (a, b + 1, 0) else if a + 1 < p.length then (a + 1, 0, 0) else (a, b, c) := rfl
theorem goL_mk (p : Page) (a b c : Nat) : goL p (a, b, c) = if 0 < c then (a, b, c - 1) else if 0 < b then (a, b - 1, (cellAt p a (b - 1)).length) else if 0 < a then (a - 1, cellsIn p (a - 1) - 1, (cellAt p (a - 1) (cellsIn p (a - 1) - 1)).length) else (a, b, c) := rfl
def Nx (p : Page) (x z : Pos3) : Prop := goR p x = z ∧ goL p z = x
def Ch (p : Page) (l : List Pos3) : Prop := ∀ (i : Nat) (x z : Pos3), l[i]? = some x → l[i + 1]? = some z → Nx p x z
theorem ch_app {p : Page} {l1 l2 : List Pos3} (h1 : Ch p l1) (h2 : Ch p l2) (hj : ∀ x z, l1.getLast? = some x → l2.head? = some z → Nx p x z) : Ch p (l1 ++ l2) := fun i x z e1 e2 => by
  by_cases a : i + 1 < l1.length
  · rw [List.getElem?_append_left (by omega)] at e1
    rw [List.getElem?_append_left a] at e2
    exact h1 i x z e1 e2
  · by_cases b : i + 1 = l1.length
    · rw [List.getElem?_append_left (by omega)] at e1
      rw [List.getElem?_append_right (by omega), b, Nat.sub_self] at e2
      refine hj x z ?_ ?_
      · rw [List.getLast?_eq_getElem?, ← b]; exact e1
      · rw [List.head?_eq_getElem?]; exact e2
    · rw [List.getElem?_append_right (by omega)] at e1 e2
      rw [show i + 1 - l1.length = i - l1.length + 1 by omega] at e2
      exact h2 _ x z e1 e2
theorem ch_plsC (p : Page) (k c : Nat) : Ch p (plsC p k c) := fun i x z e1 e2 => by
  unfold plsC at e1 e2
  rw [List.getElem?_map] at e1 e2
  cases h1 : (List.range ((cellAt p k c).length + 1))[i]? with
  | none => rw [h1] at e1; cases e1
  | some v =>
    cases h2 : (List.range ((cellAt p k c).length + 1))[i + 1]? with
    | none => rw [h2] at e2; cases e2
    | some w =>
      rw [h1] at e1
      rw [h2] at e2
      obtain ⟨a1, b1⟩ := List.getElem?_eq_some_iff.mp h1
      obtain ⟨a2, b2⟩ := List.getElem?_eq_some_iff.mp h2
      rw [List.getElem_range] at b1 b2
      rw [List.length_range] at a1 a2
      subst b1 b2
      cases e1
      cases e2
      refine ⟨?_, ?_⟩
      · show goR p (k, c, i) = _
        rw [goR_mk, if_pos (by omega)]
      · show goL p (k, c, i + 1) = _
        rw [goL_mk, if_pos (by omega)]
        rfl
theorem plsC_head (p : Page) (k c : Nat) : (plsC p k c).head? = some (k, c, 0) := by
  unfold plsC
  rw [List.head?_map, List.head?_range, if_neg (by omega)]
  rfl
theorem plsC_last (p : Page) (k c : Nat) : (plsC p k c).getLast? = some (k, c, (cellAt p k c).length) := by
  unfold plsC
  rw [List.getLast?_map, List.getLast?_range, if_neg (by omega)]
  rfl
theorem plsR_succ (p : Page) (k n : Nat) : plsR p k (n + 1) = plsR p k n ++ plsC p k n := by
  unfold plsR
  rw [List.range_succ, List.flatMap_append]
  simp
theorem plsR_head (p : Page) (k : Nat) : ∀ n, (plsR p k (n + 1)).head? = some (k, 0, 0)
  | 0 => by rw [plsR_succ]; exact plsC_head p k 0
  | n + 1 => by rw [plsR_succ, List.head?_append, plsR_head p k n]; rfl
theorem plsR_last (p : Page) (k n : Nat) : (plsR p k (n + 1)).getLast? = some (k, n, (cellAt p k n).length) := by
  rw [plsR_succ, List.getLast?_append, plsC_last]; rfl
theorem ch_plsR (p : Page) (k : Nat) : ∀ n, n ≤ cellsIn p k → Ch p (plsR p k n)
  | 0, _ => fun i x z e1 e2 => by simp [plsR] at e1
  | n + 1, h => by
    rw [plsR_succ]
    refine ch_app (ch_plsR p k n (by omega)) (ch_plsC p k n) fun x z e1 e2 => ?_
    cases n with
    | zero => simp [plsR] at e1
    | succ m =>
      rw [plsR_last] at e1
      rw [plsC_head] at e2
      cases e1
      cases e2
      refine ⟨?_, ?_⟩
      · rw [goR_mk, if_neg (by omega), if_pos (by omega)]
      · rw [goL_mk, if_neg (by omega), if_pos (by omega)]
        rfl
theorem plsP_succ (p : Page) (n : Nat) : plsP p (n + 1) = plsP p n ++ plsR p n (cellsIn p n) := by
  unfold plsP
  rw [List.range_succ, List.flatMap_append]
  simp
section
variable {p : Page} (hp : okPage p = true)
include hp
theorem cellsIn_pos {k : Nat} (hk : k < p.length) : ∃ m, cellsIn p k = m + 1 := ⟨cellsIn p k - 1, by have := (cellsIn_le hp hk).1; omega⟩
theorem plsP_last (n : Nat) (h : n < p.length) : (plsP p (n + 1)).getLast? = some (n, cellsIn p n - 1, (cellAt p n (cellsIn p n - 1)).length) := by
  obtain ⟨m, e⟩ := cellsIn_pos hp h
  rw [plsP_succ, e, List.getLast?_append, plsR_last]; rfl
theorem ch_plsP : ∀ n, n ≤ p.length → Ch p (plsP p n)
  | 0, _ => fun i x z e1 e2 => by simp [plsP] at e1
  | n + 1, h => by
    rw [plsP_succ]
    refine ch_app (ch_plsP n (by omega)) (ch_plsR p n _ (Nat.le_refl _)) fun x z e1 e2 => ?_
    cases n with
    | zero => simp [plsP] at e1
    | succ m =>
      rw [plsP_last hp m (by omega)] at e1
      obtain ⟨m', e⟩ := cellsIn_pos hp (k := m + 1) (by omega)
      obtain ⟨m0, e0⟩ := cellsIn_pos hp (k := m) (by omega)
      rw [e, plsR_head] at e2
      cases e1
      cases e2
      refine ⟨?_, ?_⟩
      · rw [goR_mk, if_neg (by omega), if_neg (by omega), if_pos (by omega)]
      · rw [goL_mk, if_neg (by omega), if_neg (by omega), if_pos (by omega)]
        rfl
theorem plc_end : ∃ t, (plc p)[(plc p).length - 1]? = some t ∧ goR p t = t := by
  obtain ⟨p1, _, _⟩ := okPage_parts hp
  obtain ⟨n, e⟩ : ∃ n, p.length = n + 1 := ⟨p.length - 1, by omega⟩
  refine ⟨(n, cellsIn p n - 1, (cellAt p n (cellsIn p n - 1)).length), ?_, ?_⟩
  · rw [← List.getLast?_eq_getElem?]
    unfold plc
    rw [e]
    exact plsP_last hp n (by omega)
  · obtain ⟨m0, e0⟩ := cellsIn_pos hp (k := n) (by omega)
    rw [goR_mk, if_neg (by omega), if_neg (by omega), if_neg (by omega)]
theorem plc_right {j : Nat} {t : Pos3} (h : (plc p)[j]? = some t) : (plc p)[min ((plc p).length - 1) (j + 1)]? = some (goR p t) := by
  have hl := (List.getElem?_eq_some_iff.mp h).1
  by_cases z : j + 1 < (plc p).length
  · rw [Nat.min_eq_right (by omega)]
    have e : (plc p)[j + 1]? = some (plc p)[j + 1] := by simp [z]
    rw [(ch_plsP hp p.length (Nat.le_refl _) j _ _ h e).1]
    exact e
  · rw [Nat.min_eq_left (by omega)]
    obtain ⟨u, e1, e2⟩ := plc_end hp
    have : (plc p).length - 1 = j := by omega
    rw [this] at e1 ⊢
    rw [h] at e1
    cases e1
    rw [e2]; exact h
end
end Dl
namespace Dl
open PySem L2
end Dl
namespace Dl
open PySem L2
end Dl
namespace Dl
open PySem L2
/-- a list of rows of numbers stands at n -/
def Lays (Z : Store) (n : Nat) (p : Page) (f : Nat → Nat → Int) : Prop := Z[n]? = some (.lst (refs (n + 1) p.length)) ∧ ∀ k, k < p.length → Z[n + 1 + k]? = some (.lst (rowI p f k))
theorem lays_of (B : Store) (p : Page) (f : Nat → Nat → Int) : Lays (layS B p f) B.length p f := ⟨lay_found, fun k hk => lay_row hk⟩
theorem Lays.stays {Z Z' : Store} {n : Nat} {p : Page} {f : Nat → Nat → Int} (h : Lays Z n p f) (s : Stays Z Z') : Lays Z' n p f := ⟨s _ _ h.1, fun k hk => s _ _ (h.2 k hk)⟩
theorem bx_at {b b' : Box} {Z m : Store} {k : Nat} {o : Ob} (h : (Bx b Z)[k]? = some o) (hk : 2 ≤ k) : (Bx b' (Z ++ m))[k]? = some o := by
  obtain ⟨j, rfl⟩ : ∃ j, k = j + 2 := ⟨k - 2, by omega⟩
  rw [Bx_get] at h ⊢
  exact get_app h
theorem Lays.bx {b b' : Box} {Z m : Store} {n : Nat} {p : Page} {f : Nat → Nat → Int} (h : Lays (Bx b Z) n p f) (hn : 2 ≤ n) : Lays (Bx b' (Z ++ m)) n p f := ⟨bx_at h.1 hn, fun k hk => bx_at (h.2 k hk) (by omega)⟩
theorem Lays.ixF {Z : Store} {n : Nat} {p : Page} {f : Nat → Nat → Int} (h : Lays Z n p f) {k : Nat} (hk : k < p.length) : ixG Z (.ref n) (.int k) = .ok (.ref (n + 1 + k), Z) := by
  have : lstOf Z (.ref n) = some (refs (n + 1) p.length) := by simp only [lstOf, h.1]
  simp only [ixG, this, atI_nat, refs_get hk]
  rfl
theorem Lays.ixR {Z : Store} {n : Nat} {p : Page} {f : Nat → Nat → Int} (h : Lays Z n p f) {k c : Nat} (hk : k < p.length) (hc : c < cellsIn p k) : ixG Z (.ref (n + 1 + k)) (.int c) = .ok (.int (f k c), Z) := by
  have : lstOf Z (.ref (n + 1 + k)) = some (rowI p f k) := by simp only [lstOf, h.2 k hk]
  simp only [ixG, this, atI_nat, rowI_at f hc]
  rfl
end Dl
namespace Dl
open PySem L2
end Dl
namespace Dl
open PySem L2
theorem ixC {p : Page} {Z : Store} {d : D} {w : List (Nat × List D)} (hd : listOf Z d = some (encP p, w)) {k c : Nat} (hk : k < p.length) (hc : c < cellsIn p k) : ∃ rr, ixG Z d (.int k) = .ok (rr, Z) ∧ ixG Z rr (.int c) = .ok (.str (cellAt p k c), Z) ∧ lenG Z [rr] = .ok (.int (cellsIn p k), Z) := by
  have er : p[k]? = some p[k] := by simp [hk]
  have ci := cellsIn_row er
  have e : cellAt p k c = p[k][c] := by
    have : c < p[k].length := by omega
    simp [cellAt, hk, this]
  refine ⟨encR p[k], ?_, ?_, ?_⟩
  · rw [ix_list hd, atI_nat]; simp [encP, hk]
  · have : c < p[k].length := by omega
    rw [e]
    simp [encR, ixG, atI_nat, this]
  · rw [lenR, ci]
end Dl
namespace Dl
open PySem L2
structure Same (p p' : Page) : Prop where
  len : p'.length = p.length
  cells : ∀ k, cellsIn p' k = cellsIn p k
theorem Same.clo {p p' : Page} (h : Same p p') : clo p' = clo p := by
  funext c k
  by_cases hk : k < p.length
  · rw [clo_cells hk, clo_cells (by rw [h.len]; exact hk), h.cells]
  · rw [clo_out (p := p') (by rw [h.len]; omega), clo_out (p := p) (by omega)]
theorem row_cell {p : Page} {k c : Nat} {r : Row} (hr : p[k]? = some r) (hc : c < r.length) : cellAt p k c = r[c] := by simp [cellAt, hr, hc]
theorem okPage_same {p p' : Page} (hp : okPage p = true) (h : Same p p') (hc : ∀ k c, k < p.length → c < cellsIn p k → okCell (cellAt p' k c) = true) : okPage p' = true := by
  obtain ⟨p1, p2, p3⟩ := okPage_parts hp
  unfold okPage
  simp only [Bool.and_eq_true, decide_eq_true_eq, List.all_eq_true]
  refine ⟨⟨by rw [h.len]; exact p1, by rw [h.len]; exact p2⟩, fun r hr => ?_⟩
  obtain ⟨k, hk⟩ := List.mem_iff_getElem?.mp hr
  have hkl : k < p.length := by rw [← h.len]; exact (List.getElem?_eq_some_iff.mp hk).1
  have e := cellsIn_row hk
  rw [h.cells] at e
  have b := cellsIn_le hp hkl
  unfold okRow
  simp only [Bool.and_eq_true, decide_eq_true_eq, List.all_eq_true]
  refine ⟨⟨by omega, by omega⟩, fun s hs => ?_⟩
  obtain ⟨c, hcc⟩ := List.mem_iff_getElem?.mp hs
  obtain ⟨hcl, hce⟩ := List.getElem?_eq_some_iff.mp hcc
  have := hc k c hkl (by omega)
  rw [row_cell hk hcl, hce] at this
  exact this
structure Sh (p : Page) (c : Nat) (S : Nat → Bool) (p' : Page) : Prop where
  same : Same p p'
  cell : ∀ j c', cellAt p' j c' = if c' = c ∧ S j = true then (cellAt p j c').drop 1 else cellAt p j c'
theorem Sh.refl (p : Page) (c : Nat) : Sh p c (fun _ => false) p := ⟨⟨rfl, fun _ => rfl⟩, fun j c' => by simp⟩
theorem drop_ok {s : List Nat} (h : okCell s = true) : okCell (s.drop 1) = true := by
  unfold okCell at h ⊢
  simp only [Bool.and_eq_true, decide_eq_true_eq, List.all_eq_true] at h ⊢
  exact ⟨by rw [List.length_drop]; omega, fun c hc => h.2 c (List.mem_of_mem_drop hc)⟩
theorem cellAt_ok {p : Page} (hp : okPage p = true) {k c : Nat} (hk : k < p.length) (hc : c < cellsIn p k) : okCell (cellAt p k c) = true := by
  obtain ⟨p1, p2, p3⟩ := okPage_parts hp
  have hr : p[k]? = some p[k] := by simp [hk]
  rw [cellsIn_row hr] at hc
  obtain ⟨r1, r2, r3⟩ := okRow_parts (p3 _ (List.mem_of_getElem? hr))
  rw [row_cell hr hc]
  exact r3 _ (by simp)
theorem Sh.ok {p p' : Page} {c : Nat} {S : Nat → Bool} (h : Sh p c S p') (hp : okPage p = true) : okPage p' = true := by
  refine okPage_same hp h.same fun k c' hk hc => ?_
  rw [h.cell]
  split
  · exact drop_ok (cellAt_ok hp hk hc)
  · exact cellAt_ok hp hk hc
end Dl
namespace Dl
open PySem L2
end Dl
namespace Dl
open PySem L2
end Dl
namespace Dl
open PySem L2
mutual
theorem toP_rd {st : Store} : ∀ (n : Nat) (x d : D), Rd st d x → D.dp x ≤ n → toP st n d = some (D.toQ x)
  | 0, x, _, _, h => by cases x <;> simp [D.dp] at h
  | n + 1, .non, d, h, _ => by rw [Rd] at h; subst h; rfl
  | n + 1, .bl _, d, h, _ => by rw [Rd] at h; subst h; rfl
  | n + 1, .int _, d, h, _ => by rw [Rd] at h; subst h; rfl
  | n + 1, .str _, d, h, _ => by rw [Rd] at h; subst h; rfl
  | n + 1, .tup xs, d, h, k => by
    rw [Rd] at h
    obtain ⟨ds, rfl, h⟩ := h
    rw [D.dp] at k
    rw [toP]
    simp only [toPs_rd n xs ds h (by omega), D.toQ]
  | n + 1, .lst xs, d, h, k => by
    rw [Rd] at h
    obtain ⟨ds, w, hl, h⟩ := h
    rw [D.dp] at k
    have e := toPs_rd n xs ds h (by omega)
    unfold listOf at hl
    split at hl
    · cases hl
      rw [toP]
      simp only [e, D.toQ]
    · split at hl
      · cases hl
        rename_i e2
        rw [toP]
        simp only [e2, e, D.toQ]
      · cases hl
    · cases hl
  | n + 1, .ref _, d, h, _ => by rw [Rd] at h; exact h.elim
  | n + 1, .scr _, d, h, _ => by rw [Rd] at h; exact h.elim
theorem toPs_rd {st : Store} : ∀ (n : Nat) (xs ds : List D), Rds st ds xs → D.dps xs ≤ n → optAll (ds.map (toP st n)) = some (D.toQs xs)
  | n, [], [], _, _ => by simp [optAll, D.toQs]
  | n, x :: xs, d :: ds, h, k => by
    rw [Rds] at h
    rw [D.dps, Nat.max_le] at k
    rw [List.map_cons, toP_rd n x d h.1 k.1, optAll, toPs_rd n xs ds h.2 k.2]
    simp only [D.toQs]
  | n, [], _ :: _, h, _ => by simp [Rds] at h
  | n, _ :: _, [], h, _ => by simp [Rds] at h
end
end Dl
namespace Dl
open PySem L2
end Dl
namespace Dl
open PySem L2
def Sim (x x' : List Nat) : Prop := x.length = x'.length ∧ figs x = figs x'
/-- all rows between are closed -/
def Run (p : Page) (c k j : Nat) : Prop := ∀ i, min k j ≤ i → i ≤ max k j → clo p c i = true
/-- rows of two pages that lie alike -/
structure Xf (p p' : Page) (R : Nat → Nat → Prop) : Prop where
  lt : ∀ k k', R k k' → k < p.length ∧ k' < p'.length
  cells : ∀ k k', R k k' → cellsIn p k = cellsIn p' k'
  sim : ∀ k k' c, R k k' → c < cellsIn p k → Sim (cellAt p k c) (cellAt p' k' c)
  run1 : ∀ k k' c j, R k k' → Run p c k j → ∃ j', R j j' ∧ Run p' c k' j'
  run2 : ∀ k k' c j', R k k' → Run p' c k' j' → ∃ j, R j j' ∧ Run p c k j
section
variable {p p' : Page} {R : Nat → Nat → Prop}
theorem Xf.clo (h : Xf p p' R) {k k' : Nat} (r : R k k') (c : Nat) : clo p' c k' = clo p c k := by
  obtain ⟨a, b⟩ := h.lt k k' r
  rw [clo_cells a, clo_cells b, h.cells k k' r]
end
end Dl
namespace Dl
open PySem L2
theorem All2.snoc {A B : Type} {R : A → B → Prop} {as : List A} {bs : List B} {a : A} {b : B} (h : All2 R as bs) (k : R a b) : All2 R (as ++ [a]) (bs ++ [b]) := h.app ⟨k, trivial⟩
end Dl
namespace Dl
open PySem L2
end Dl
namespace Dl
open PySem L2
@[simp] theorem r_eRevL (m : Bool) (f : EV) (env : Env) (st : Store) : eRevL m f env st = (f env st).bind fun a => match lstOf a.2 a.1 with
  | some ds => newL m ds.reverse a.2
  | none => .bad := (rfl)
theorem laid_rd {p : Page} (hp : okPage p = true) {y : Sty} (hy : y.ok) {d : D} {w : List (Nat × List D)} {st : Store} (hd : listOf st d = some (encP p, w)) : ∃ n M, m_laid [d, y.enc] st = .ok (.ref n, st ++ M) ∧ st.length ≤ n ∧ Lays (st ++ M) n p (bAt p y) := by
  obtain ⟨M, so⟩ := laid_ok hp hy hd
  obtain ⟨m, e⟩ := lay_pre st M p (bAt p y)
  refine ⟨st.length + M.length, m, by rw [← e]; exact so, by omega, ?_⟩
  have := lays_of (st ++ M) p (bAt p y)
  rwa [e, List.length_append] at this
/-- references to rows read as rows -/
theorem rds_rows {S : Store} {ds xs : List D} (hl : ds.length = xs.length) (h : ∀ (i : Nat) (d : D), ds[i]? = some d → ∃ n l, d = .ref n ∧ S[n]? = some (.lst l) ∧ xs[i]? = some (.lst l) ∧ D.pks l = true) : Rds S ds xs := rds_mk hl fun i d x e1 e2 => by
  obtain ⟨n, l, rfl, h1, h2, h3⟩ := h i d e1
  rw [h2] at e2
  cases e2
  rw [Rd]
  exact ⟨l, [(n, l)], by simp only [listOf, h1], rds_self h3⟩
@[simp] theorem rowsD_len (p : Page) (f : Nat → Nat → Int) : (rowsD p f).length = p.length := by simp [rowsD]
theorem rowsD_at {p : Page} {f : Nat → Nat → Int} {i : Nat} (h : i < p.length) : (rowsD p f)[i]? = some (.lst (rowI p f i)) := by simp [rowsD, h]
theorem rd_lays {S : Store} {n : Nat} {p : Page} {f : Nat → Nat → Int} (h : Lays S n p f) : Rd S (.ref n) (.lst (rowsD p f)) := by
  rw [Rd]
  refine ⟨refs (n + 1) p.length, [(n, refs (n + 1) p.length)], by simp only [listOf, h.1], rds_rows (by simp) fun i d e => ?_⟩
  have hi : i < p.length := by have := (List.getElem?_eq_some_iff.mp e).1; simpa using this
  rw [refs_get hi] at e
  cases e
  exact ⟨_, _, rfl, h.2 i hi, rowsD_at hi, rowI_pks p f i⟩
theorem rowsD_pl (p : Page) (f : Nat → Nat → Int) : D.pl (.lst (rowsD p f)) = true := by
  rw [pl_lst]
  exact pls_iff.mpr fun d hd => by
    obtain ⟨k, _, rfl⟩ := List.mem_map.mp hd
    rw [pl_lst]; exact pls_ints _
theorem eq_same {S : Store} {a b x : D} (h1 : Rd S a x) (h2 : Rd S b x) (hp : D.pl x = true) (hd : D.dp x ≤ 40) : eqG true S a b = .ok (.bl false, S) := by
  unfold eqG
  rw [toP_rd 40 _ _ h1 hd, toP_rd 40 _ _ h2 hd]
  simp only [eqv_pl x x hp hp, D.beq_refl]
  rfl
theorem eq_rows {S : Store} {a b : D} {p : Page} {f : Nat → Nat → Int} (h1 : Rd S a (.lst (rowsD p f))) (h2 : Rd S b (.lst (rowsD p f))) : eqG true S a b = .ok (.bl false, S) :=
  eq_same h1 h2 (rowsD_pl p f) (Nat.le_trans (rowsD_dp p f) (by decide))
theorem okPage_mk {p : Page} (h1 : 1 ≤ p.length) (h2 : p.length ≤ 30) (h3 : ∀ r ∈ p, okRow r = true) : okPage p = true := by
  unfold okPage
  simp only [Bool.and_eq_true, decide_eq_true_eq, List.all_eq_true]
  exact ⟨⟨h1, h2⟩, h3⟩
end Dl
namespace Dl
open PySem L2
def shFs (p : Page) (y : Sty) (L Q : Nat) : List (Str × D) := [("rows", .lst (encP p)), ("style", y.enc), ("lefts", .ref L), ("past", .ref Q)]
def cuFs (n : Nat) (t : Pos3) : List (Str × D) := [("sheet", .ref n), ("number", .int t.1), ("cell", .int t.2.1), ("place", .int t.2.2)]
theorem look_hit {A : Type} (x : Str) (a : A) (r : List (Str × A)) : ((x, a) :: r).lookup x = some a := by simp [List.lookup_cons]
theorem look_miss {A : Type} {x z : Str} (a : A) (r : List (Str × A)) (h : (x == z) = false) : ((z, a) :: r).lookup x = r.lookup x := by rw [List.lookup_cons, h]
section
variable (p : Page) (y : Sty) (L Q : Nat)
theorem sh_rows : (shFs p y L Q).lookup ("rows" : Str) = some (.lst (encP p)) := look_hit _ _ _
theorem sh_style : (shFs p y L Q).lookup ("style" : Str) = some y.enc := by
  unfold shFs
  rw [look_miss _ _ (by decide +kernel), look_hit]
theorem sh_lefts : (shFs p y L Q).lookup ("lefts" : Str) = some (.ref L) := by
  unfold shFs
  rw [look_miss _ _ (by decide +kernel), look_miss _ _ (by decide +kernel), look_hit]
theorem sh_past : (shFs p y L Q).lookup ("past" : Str) = some (.ref Q) := by
  unfold shFs
  rw [look_miss _ _ (by decide +kernel), look_miss _ _ (by decide +kernel), look_miss _ _ (by decide +kernel), look_hit]
theorem sh_no {m : Str} (h1 : (m == "rows") = false) (h2 : (m == "style") = false) (h3 : (m == "lefts") = false) (h4 : (m == "past") = false) : (shFs p y L Q).lookup m = none := by
  unfold shFs
  rw [look_miss _ _ h1, look_miss _ _ h2, look_miss _ _ h3, look_miss _ _ h4]; rfl
theorem sh_page : (shFs p y L Q).lookup ("page" : Str) = none := sh_no p y L Q (by decide +kernel) (by decide +kernel) (by decide +kernel) (by decide +kernel)
theorem sh_back : (shFs p y L Q).lookup ("back" : Str) = none := sh_no p y L Q (by decide +kernel) (by decide +kernel) (by decide +kernel) (by decide +kernel)
end
theorem put_sh (a b c d : D) : putD "past" d (putD "lefts" c (putD "style" b (putD "rows" a []))) = ([("rows", a), ("style", b), ("lefts", c), ("past", d)] : List (Str × D)) := by
  simp only [putD, show ¬ (("rows" : Str) = "style") by decide +kernel, show ¬ (("rows" : Str) = "lefts") by decide +kernel, show ¬ (("rows" : Str) = "past") by decide +kernel, show ¬ (("style" : Str) = "lefts") by decide +kernel, show ¬ (("style" : Str) = "past") by decide +kernel, show ¬ (("lefts" : Str) = "past") by decide +kernel, if_false]
section
variable (n : Nat) (t : Pos3)
theorem cu_sheet : (cuFs n t).lookup ("sheet" : Str) = some (.ref n) := look_hit _ _ _
theorem cu_number : (cuFs n t).lookup ("number" : Str) = some (.int t.1) := by
  unfold cuFs
  rw [look_miss _ _ (by decide +kernel), look_hit]
theorem cu_cell : (cuFs n t).lookup ("cell" : Str) = some (.int t.2.1) := by
  unfold cuFs
  rw [look_miss _ _ (by decide +kernel), look_miss _ _ (by decide +kernel), look_hit]
theorem cu_place : (cuFs n t).lookup ("place" : Str) = some (.int t.2.2) := by
  unfold cuFs
  rw [look_miss _ _ (by decide +kernel), look_miss _ _ (by decide +kernel), look_miss _ _ (by decide +kernel), look_hit]
theorem cu_no {m : Str} (h1 : (m == "sheet") = false) (h2 : (m == "number") = false) (h3 : (m == "cell") = false) (h4 : (m == "place") = false) : (cuFs n t).lookup m = none := by
  unfold cuFs
  rw [look_miss _ _ h1, look_miss _ _ h2, look_miss _ _ h3, look_miss _ _ h4]; rfl
theorem cu_at : (cuFs n t).lookup ("at" : Str) = none := cu_no n t (by decide +kernel) (by decide +kernel) (by decide +kernel) (by decide +kernel)
theorem cu_mine : (cuFs n t).lookup ("mine" : Str) = none := cu_no n t (by decide +kernel) (by decide +kernel) (by decide +kernel) (by decide +kernel)
theorem cu_go : (cuFs n t).lookup ("go" : Str) = none := cu_no n t (by decide +kernel) (by decide +kernel) (by decide +kernel) (by decide +kernel)
theorem cu_right : (cuFs n t).lookup ("right" : Str) = none := cu_no n t (by decide +kernel) (by decide +kernel) (by decide +kernel) (by decide +kernel)
theorem cu_page : (cuFs n t).lookup ("page" : Str) = none := cu_no n t (by decide +kernel) (by decide +kernel) (by decide +kernel) (by decide +kernel)
end
theorem put_cu (a b c d : D) : putD "place" d (putD "cell" c (putD "number" b (putD "sheet" a []))) = ([("sheet", a), ("number", b), ("cell", c), ("place", d)] : List (Str × D)) := by
  simp only [putD, show ¬ (("sheet" : Str) = "number") by decide +kernel, show ¬ (("sheet" : Str) = "cell") by decide +kernel, show ¬ (("sheet" : Str) = "place") by decide +kernel, show ¬ (("number" : Str) = "cell") by decide +kernel, show ¬ (("number" : Str) = "place") by decide +kernel, show ¬ (("cell" : Str) = "place") by decide +kernel, if_false]
theorem put_number (n : Nat) (t : Pos3) (a : Nat) : putD "number" (.int a) (cuFs n t) = cuFs n (a, t.2.1, t.2.2) := by
  simp only [cuFs, putD, show ¬ (("sheet" : Str) = "number") by decide +kernel, if_false, if_true]
theorem put_cell (n : Nat) (t : Pos3) (a : Nat) : putD "cell" (.int a) (cuFs n t) = cuFs n (t.1, a, t.2.2) := by
  simp only [cuFs, putD, show ¬ (("sheet" : Str) = "cell") by decide +kernel, show ¬ (("number" : Str) = "cell") by decide +kernel, if_false, if_true]
theorem put_place (n : Nat) (t : Pos3) (a : Nat) : putD "place" (.int a) (cuFs n t) = cuFs n (t.1, t.2.1, a) := by
  simp only [cuFs, putD, show ¬ (("sheet" : Str) = "place") by decide +kernel, show ¬ (("number" : Str) = "place") by decide +kernel, show ¬ (("cell" : Str) = "place") by decide +kernel, if_false, if_true]
theorem set_self {S : Store} {c : Nat} {o o' : Ob} (h : S[c]? = some o') : (S.set c o)[c]? = some o := by
  rw [List.getElem?_set_self (List.getElem?_eq_some_iff.mp h).1]
theorem listG_of {st : Store} {d : D} {ds : List D} {w : List (Nat × List D)} (h : listOf st d = some (ds, w)) : listG false st [d] = .ok (.lst ds, st) := by
  unfold listOf at h
  split at h
  · cases h; simp [listG, lstOf, newL]
  · split at h
    · cases h
      rename_i e
      simp [listG, lstOf, e, newL]
    · cases h
  · cases h
/-- where the cells of some rows begin, kept -/
theorem lefts_ok {p : Page} (hp : okPage p = true) (y : Sty) {d : D} {w : List (Nat × List D)} {st : Store} (hd : listOf st d = some (encP p, w)) :
    ∃ k M1 n M2, m_all_stretches [d] st = .ok (.ref k, st ++ M1) ∧ m_begins_by [d, y.enc, .ref k] (st ++ M1) = .ok (.ref n, st ++ M1 ++ M2) ∧ st.length ≤ n ∧ Lays (st ++ M1 ++ M2) n p (bAt p y) := by
  obtain ⟨RR, more, ha, hR⟩ := all_stretches_ok hp hd
  have hd1 : listOf (st ++ .lst RR :: more) d = some (encP p, w) := listOf_stays (Stays.app _ _) hd
  obtain ⟨kvs, sb⟩ := begins_by_ok hp y hd1 (n := st.length) (RR := RR) (by simp) hR
  obtain ⟨m, e⟩ := lay_pre (st ++ .lst RR :: more) [.dT kvs] p (bAt p y)
  have la := lays_of ((st ++ .lst RR :: more) ++ [.dT kvs]) p (bAt p y)
  rw [e] at sb la
  refine ⟨_, _, _, _, ha, sb, by simp; omega, ?_⟩
  have : ((st ++ .lst RR :: more) ++ [Ob.dT kvs]).length = (st ++ .lst RR :: more).length + 1 := by simp; omega
  rwa [this] at la
theorem app_get (st : Store) (o : Ob) (M : Store) : (st ++ o :: M)[st.length]? = some o := by simp
theorem app_set (st : Store) (o o' : Ob) (M : Store) : (st ++ o :: M).set st.length o' = st ++ o' :: M := by simp
def m_Sheet_init : FV := funD 3 (d_Sheet_init m_need_page m_need_style m_begins_by m_all_stretches)
theorem Sheet_init_ok {p : Page} (hp : okPage p = true) {y : Sty} (hy : y.ok) {d : D} {w : List (Nat × List D)} {st : Store} (hd : listOf st d = some (encP p, w)) :
    ∃ M L Q, m_Sheet_init [.ref st.length, d, y.enc] (st ++ [.ins 13 []]) = .ok (.non, st ++ .ins 13 (shFs p y L Q) :: M) ∧ Lays (st ++ .ins 13 (shFs p y L Q) :: M) L p (bAt p y) ∧ (st ++ .ins 13 (shFs p y L Q) :: M)[Q]? = some (.lst []) ∧ st.length < L ∧ L + p.length < Q := by
  rw [m_Sheet_init, funD, d_Sheet_init]
  have hS : ∀ o M, listOf (st ++ o :: M) d = some (encP p, w) := fun o M => listOf_stays (Stays.app _ _) hd
  have np := need_page_ok (hS (.ins 13 []) []) hp
  have ns := need_style_ok hy (st ++ [.ins 13 []])
  have lg := listG_of (hS (.ins 13 []) [])
  obtain ⟨f1, hf1⟩ : ∃ f1, f1 = putD "rows" (.lst (encP p)) [] := ⟨_, rfl⟩
  obtain ⟨f2, hf2⟩ : ∃ f2, f2 = putD "style" y.enc f1 := ⟨_, rfl⟩
  have l1 : f1.length < 900 := by rw [hf1]; have := put_len "rows" (.lst (encP p)) []; simp at this; omega
  have l2 : f2.length < 900 := by rw [hf2, hf1]; have := put_len "style" y.enc (putD "rows" (.lst (encP p)) []); have := put_len "rows" (.lst (encP p)) []; simp at *; omega
  have r2 : f2.lookup ("rows" : Str) = some (.lst (encP p)) := by
    rw [hf2, hf1]
    simp only [putD, show ¬ (("rows" : Str) = "style") by decide +kernel, if_false]
    exact look_hit _ _ _
  obtain ⟨k, M1, n, M2, as, bb, hn, la⟩ := lefts_ok hp y (d := .lst (encP p)) (w := []) (st := st ++ [.ins 13 f2]) rfl
  obtain ⟨f3, hf3⟩ : ∃ f3, f3 = putD "lefts" (.ref n) f2 := ⟨_, rfl⟩
  have l3 : f3.length < 900 := by rw [hf3]; have := put_len "lefts" (.ref n) f2; rw [hf2, hf1] at *; have := put_len "style" y.enc (putD "rows" (.lst (encP p)) []); have := put_len "rows" (.lst (encP p)) []; simp at *; omega
  have e1 : st ++ [Ob.ins 13 f2] ++ M1 = st ++ .ins 13 f2 :: M1 := by simp
  have e2 : st ++ [Ob.ins 13 f2] ++ M1 ++ M2 = st ++ .ins 13 f2 :: (M1 ++ M2) := by simp
  rw [e1] at as bb
  rw [e2] at la
  rw [show st ++ Ob.ins 13 f2 :: M1 ++ M2 = st ++ .ins 13 f2 :: (M1 ++ M2) by simp] at bb
  have g1 := app_get st (.ins 13 []) []
  have g2 := app_get st (.ins 13 f1) []
  have g3 := app_get st (.ins 13 f2) []
  have g4 := app_get st (.ins 13 f2) (M1 ++ M2)
  have g5 := app_get st (.ins 13 f3) (M1 ++ M2 ++ [.lst []])
  have s1 := app_set st (.ins 13 []) (.ins 13 f1) []
  have s2 := app_set st (.ins 13 f1) (.ins 13 f2) []
  have s3 := app_set st (.ins 13 f2) (.ins 13 f3) (M1 ++ M2)
  obtain ⟨q, hq⟩ : ∃ q, q = (st ++ .ins 13 f3 :: (M1 ++ M2)).length := ⟨_, rfl⟩
  have e4 : st ++ Ob.ins 13 f3 :: (M1 ++ M2) ++ [.lst []] = st ++ .ins 13 f3 :: (M1 ++ M2 ++ [.lst []]) := by simp
  have hf4 : putD "past" (.ref q) f3 = shFs p y n q := by
    rw [hf3, hf2, hf1]; exact put_sh _ _ _ _
  have s4 := app_set st (.ins 13 f3) (.ins 13 (shFs p y n q)) (M1 ++ M2 ++ [.lst []])
  have ql : q = st.length + (M1.length + M2.length + 1) := by rw [hq]; simp
  refine ⟨M1 ++ M2 ++ [.lst []], n, q, ?_, ?_, ?_, ?_, ?_⟩
  · generalize hA : st ++ [Ob.ins 13 []] = A at *
    generalize hB : st ++ [Ob.ins 13 f1] = B at *
    generalize hC : st ++ [Ob.ins 13 f2] = C at *
    generalize hDD : st ++ Ob.ins 13 f2 :: M1 = DD at *
    generalize hE : st ++ Ob.ins 13 f2 :: (M1 ++ M2) = EE at *
    generalize hF : st ++ Ob.ins 13 f3 :: (M1 ++ M2) = FF at *
    generalize hG : st ++ Ob.ins 13 f3 :: (M1 ++ M2 ++ [.lst []]) = GG at *
    simp [np, ns, lg, g1, ← hf1, s1, g2, l1, ← hf2, s2, g3, r2, as, bb, g4, l2, ← hf3, s3, e4, ← hq, g5, l3, hf4, s4]
  · have key : ∀ (i : Nat) (o : Ob), st.length < i → (st ++ .ins 13 f2 :: (M1 ++ M2))[i]? = some o → (st ++ .ins 13 (shFs p y n q) :: (M1 ++ M2 ++ [.lst []]))[i]? = some o := fun i o hi e => by
      rw [List.getElem?_append_right (by omega)] at e ⊢
      obtain ⟨j, ej⟩ : ∃ j, i - st.length = j + 1 := ⟨i - st.length - 1, by omega⟩
      rw [ej] at e ⊢
      rw [List.getElem?_cons_succ] at e ⊢
      exact get_app e
    simp at hn
    exact ⟨key _ _ (by omega) la.1, fun k hk => key _ _ (by omega) (la.2 k hk)⟩
  · rw [ql, List.getElem?_append_right (by omega)]
    rw [show st.length + (M1.length + M2.length + 1) - st.length = M1.length + M2.length + 1 by omega, List.getElem?_cons_succ, List.getElem?_append_right (by simp)]
    simp
  · simp at hn; omega
  · have : (st ++ .ins 13 f2 :: (M1 ++ M2))[n]? = some _ := la.1
    by_cases z : p.length = 0
    · have := okPage_parts hp; omega
    · have h2 := la.2 (p.length - 1) (by omega)
      have := (List.getElem?_eq_some_iff.mp h2).1
      rw [ql]
      simp at this
      omega
/-- a sheet -/
def ShAt (S : Store) (n : Nat) (p : Page) (y : Sty) (ps : List Page) (lo : Nat) : Prop := ∃ L Q, S[n]? = some (.ins 13 (shFs p y L Q)) ∧ Lays S L p (bAt p y) ∧ S[Q]? = some (.lst (ps.map fun q => .lst (encP q))) ∧ lo ≤ L ∧ lo ≤ Q ∧ (Q < L ∨ L + p.length < Q)
end Dl
namespace Dl
open PySem L2
theorem set_same {S : Store} {c : Nat} {o : Ob} (h : S[c]? = some o) : S.set c o = S := by
  obtain ⟨hl, e⟩ := List.getElem?_eq_some_iff.mp h
  subst e
  exact List.set_getElem_self hl
theorem eq_trip {neg : Bool} {S : Store} (s t : Pos3) : eqG neg S (encT s) (encT t) = .ok (.bl (if neg = true then !decide (s = t) else decide (s = t)), S) := by
  rw [eqG_pl (by rfl) (by rfl) (by simp [encT]) (by simp [encT])]
  have : (encT s = encT t) ↔ (s = t) := ⟨encT_inj, fun h => by rw [h]⟩
  simp only [decide_eq_decide.mpr this]
/-- all objects stay -/
def Pre (S S' : Store) : Prop := ∀ (i : Nat) (o : Ob), S[i]? = some o → S'[i]? = some o
theorem Pre.app (S M : Store) : Pre S (S ++ M) := fun _ _ h => get_app h
theorem Pre.stays {S S' : Store} (h : Pre S S') : Stays S S' := fun i o e => h i _ e
theorem ShAt.pre {S S' : Store} {n lo : Nat} {p : Page} {y : Sty} {ps : List Page} (h : ShAt S n p y ps lo) (s : Pre S S') : ShAt S' n p y ps lo := by
  obtain ⟨L, Q, h1, h2, h3, h4⟩ := h
  exact ⟨L, Q, s _ _ h1, h2.stays s.stays, s _ _ h3, h4⟩
theorem set_keep {S : Store} {c k : Nat} {o o' : Ob} (hne : k ≠ c) (h : S[k]? = some o) : (S.set c o')[k]? = some o := by
  rw [List.getElem?_set_ne (Ne.symm hne)]; exact h
theorem Lays.set {S : Store} {L c : Nat} {p : Page} {f : Nat → Nat → Int} {o : Ob} (h : Lays S L p f) (hc : c < L) : Lays (S.set c o) L p f :=
  ⟨set_keep (by omega) h.1, fun k hk => set_keep (by omega) (h.2 k hk)⟩
/-- a cursor at a place of a sheet -/
structure Cu (S : Store) (c n : Nat) (p : Page) (y : Sty) (L Q : Nat) (t : Pos3) : Prop where
  cu : S[c]? = some (.ins 14 (cuFs n t))
  sh : S[n]? = some (.ins 13 (shFs p y L Q))
  la : Lays S L p (bAt p y)
  pa : S[Q]? = some (.lst [])
  va : Valid p t
  cn : c < n
  nL : n < L
  LQ : L + p.length < Q
def mv (S : Store) (c n : Nat) (t : Pos3) : Store := S.set c (.ins 14 (cuFs n t))
section
variable {S : Store} {c n L Q : Nat} {p : Page} {y : Sty} {t : Pos3}
theorem Cu.pre {S' : Store} (h : Cu S c n p y L Q t) (s : Pre S S') : Cu S' c n p y L Q t := ⟨s _ _ h.cu, s _ _ h.sh, h.la.stays s.stays, s _ _ h.pa, h.va, h.cn, h.nL, h.LQ⟩
theorem Cu.move (h : Cu S c n p y L Q t) {t' : Pos3} (v : Valid p t') : Cu (mv S c n t') c n p y L Q t' :=
  ⟨set_self h.cu, set_keep (by have := h.cn; omega) h.sh, h.la.set (by have := h.cn; have := h.nL; omega), set_keep (by have := h.cn; have := h.nL; have := h.LQ; omega) h.pa, v, h.cn, h.nL, h.LQ⟩
theorem Cu.same (h : Cu S c n p y L Q t) : mv S c n t = S := set_same h.cu
def m_Cursor_at : FV := funD 1 d_Cursor_at
theorem at_ok (h : Cu S c n p y L Q t) : m_Cursor_at [.ref c] S = .ok (encT t, S) := by
  rw [m_Cursor_at, funD, d_Cursor_at]
  simp [h.cu, cu_number, cu_cell, cu_place, encT]
def m_Cursor_go : FV := funD 5 (d_Cursor_go m_Cursor_at)
theorem go_ok (h : Cu S c n p y L Q t) (t' : Pos3) : m_Cursor_go [.ref c, .int t'.1, .int t'.2.1, .int t'.2.2] S = .ok (.bl (!decide (t' = t)), mv S c n t') := by
  rw [m_Cursor_go, funD, d_Cursor_go]
  have a := at_ok h
  have e : eqG true S (.tup [.int t'.1, .int t'.2.1, .int t'.2.2]) (encT t) = .ok (.bl (!decide (t' = t)), S) := eq_trip (neg := true) t' t
  have f4 : ∀ u, (cuFs n u).length = 4 := fun u => rfl
  have ss : ∀ o, (S.set c o)[c]? = some o := fun o => set_self h.cu
  have hcu := h.cu
  simp [hcu, cu_at, a, e, f4, ss, put_number, put_cell, put_place, mv]
def m_Cursor_mine : FV := funD 1 d_Cursor_mine
theorem mine_ok (h : Cu S c n p y L Q t) : ∃ rr, m_Cursor_mine [.ref c] S = .ok (rr, S) ∧ lenG S [rr] = .ok (.int (cellsIn p t.1), S) ∧ ixG S rr (.int t.2.1) = .ok (.str (cellAt p t.1 t.2.1), S) := by
  obtain ⟨rr, i1, i2, i3⟩ := ixC (Z := S) (d := .lst (encP p)) (w := []) rfl h.va.1 h.va.2.1
  refine ⟨rr, ?_, i3, i2⟩
  rw [m_Cursor_mine, funD, d_Cursor_mine]
  simp [h.cu, h.sh, cu_sheet, cu_number, sh_rows, i1, -ix_lst]
def m_Cursor_right : FV := funD 1 (d_Cursor_right m_Cursor_mine m_Cursor_go)
theorem right_ok (hp : okPage p = true) (h : Cu S c n p y L Q t) : m_Cursor_right [.ref c] S = .ok (.bl (!decide (goR p t = t)), mv S c n (goR p t)) := by
  rw [m_Cursor_right, funD, d_Cursor_right]
  obtain ⟨rr, mi, m2, m3⟩ := mine_ok h
  obtain ⟨a, b, e⟩ := t
  obtain ⟨v1, v2, v3⟩ := h.va
  simp only at v1 v2 v3 m2 m3
  have hcu := h.cu
  have hsh := h.sh
  have l1 : lenG S [.str (cellAt p a b)] = .ok (.int (cellAt p a b).length, S) := rfl
  have l2 : lenG S [.lst (encP p)] = .ok (.int p.length, S) := by
    have := len_list (st := S) (d := .lst (encP p)) (w := (encP p, [])) rfl
    rwa [encP_len] at this
  rw [goR_mk]
  by_cases z1 : e < (cellAt p a b).length
  · have z1' : (e : Int) < ((cellAt p a b).length : Int) := by omega
    have g := go_ok h (a, b, e + 1)
    simp only at g
    rw [show ((e + 1 : Nat) : Int) = (e : Int) + 1 by omega] at g
    rw [if_pos z1]
    simp [hcu, cu_number, cu_cell, cu_place, cu_go, cu_mine, mi, m3, l1, ltG, addG, z1, z1', g, -Prod.mk.injEq]
  · have z1' : ¬ (e : Int) < ((cellAt p a b).length : Int) := by omega
    rw [if_neg z1]
    by_cases z2 : b + 1 < cellsIn p a
    · have z2' : (b : Int) < (cellsIn p a : Int) - 1 := by omega
      have g := go_ok h (a, b + 1, 0)
      simp only at g
      rw [show ((b + 1 : Nat) : Int) = (b : Int) + 1 by omega] at g
      rw [if_pos z2]
      simp at g
      simp [hcu, cu_number, cu_cell, cu_place, cu_go, cu_mine, mi, m2, m3, l1, ltG, addG, subG, z1, z1', z2, z2', g]
    · have z2' : ¬ (b : Int) < (cellsIn p a : Int) - 1 := by omega
      rw [if_neg z2]
      by_cases z3 : a + 1 < p.length
      · have z3' : (a : Int) < (p.length : Int) - 1 := by omega
        have g := go_ok h (a + 1, 0, 0)
        simp only at g
        rw [show ((a + 1 : Nat) : Int) = (a : Int) + 1 by omega] at g
        rw [if_pos z3]
        simp at g
        simp [hcu, hsh, cu_sheet, sh_rows, cu_number, cu_cell, cu_place, cu_go, cu_mine, mi, m2, m3, l1, l2, ltG, addG, subG, z1, z1', z2, z2', z3, z3', g]
      · have z3' : ¬ (a : Int) < (p.length : Int) - 1 := by omega
        rw [if_neg z3, h.same]
        simp [hcu, hsh, cu_sheet, sh_rows, cu_number, cu_cell, cu_place, cu_mine, mi, m2, m3, l1, l2, ltG, subG, z1, z1', z2, z2', z3, z3']
end
end Dl
namespace Dl
open PySem L2
section
variable {S : Store} {c n L Q : Nat} {p : Page} {y : Sty} {t : Pos3}
theorem goR_valid (hp : okPage p = true) (v : Valid p t) : Valid p (goR p t) := by
  obtain ⟨i, hi⟩ := List.mem_iff_getElem?.mp (plc_mem.mpr v)
  exact plc_mem.mp (List.mem_of_getElem? (plc_right hp hi))
def m_Sheet_page : FV := funD 1 d_Sheet_page
def m_Cursor_page : FV := funD 1 (d_Cursor_page m_Sheet_page)
theorem sh_page_ok {S : Store} {n : Nat} {p : Page} {y : Sty} {L Q : Nat} (h : S[n]? = some (.ins 13 (shFs p y L Q))) : m_Sheet_page [.ref n] S = .ok (.ref S.length, S ++ [.lst (encP p)]) := by
  rw [m_Sheet_page, funD, d_Sheet_page]
  simp [h, sh_rows, listG, lstOf]
theorem page_c_ok (h : Cu S c n p y L Q t) : m_Cursor_page [.ref c] S = .ok (.ref S.length, S ++ [.lst (encP p)]) := by
  rw [m_Cursor_page, funD, d_Cursor_page]
  have sp := sh_page_ok h.sh
  simp [h.cu, h.sh, cu_sheet, sh_page, sp]
def m_Sheet_back : FV := funD 1 (d_Sheet_back m_begins_by m_all_stretches)
end
end Dl
namespace Dl
open PySem L2
/-- Sheet_begins: 2 slots, 1 parameters -/
def d_Sheet_begins : SV := sRet (eLc true (iSeq (eFld 13 "lefts" (eV 0))) [1] (.one 1) (tYesD) (eB (listG true) (aCons (eV 1) (aNil))))
/-- Sheet_need_number: 3 slots, 3 parameters -/
def d_Sheet_need_number (m_is_number : FV) : SV := sIf (tNotD (tv (eCall 3 m_is_number (aCons (eV 1) (aCons (eC (.int 0)) (aCons (eV 2) (aNil))))))) (sRaise 3) (sNext)
/-- Sheet_turn_to: 8 slots, 3 parameters -/
def d_Sheet_turn_to (m_begins_by : FV) (m_all_stretches : FV) : SV := sCons (sAsg (eFld 13 "lefts" (eV 0)) (gN 3)) (sCons (sExpr (eMt "list" (appendG) (eFld 13 "past" (eV 0)) (aCons (eFld 13 "rows" (eV 0)) (aNil)))) (sCons (sFldD 13 "rows" (eV 0) (eV 1)) (sCons (sFldD 13 "lefts" (eV 0) (eCall 3 m_begins_by (aCons (eV 1) (aCons (eFld 13 "style" (eV 0)) (aCons (eCall 1 m_all_stretches (aCons (eV 1) (aNil))) (aNil)))))) (sCons (sAsg (eLst true (aNil)) (gN 4)) (sCons (sFor (iEn (aCons (eV 2) (aNil))) (gTp 2 (gsCons (gN 5) (gsCons (gN 6) (gsNil)))) (sIf (tv (eOp (isG true) (eV 6) (eC .non))) (sFor (iR1 (aCons (eB lenG (aCons (eOp ixG (eV 1) (eV 5)) (aNil))) (aNil))) (gN 7) (sIf (tv (eOp (eqG true) (eOp ixG (eOp ixG (eV 3) (eV 6)) (eV 7)) (eOp ixG (eOp ixG (eFld 13 "lefts" (eV 0)) (eV 5)) (eV 7)))) (sExpr (eMt "list" (appendG) (eV 4) (aCons (eTup (aCons (eV 5) (aCons (eV 7) (aCons (eOp ixG (eOp ixG (eV 3) (eV 6)) (eV 7)) (aCons (eOp ixG (eOp ixG (eFld 13 "lefts" (eV 0)) (eV 5)) (eV 7)) (aNil)))))) (aNil)))) (sNext))) (sNext))) (sRet (eV 4)))))))
/-- Sheet_change: 5 slots, 3 parameters -/
def d_Sheet_change (m_Sheet_need_number : FV) (m_need_row : FV) (m_Sheet_turn_to : FV) : SV := sCons (sExpr (eMeth 13 "need_number" 3 m_Sheet_need_number (eV 0) (aCons (eV 1) (aCons (eOp subG (eB lenG (aCons (eFld 13 "rows" (eV 0)) (aNil))) (eC (.int 1))) (aNil))))) (sCons (sExpr (eCall 1 m_need_row (aCons (eV 2) (aNil)))) (sCons (sAsg (eLR false (eB lenG (aCons (eFld 13 "rows" (eV 0)) (aNil)))) (gN 3)) (sCons (sAsg (eOp (addG false) (eOp (addG false) (eSl false (eFld 13 "rows" (eV 0)) (poNone) (poSome (eV 1))) (eLst false (aCons (eV 2) (aNil)))) (eSl false (eFld 13 "rows" (eV 0)) (poSome (eOp (addG false) (eV 1) (eC (.int 1)))) (poNone))) (gN 4)) (sRet (eMeth 13 "turn_to" 3 m_Sheet_turn_to (eV 0) (aCons (eV 4) (aCons (eOp (addG false) (eOp (addG false) (eSl false (eV 3) (poNone) (poSome (eV 1))) (eLst false (aCons (eC .non) (aNil)))) (eSl false (eV 3) (poSome (eOp (addG false) (eV 1) (eC (.int 1)))) (poNone))) (aNil))))))))
/-- Sheet_need_place: 4 slots, 4 parameters -/
def d_Sheet_need_place (m_Sheet_need_number : FV) (m_is_number : FV) : SV := sCons (sExpr (eMeth 13 "need_number" 3 m_Sheet_need_number (eV 0) (aCons (eV 1) (aCons (eOp subG (eB lenG (aCons (eFld 13 "rows" (eV 0)) (aNil))) (eC (.int 1))) (aNil))))) (sCons (sIf (tNotD (tv (eCall 3 m_is_number (aCons (eV 2) (aCons (eC (.int 0)) (aCons (eOp subG (eB lenG (aCons (eOp ixG (eFld 13 "rows" (eV 0)) (eV 1)) (aNil))) (eC (.int 1))) (aNil))))))) (sRaise 4) (sNext)) (sIf (tNotD (tv (eCall 3 m_is_number (aCons (eV 3) (aCons (eC (.int 0)) (aCons (eB lenG (aCons (eOp ixG (eOp ixG (eFld 13 "rows" (eV 0)) (eV 1)) (eV 2)) (aNil))) (aNil))))))) (sRaise 4) (sNext)))
/-- Sheet_strike_k10: 9 slots, 5 parameters -/
def d_Sheet_strike_k10 (m_Sheet_need_place : FV) (m_is_sign : FV) (m_is_cell : FV) (m_Sheet_change : FV) : SV := sCons (sExpr (eMeth 13 "need_place" 4 m_Sheet_need_place (eV 0) (aCons (eV 1) (aCons (eV 2) (aCons (eV 3) (aNil)))))) (sCons (sAsg (eOp ixG (eFld 13 "rows" (eV 0)) (eV 1)) (gN 5)) (sCons (sAsg (eOp ixG (eV 5) (eV 2)) (gN 6)) (sCons (sIf (tv (eOp (eqG false) (eV 4) (eC (.str [9])))) (sCons (sIf (tv (eOp (eqG false) (eB lenG (aCons (eV 5) (aNil))) (eC (.int 6)))) (sRaise 4) (sNext)) (sAsg (eTup (aCons (eSl false (eV 6) (poNone) (poSome (eV 3))) (aCons (eSl false (eV 6) (poSome (eV 3)) (poNone)) (aNil)))) (gN 7))) (sCons (sIf (tOrD (tNotD (tv (eIs "str" (eV 4)))) (tOrD (tv (eOp (eqG true) (eB lenG (aCons (eV 4) (aNil))) (eC (.int 1)))) (tNotD (tv (eCall 1 m_is_sign (aCons (eV 4) (aNil))))))) (sRaise 4) (sNext)) (sAsg (eTup (aCons (eOp (addG false) (eOp (addG false) (eSl false (eV 6) (poNone) (poSome (eV 3))) (eV 4)) (eSl false (eV 6) (poSome (eV 3)) (poNone))) (aNil))) (gN 7)))) (sCons (sIf (tv (eOp (eqG true) (eLc false (iSeq (eV 7)) [8] (.one 8) (tNotD (tv (eCall 1 m_is_cell (aCons (eV 8) (aNil))))) (eV 8)) (eLst false (aNil)))) (sRaise 4) (sNext)) (sRet (eMeth 13 "change" 3 m_Sheet_change (eV 0) (aCons (eV 1) (aCons (eOp (addG false) (eOp (addG false) (eSl false (eV 5) (poNone) (poSome (eV 2))) (eV 7)) (eSl false (eV 5) (poSome (eOp (addG false) (eV 2) (eC (.int 1)))) (poNone))) (aNil)))))))))
/-- Sheet_erase: 8 slots, 4 parameters -/
def d_Sheet_erase (m_Sheet_need_place : FV) (m_is_cell : FV) (m_Sheet_change : FV) : SV := sCons (sExpr (eMeth 13 "need_place" 4 m_Sheet_need_place (eV 0) (aCons (eV 1) (aCons (eV 2) (aCons (eV 3) (aNil)))))) (sCons (sAsg (eOp ixG (eFld 13 "rows" (eV 0)) (eV 1)) (gN 4)) (sCons (sAsg (eOp ixG (eV 4) (eV 2)) (gN 5)) (sCons (sIf (tv (eOp ltG (eV 3) (eB lenG (aCons (eV 5) (aNil))))) (sPar 6 7 (aCons (eOp (addG false) (eSl false (eV 5) (poNone) (poSome (eV 3))) (eSl false (eV 5) (poSome (eOp (addG false) (eV 3) (eC (.int 1)))) (poNone))) (aCons (eSl false (eV 4) (poSome (eOp (addG false) (eV 2) (eC (.int 1)))) (poNone)) (aNil)))) (sCons (sIf (tv (eOp (eqG false) (eV 2) (eOp subG (eB lenG (aCons (eV 4) (aNil))) (eC (.int 1))))) (sRaise 4) (sNext)) (sPar 6 7 (aCons (eOp (addG false) (eV 5) (eOp ixG (eV 4) (eOp (addG false) (eV 2) (eC (.int 1))))) (aCons (eSl false (eV 4) (poSome (eOp (addG false) (eV 2) (eC (.int 2)))) (poNone)) (aNil)))))) (sCons (sIf (tNotD (tv (eCall 1 m_is_cell (aCons (eV 6) (aNil))))) (sRaise 4) (sNext)) (sRet (eMeth 13 "change" 3 m_Sheet_change (eV 0) (aCons (eV 1) (aCons (eOp (addG false) (eOp (addG false) (eSl false (eV 4) (poNone) (poSome (eV 2))) (eTup (aCons (eV 6) (aNil)))) (eV 7)) (aNil)))))))))
/-- Sheet_part: 8 slots, 4 parameters -/
def d_Sheet_part (m_Sheet_need_place : FV) (m_Sheet_turn_to : FV) : SV := sCons (sExpr (eMeth 13 "need_place" 4 m_Sheet_need_place (eV 0) (aCons (eV 1) (aCons (eV 2) (aCons (eV 3) (aNil)))))) (sCons (sIf (tv (eOp (eqG false) (eB lenG (aCons (eFld 13 "rows" (eV 0)) (aNil))) (eC (.int 30)))) (sRaise 3) (sNext)) (sCons (sAsg (eOp ixG (eFld 13 "rows" (eV 0)) (eV 1)) (gN 4)) (sCons (sAsg (eLst false (aCons (eOp (addG false) (eSl false (eV 4) (poNone) (poSome (eV 2))) (eTup (aCons (eSl false (eOp ixG (eV 4) (eV 2)) (poNone) (poSome (eV 3))) (aNil)))) (aCons (eOp (addG false) (eTup (aCons (eSl false (eOp ixG (eV 4) (eV 2)) (poSome (eV 3)) (poNone)) (aNil))) (eSl false (eV 4) (poSome (eOp (addG false) (eV 2) (eC (.int 1)))) (poNone))) (aNil)))) (gN 5)) (sCons (sAsg (eLR false (eB lenG (aCons (eFld 13 "rows" (eV 0)) (aNil)))) (gN 6)) (sCons (sAsg (eOp (addG false) (eOp (addG false) (eSl false (eFld 13 "rows" (eV 0)) (poNone) (poSome (eV 1))) (eV 5)) (eSl false (eFld 13 "rows" (eV 0)) (poSome (eOp (addG false) (eV 1) (eC (.int 1)))) (poNone))) (gN 7)) (sRet (eMeth 13 "turn_to" 3 m_Sheet_turn_to (eV 0) (aCons (eV 7) (aCons (eOp (addG false) (eOp (addG false) (eSl false (eV 6) (poNone) (poSome (eV 1))) (eLst false (aCons (eC .non) (aCons (eC .non) (aNil))))) (eSl false (eV 6) (poSome (eOp (addG false) (eV 1) (eC (.int 1)))) (poNone))) (aNil))))))))))
/-- Sheet_unite: 7 slots, 2 parameters -/
def d_Sheet_unite (m_Sheet_need_number : FV) (m_is_cell : FV) (m_Sheet_turn_to : FV) : SV := sCons (sExpr (eMeth 13 "need_number" 3 m_Sheet_need_number (eV 0) (aCons (eV 1) (aCons (eOp subG (eB lenG (aCons (eFld 13 "rows" (eV 0)) (aNil))) (eC (.int 2))) (aNil))))) (sCons (sPar 2 3 (aCons (eOp ixG (eFld 13 "rows" (eV 0)) (eV 1)) (aCons (eOp ixG (eFld 13 "rows" (eV 0)) (eOp (addG false) (eV 1) (eC (.int 1)))) (aNil)))) (sCons (sAsg (eOp (addG false) (eOp ixG (eV 2) (eNeg (eC (.int 1)))) (eOp ixG (eV 3) (eC (.int 0)))) (gN 4)) (sCons (sIf (tOrD (tv (eOp gtG (eOp subG (eOp (addG false) (eB lenG (aCons (eV 2) (aNil))) (eB lenG (aCons (eV 3) (aNil)))) (eC (.int 1))) (eC (.int 6)))) (tNotD (tv (eCall 1 m_is_cell (aCons (eV 4) (aNil)))))) (sRaise 4) (sNext)) (sCons (sAsg (eLR false (eB lenG (aCons (eFld 13 "rows" (eV 0)) (aNil)))) (gN 5)) (sCons (sAsg (eOp (addG false) (eOp (addG false) (eSl false (eFld 13 "rows" (eV 0)) (poNone) (poSome (eV 1))) (eLst false (aCons (eOp (addG false) (eOp (addG false) (eSl false (eV 2) (poNone) (poSome (eNeg (eC (.int 1))))) (eTup (aCons (eV 4) (aNil)))) (eSl false (eV 3) (poSome (eC (.int 1))) (poNone))) (aNil)))) (eSl false (eFld 13 "rows" (eV 0)) (poSome (eOp (addG false) (eV 1) (eC (.int 2)))) (poNone))) (gN 6)) (sRet (eMeth 13 "turn_to" 3 m_Sheet_turn_to (eV 0) (aCons (eV 6) (aCons (eOp (addG false) (eOp (addG false) (eSl false (eV 5) (poNone) (poSome (eV 1))) (eLst false (aCons (eC .non) (aNil)))) (eSl false (eV 5) (poSome (eOp (addG false) (eV 1) (eC (.int 2)))) (poNone))) (aNil))))))))))
/-- need_row: 1 slots, 1 parameters -/
def d_need_row (m_is_row : FV) : SV := sIf (tNotD (tv (eCall 1 m_is_row (aCons (eV 0) (aNil))))) (sRaise 3) (sNext)
end Dl
namespace Dl
open PySem L2
def pagesD (ps : List Page) : List D := ps.map fun q => .lst (encP q)
/-- a sheet in the store -/
structure Sht (S : Store) (n : Nat) (p : Page) (y : Sty) (L Q : Nat) (ps : List Page) : Prop where
  sh : S[n]? = some (.ins 13 (shFs p y L Q))
  la : Lays S L p (bAt p y)
  pa : S[Q]? = some (.lst (pagesD ps))
  nL : n < L
  nQ : n < Q
  LQ : Q < L ∨ L + p.length < Q
theorem put_rows (p q : Page) (y : Sty) (L Q : Nat) : putD "rows" (.lst (encP q)) (shFs p y L Q) = shFs q y L Q := by
  simp only [shFs, putD, if_true]
theorem put_lefts (p : Page) (y : Sty) (L L' Q : Nat) : putD "lefts" (.ref L') (shFs p y L Q) = shFs p y L' Q := by
  simp only [shFs, putD, show ¬ (("rows" : Str) = "lefts") by decide +kernel, show ¬ (("style" : Str) = "lefts") by decide +kernel, if_false, if_true]
theorem sh_len (p : Page) (y : Sty) (L Q : Nat) : (shFs p y L Q).length = 4 := rfl
/-- what is told of a row -/
def mvRow (p : Page) (y : Sty) (q : Page) (k e n : Nat) : List D := ((List.range n).filter fun c => !decide (bAt p y e c = bAt q y k c)).map fun (c : Nat) => D.tup [.int k, .int c, .int (bAt p y e c), .int (bAt q y k c)]
def mvOne (p : Page) (y : Sty) (q : Page) (k : Nat) : Option Nat → List D
  | none => []
  | some e => mvRow p y q k e (cellsIn q k)
def mvTo (p : Page) (y : Sty) (q : Page) (o : List (Option Nat)) (n : Nat) : List D := (List.range n).flatMap fun k => mvOne p y q k (o.getD k none)
def mvAll (p : Page) (y : Sty) (q : Page) (o : List (Option Nat)) : List D := mvTo p y q o o.length
theorem mvRow_succ (p : Page) (y : Sty) (q : Page) (k e n : Nat) : mvRow p y q k e (n + 1) = mvRow p y q k e n ++ (if bAt p y e n = bAt q y k n then [] else [.tup [.int k, .int n, .int (bAt p y e n), .int (bAt q y k n)]]) := by
  unfold mvRow
  rw [List.range_succ, List.filter_append, List.map_append]
  by_cases h : bAt p y e n = bAt q y k n
  · simp [h]
  · simp [h]
theorem mvRow_le (p : Page) (y : Sty) (q : Page) (k e n : Nat) : (mvRow p y q k e n).length ≤ n := by
  unfold mvRow
  rw [List.length_map]
  exact Nat.le_trans (List.length_filter_le _ _) (by simp)
theorem mvTo_succ (p : Page) (y : Sty) (q : Page) (o : List (Option Nat)) (n : Nat) : mvTo p y q o (n + 1) = mvTo p y q o n ++ mvOne p y q n (o.getD n none) := by
  unfold mvTo
  rw [List.range_succ, List.flatMap_append]; simp
def encO : Option Nat → D
  | none => .non
  | some e => .int e
/-- which rows were there -/
def OrigOk (p q : Page) (o : List (Option Nat)) : Prop := o.length = q.length ∧ ∀ k e, o[k]? = some (some e) → e < p.length ∧ cellsIn p e = cellsIn q k
theorem mvTo_le {p q : Page} {y : Sty} {o : List (Option Nat)} (hq : okPage q = true) (ho : OrigOk p q o) : ∀ n, n ≤ o.length → (mvTo p y q o n).length ≤ 6 * n
  | 0, _ => by simp [mvTo]
  | n + 1, h => by
    rw [mvTo_succ, List.length_append]
    have a := mvTo_le (y := y) hq ho n (by omega)
    have b : (mvOne p y q n (o.getD n none)).length ≤ 6 := by
      cases o.getD n none with
      | none => simp [mvOne]
      | some e =>
        have h1 := mvRow_le p y q n e (cellsIn q n)
        have h2 := (cellsIn_le hq (k := n) (by have := ho.1; omega)).2
        show (mvRow p y q n e (cellsIn q n)).length ≤ 6
        omega
    omega
def m_Sheet_turn_to : FV := funD 8 (d_Sheet_turn_to m_begins_by m_all_stretches)
theorem turn_to_ok {S : Store} {n L Q : Nat} {p q : Page} {y : Sty} {ps : List Page} {o : List (Option Nat)} (h : Sht S n p y L Q ps) (hp : okPage p = true) (hq : okPage q = true) (hl : ps.length < 1000) (ho : OrigOk p q o) :
    ∃ S' L' F, m_Sheet_turn_to [.ref n, .lst (encP q), .lst (o.map encO)] S = .ok (.ref F, S') ∧ Sht S' n q y L' Q (ps ++ [p]) ∧ S'[F]? = some (.lst (mvAll p y q o)) ∧ S.length ≤ F ∧ F ≠ Q ∧ F ≠ n ∧ (F < L' ∨ L' + q.length < F) ∧ S.length ≤ L' ∧
      (∀ i ob, i ≠ n → i ≠ Q → S[i]? = some ob → S'[i]? = some ob) ∧ S.length ≤ S'.length := by
  rw [m_Sheet_turn_to, funD, d_Sheet_turn_to]
  obtain ⟨p1, p2, p3⟩ := okPage_parts hp
  obtain ⟨q1, q2, q3⟩ := okPage_parts hq
  have nL := h.nL
  have nQ := h.nQ
  have LQ := h.LQ
  have nS : n < S.length := (List.getElem?_eq_some_iff.mp h.sh).1
  have QS : Q < S.length := (List.getElem?_eq_some_iff.mp h.pa).1
  have LS : L + p.length < S.length := by
    have := (List.getElem?_eq_some_iff.mp (h.la.2 (p.length - 1) (by omega))).1
    omega
  obtain ⟨S1, hS1⟩ : ∃ S1, S1 = S.set Q (.lst (pagesD (ps ++ [p]))) := ⟨_, rfl⟩
  have k1 : ∀ (i : Nat) (ob : Ob), i ≠ Q → S[i]? = some ob → S1[i]? = some ob := fun i ob hi e => by rw [hS1]; exact set_keep hi e
  have ll : (pagesD ps).length < LIM := lt_LIM (by simp [pagesD]; omega)
  have ap : appendG S (.ref Q) [.lst (encP p)] = .ok (.non, S1) := by
    simp only [appendG, h.pa, ll, if_true]
    rw [hS1]; simp [pagesD]
  have tyQ : tyM S (.ref Q) = some "list" := by simp only [tyM, h.pa]
  have g1 := k1 _ _ (by omega) h.sh
  obtain ⟨S2, hS2⟩ : ∃ S2, S2 = S1.set n (.ins 13 (shFs q y L Q)) := ⟨_, rfl⟩
  have k2 : ∀ (i : Nat) (ob : Ob), i ≠ n → S1[i]? = some ob → S2[i]? = some ob := fun i ob hi e => by rw [hS2]; exact set_keep hi e
  have g2 : S2[n]? = some (.ins 13 (shFs q y L Q)) := by rw [hS2]; exact set_self g1
  have len2 : S2.length = S.length := by rw [hS2, hS1]; simp
  obtain ⟨k, M1, L', M2, as, bb, hL, la⟩ := lefts_ok hq y (d := .lst (encP q)) (w := []) (st := S2) rfl
  rw [len2] at hL
  obtain ⟨S3, hS3⟩ : ∃ S3, S3 = S2 ++ M1 := ⟨_, rfl⟩
  obtain ⟨S4, hS4⟩ : ∃ S4, S4 = S3 ++ M2 := ⟨_, rfl⟩
  rw [← hS3] at as bb la
  rw [← hS4] at bb la
  have g3 : S3[n]? = some (.ins 13 (shFs q y L Q)) := by rw [hS3]; exact get_app g2
  have g4 : S4[n]? = some (.ins 13 (shFs q y L Q)) := by rw [hS4]; exact get_app g3
  obtain ⟨S5, hS5⟩ : ∃ S5, S5 = S4.set n (.ins 13 (shFs q y L' Q)) := ⟨_, rfl⟩
  have g5 : S5[n]? = some (.ins 13 (shFs q y L' Q)) := by rw [hS5]; exact set_self g4
  have k5 : ∀ (i : Nat) (ob : Ob), i ≠ n → S4[i]? = some ob → S5[i]? = some ob := fun i ob hi e => by rw [hS5]; exact set_keep hi e
  have kk : ∀ (i : Nat) (ob : Ob), i ≠ n → i ≠ Q → S[i]? = some ob → S5[i]? = some ob := fun i ob h1 h2 e => k5 _ _ h1 (by rw [hS4, hS3]; exact get_app (get_app (k2 _ _ h1 (k1 _ _ h2 e))))
  have la5 : Lays S5 L' q (bAt q y) := ⟨k5 _ _ (by omega) la.1, fun k hk => k5 _ _ (by omega) (la.2 k hk)⟩
  have lo5 : Lays S5 L p (bAt p y) := ⟨kk _ _ (by omega) (by omega) h.la.1, fun k hk => kk _ _ (by omega) (by omega) (h.la.2 k hk)⟩
  have pa5 : S5[Q]? = some (.lst (pagesD (ps ++ [p]))) := k5 _ _ (by omega) (by rw [hS4, hS3]; exact get_app (get_app (k2 _ _ (by omega) (by rw [hS1]; exact set_self h.pa))))
  obtain ⟨F, hF⟩ : ∃ F, F = S5.length := ⟨_, rfl⟩
  have lenF : S.length ≤ F ∧ L' + q.length < F := by
    have h1 := (List.getElem?_eq_some_iff.mp (la5.2 (q.length - 1) (by omega))).1
    have h2 : S5.length = S4.length := by rw [hS5]; simp
    have h3 : S.length ≤ S4.length := by rw [hS4, hS3, List.length_append, List.length_append, len2]; omega
    omega
  have get6 : ∀ (X : List D) (i : Nat) (ob : Ob), S5[i]? = some ob → (S5 ++ [.lst X])[i]? = some ob := fun X i ob e => get_app e
  have lq : ∀ st : Store, lenG st [.lst (encP q)] = .ok (.int q.length, st) := fun st => by
    have := len_list (st := st) (d := .lst (encP q)) (w := (encP q, [])) rfl
    rwa [encP_len] at this
  refine ⟨S5 ++ [.lst (mvAll p y q o)], L', F, ?_, ⟨get6 _ _ _ g5, ⟨get6 _ _ _ la5.1, fun k hk => get6 _ _ _ (la5.2 k hk)⟩, get6 _ _ _ pa5, by omega, nQ, .inl (by omega)⟩, by rw [hF]; simp, by omega, by omega, by omega, by omega, hL, fun i ob h1 h2 e => get6 _ _ _ (kk i ob h1 h2 e), by rw [List.length_append]; omega⟩
  have z4 : ∀ p L, (shFs p y L Q).length = 4 := fun p L => sh_len _ _ _ _
  simp [h.sh, sh_lefts, sh_past, sh_rows, tyQ, ap, g1, z4, put_rows, ← hS2, g2, sh_style, as, bb, g3, g4, put_lefts, ← hS5, ← hF, listOf]
  generalize q0 : forGo _ _ _ _ _ _ = r
  obtain ⟨e, s, rfl, rfl, a5, a6, a7, rfl⟩ := for_at q0 (fun i env st' => st' = S5 ++ [Ob.lst (mvTo p y q o i)] ∧ ∃ (a5 a6 a7 : Option D), env = [some (.ref n), some (.lst (encP q)), some (.lst (o.map encO)), some (.ref L), some (.ref F), a5, a6, a7]) ⟨by simp [mvTo], none, none, none, rfl⟩ (fun _ _ _ _ _ => rfl) (fun i x env st' hi ⟨e1, a5, a6, a7, e2⟩ => by
    obtain ⟨z, hz, rfl⟩ := pairUp_at hi
    have hil : i < o.length := by
      have := (List.getElem?_eq_some_iff.mp hz).1
      simpa using this
    rw [List.getElem?_map, List.getElem?_eq_getElem hil] at hz
    cases hz
    subst e1 e2
    rw [mvTo_succ]
    have ho' : o.getD i none = o[i] := by simp [hil]
    have hiq : i < q.length := by have := ho.1; omega
    rw [ho']
    cases hoi : o[i] with
    | none =>
      refine turn_eq (e := [some (.ref n), some (.lst (encP q)), some (.lst (o.map encO)), some (.ref L), some (.ref F), some (.int i), some .non, a7]) (s := S5 ++ [Ob.lst (mvTo p y q o i)]) ?_ ⟨by simp [mvOne], _, _, _, rfl⟩
      simp [encO, isG]
    | some el =>
      obtain ⟨hel, hce⟩ := ho.2 i el (by rw [List.getElem?_eq_getElem hil, hoi])
      have cl := cellsIn_le hq hiq
      have ml := mvTo_le hq ho i (Nat.le_of_lt hil) (y := y)
      obtain ⟨rr, i1, _, i3⟩ := ixC (Z := S5 ++ [Ob.lst (mvTo p y q o i)]) (d := .lst (encP q)) (w := []) rfl hiq (c := 0) (by omega)
      have m1 : -1000000 ≤ (cellsIn q i : Int) ∧ (cellsIn q i : Int) ≤ 1000000 := by omega
      obtain ⟨rq, hrq⟩ : ∃ rq, rq = D.lst (encP q) := ⟨_, rfl⟩
      rw [← hrq] at i1 ⊢
      simp [encO, isG, i1, i3, m1, -ix_lst]
      generalize q0 : forGo _ _ _ _ _ _ = r
      obtain ⟨e, s, rfl, rfl, a7', rfl⟩ := for_at q0 (fun j env st' => st' = S5 ++ [Ob.lst (mvTo p y q o i ++ mvRow p y q i el j)] ∧ ∃ (a7 : Option D), env = [some (.ref n), some rq, some (.lst (o.map encO)), some (.ref L), some (.ref F), some (.int i), some (.int el), a7]) ⟨by simp [mvRow], a7, rfl⟩ (fun _ _ _ _ _ => rfl) (fun j x env st' hj ⟨e1, a7, e2⟩ => by
        obtain ⟨hj2, rfl⟩ := ints_getL hj
        obtain ⟨S6, hS6'⟩ : ∃ S6, S6 = st' := ⟨_, rfl⟩
        rw [← hS6'] at e1 ⊢
        have hS6 := e1
        subst e2
        have lo6 : Lays S6 L p (bAt p y) := by rw [hS6]; exact ⟨get6 _ _ _ lo5.1, fun k hk => get6 _ _ _ (lo5.2 k hk)⟩
        have la6 : Lays S6 L' q (bAt q y) := by rw [hS6]; exact ⟨get6 _ _ _ la5.1, fun k hk => get6 _ _ _ (la5.2 k hk)⟩
        have g6 : S6[n]? = some (.ins 13 (shFs q y L' Q)) := by rw [hS6]; exact get6 _ _ _ g5
        have gF : S6[F]? = some (.lst (mvTo p y q o i ++ mvRow p y q i el j)) := by rw [hS6, hF]; simp
        have tyF : tyM S6 (.ref F) = some "list" := by simp only [tyM, gF]
        have mr := mvRow_le p y q i el j
        have llF : (mvTo p y q o i ++ mvRow p y q i el j).length < LIM := lt_LIM (by have := ho.1; rw [List.length_append]; omega)
        have x1 := lo6.ixF hel
        have x2 := lo6.ixR hel (c := j) (by omega)
        have x3 := la6.ixF hiq
        have x4 := la6.ixR hiq (c := j) hj2
        have nei : ∀ a b : Int, eqG true S6 (.int a) (.int b) = .ok (.bl (!decide (a = b)), S6) := fun a b => by rw [eqG_pl (by simp) (by simp) (by simp) (by simp)]; simp
        have ap6 : ∀ v : D, appendG S6 (.ref F) [v] = .ok (.non, S5 ++ [Ob.lst (mvTo p y q o i ++ mvRow p y q i el j ++ [v])]) := fun v => by
          simp only [appendG, gF, llF, if_true]
          rw [hS6, hF]; simp
        rw [mvRow_succ]
        by_cases z : bAt p y el j = bAt q y i j
        · refine turn_eq (e := [some (.ref n), some rq, some (.lst (o.map encO)), some (.ref L), some (.ref F), some (.int i), some (.int el), some (.int j)]) (s := S6) ?_ ⟨by rw [hS6, if_pos z, List.append_nil], _, rfl⟩
          simp [x1, x2, g6, sh_lefts, x3, x4, nei, z]
        · refine turn_eq (e := [some (.ref n), some rq, some (.lst (o.map encO)), some (.ref L), some (.ref F), some (.int i), some (.int el), some (.int j)]) (s := S5 ++ [Ob.lst (mvTo p y q o i ++ mvRow p y q i el j ++ [.tup [.int i, .int j, .int (bAt p y el j), .int (bAt q y i j)]])]) ?_ ⟨by rw [if_neg z, List.append_assoc], _, rfl⟩
          simp [x1, x2, g6, sh_lefts, x3, x4, nei, z, tyF, ap6])
      refine ⟨?_, _, _, a7', rfl⟩
      rw [intsD_len]
      rfl)
  simp [mvAll, pairUp_len]
end Dl
namespace Dl
open PySem L2
inductive Deed where
  | put (k : Nat) (r : Row) | take (k : Nat) | change (k : Nat) (r : Row) | strike (k c e : Nat) (s : List Nat) | erase (k c e : Nat) | part (k c e : Nat) | unite (k : Nat) | back
/-- a piece of l, from k on up to j, is m -/
def spl {A : Type} (l : List A) (k : Nat) (m : List A) (j : Nat) : List A := l.take k ++ m ++ l.drop j
def everyN (n : Nat) : List (Option Nat) := (List.range n).map some
def rowAt (p : Page) (k : Nat) : Row := p.getD k []
/-- which rows stand for which: (from, the new ones, up to) -/
def editOf (p : Page) : Deed → Option (Nat × List Row × Nat)
  | .put k r => if p.length = 30 then none else some (k, [r], k)
  | .take k => if p.length = 1 then none else some (k, [], k + 1)
  | .change k r => some (k, [r], k + 1)
  | .strike k c e s =>
    if s = [9] then (if cellsIn p k = 6 then none else some (k, [spl (rowAt p k) c [(cellAt p k c).take e, (cellAt p k c).drop e] (c + 1)], k + 1))
    else if (cellAt p k c).length = 10 then none else some (k, [spl (rowAt p k) c [(cellAt p k c).take e ++ s ++ (cellAt p k c).drop e] (c + 1)], k + 1)
  | .erase k c e =>
    if e < (cellAt p k c).length then some (k, [spl (rowAt p k) c [(cellAt p k c).take e ++ (cellAt p k c).drop (e + 1)] (c + 1)], k + 1)
    else if c + 1 = cellsIn p k then none else if 10 < (cellAt p k c ++ cellAt p k (c + 1)).length then none else some (k, [spl (rowAt p k) c [cellAt p k c ++ cellAt p k (c + 1)] (c + 2)], k + 1)
  | .part k c e => if p.length = 30 then none else some (k, [(rowAt p k).take c ++ [(cellAt p k c).take e], (cellAt p k c).drop e :: (rowAt p k).drop (c + 1)], k + 1)
  | .unite k =>
    if k + 1 = p.length then none
    else if 6 < cellsIn p k + cellsIn p (k + 1) - 1 ∨ 10 < (cellAt p k (cellsIn p k - 1) ++ cellAt p (k + 1) 0).length then none
    else some (k, [(rowAt p k).dropLast ++ [cellAt p k (cellsIn p k - 1) ++ cellAt p (k + 1) 0] ++ (rowAt p (k + 1)).drop 1], k + 2)
  | .back => none
def editD (p : Page) (x : Nat × List Row × Nat) : Page × List (Option Nat) := (spl p x.1 x.2.1 x.2.2, spl (everyN p.length) x.1 (List.replicate x.2.1.length none) x.2.2)
/-- a deed that the law draws -/
def DeedOk (p : Page) : Deed → Prop
  | .put k r => k ≤ p.length ∧ okRow r = true
  | .take k => k < p.length
  | .change k r => k < p.length ∧ okRow r = true
  | .strike k c e s => Valid p (k, c, e) ∧ (s = [9] ∨ ∃ x, s = [x] ∧ okSign x = true)
  | .erase k c e => Valid p (k, c, e)
  | .part k c e => Valid p (k, c, e)
  | .unite k => k < p.length
  | .back => True
def EditOk (p : Page) (x : Nat × List Row × Nat) : Prop := x.1 ≤ x.2.2 ∧ x.2.2 ≤ p.length ∧ (∀ r ∈ x.2.1, okRow r = true) ∧ 1 ≤ p.length - (x.2.2 - x.1) + x.2.1.length ∧ p.length - (x.2.2 - x.1) + x.2.1.length ≤ 30
theorem edit_mk {p : Page} {k j : Nat} {rs : List Row} (h1 : k ≤ j) (h2 : j ≤ p.length) (h3 : ∀ r ∈ rs, okRow r = true) (h4 : 1 ≤ p.length - (j - k) + rs.length) (h5 : p.length - (j - k) + rs.length ≤ 30) : EditOk p (k, rs, j) := ⟨h1, h2, h3, h4, h5⟩
theorem spl_len {A : Type} {l m : List A} {k j : Nat} (h : k ≤ j) (hj : j ≤ l.length) : (spl l k m j).length = l.length - (j - k) + m.length := by
  unfold spl
  rw [List.length_append, List.length_append, List.length_take, List.length_drop, Nat.min_eq_left (by omega)]
  omega
theorem spl_get {A : Type} {l m : List A} {k j : Nat} (h : k ≤ j) (hj : j ≤ l.length) (i : Nat) : (spl l k m j)[i]? = if i < k then l[i]? else if i < k + m.length then m[i - k]? else l[j + (i - (k + m.length))]? := by
  unfold spl
  have hk : (l.take k).length = k := by rw [List.length_take]; omega
  by_cases a : i < k
  · rw [if_pos a, List.append_assoc, List.getElem?_append_left (by omega), List.getElem?_take_of_lt a]
  · rw [if_neg a]
    by_cases b : i < k + m.length
    · rw [if_pos b, List.getElem?_append_left (by rw [List.length_append, hk]; exact b), List.getElem?_append_right (by omega), hk]
    · rw [if_neg b, List.getElem?_append_right (by rw [List.length_append, hk]; omega), List.length_append, hk, List.getElem?_drop]
theorem every_get (n i : Nat) : (everyN n)[i]? = if i < n then some (some i) else none := by
  unfold everyN
  rw [List.getElem?_map]
  by_cases h : i < n
  · rw [if_pos h, List.getElem?_range h]; rfl
  · rw [if_neg h, List.getElem?_eq_none (by simpa using h)]; rfl
theorem every_len (n : Nat) : (everyN n).length = n := by simp [everyN]
theorem edit_ok {p : Page} (hp : okPage p = true) {x : Nat × List Row × Nat} (h : EditOk p x) : okPage (editD p x).1 = true ∧ OrigOk p (editD p x).1 (editD p x).2 := by
  obtain ⟨k, rs, j⟩ := x
  obtain ⟨h1, h2, h3, h4, h5⟩ := h
  obtain ⟨p1, p2, p3⟩ := okPage_parts hp
  simp only at h1 h2 h3 h4 h5
  have l1 : (spl p k rs j).length = p.length - (j - k) + rs.length := spl_len h1 h2
  have l2 : (spl (everyN p.length) k (List.replicate rs.length none) j).length = p.length - (j - k) + rs.length := by
    have := spl_len (l := everyN p.length) (m := List.replicate rs.length none) h1 (by rw [every_len]; exact h2)
    rw [this, every_len, List.length_replicate]
  refine ⟨okPage_mk (by show 1 ≤ (spl p k rs j).length; omega) (by show (spl p k rs j).length ≤ 30; omega) fun r hr => ?_, l2.trans l1.symm, fun i e he => ?_⟩
  · have hr : r ∈ p.take k ++ rs ++ p.drop j := hr
    rcases List.mem_append.mp hr with hr | hr
    · rcases List.mem_append.mp hr with hr | hr
      · exact p3 r (List.mem_of_mem_take hr)
      · exact h3 r hr
    · exact p3 r (List.mem_of_mem_drop hr)
  · have he : (spl (everyN p.length) k (List.replicate rs.length none) j)[i]? = some (some e) := he
    rw [spl_get h1 (by rw [every_len]; exact h2)] at he
    have key : ∀ e', (spl p k rs j)[i]? = p[e']? → cellsIn p e' = cellsIn (spl p k rs j) i := fun e' hh => by
      unfold cellsIn
      rw [List.getD_eq_getElem?_getD, List.getD_eq_getElem?_getD, hh]
    have pg := spl_get (m := rs) h1 h2 i
    by_cases a : i < k
    · rw [if_pos a, every_get] at he
      rw [if_pos a] at pg
      split at he
      · cases he
        exact ⟨by assumption, key _ pg⟩
      · cases he
    · rw [if_neg a, List.length_replicate] at he
      rw [if_neg a] at pg
      by_cases b : i < k + rs.length
      · rw [if_pos b, List.getElem?_replicate] at he
        split at he <;> cases he
      · rw [if_neg b, every_get] at he
        rw [if_neg b] at pg
        split at he
        · cases he
          exact ⟨by assumption, key _ pg⟩
        · cases he
theorem okRow_mk {r : Row} (h1 : 1 ≤ r.length) (h2 : r.length ≤ 6) (h3 : ∀ c ∈ r, okCell c = true) : okRow r = true := by
  unfold okRow
  simp only [Bool.and_eq_true, decide_eq_true_eq, List.all_eq_true]
  exact ⟨⟨h1, h2⟩, h3⟩
theorem okCell_mk {s : List Nat} (h1 : s.length ≤ 10) (h2 : ∀ c ∈ s, okSign c = true) : okCell s = true := by
  unfold okCell
  simp only [Bool.and_eq_true, decide_eq_true_eq, List.all_eq_true]
  exact ⟨h1, h2⟩
theorem okCell_un {s : List Nat} (h : okCell s = true) : s.length ≤ 10 ∧ ∀ c ∈ s, okSign c = true := by
  unfold okCell at h
  simp only [Bool.and_eq_true, decide_eq_true_eq, List.all_eq_true] at h
  exact h
theorem okCell_take {s : List Nat} (h : okCell s = true) (n : Nat) : okCell (s.take n) = true := by
  obtain ⟨a, b⟩ := okCell_un h
  exact okCell_mk (by rw [List.length_take]; omega) fun c hc => b c (List.mem_of_mem_take hc)
theorem okCell_drop {s : List Nat} (h : okCell s = true) (n : Nat) : okCell (s.drop n) = true := by
  obtain ⟨a, b⟩ := okCell_un h
  exact okCell_mk (by rw [List.length_drop]; omega) fun c hc => b c (List.mem_of_mem_drop hc)
theorem okCell_app {s t : List Nat} (h : okCell s = true) (k : okCell t = true) (hl : (s ++ t).length ≤ 10) : okCell (s ++ t) = true := by
  refine okCell_mk hl fun c hc => ?_
  rcases List.mem_append.mp hc with h1 | h1
  · exact (okCell_un h).2 c h1
  · exact (okCell_un k).2 c h1
section
variable {p : Page} (hp : okPage p = true)
include hp
theorem rowAt_ok {k : Nat} (hk : k < p.length) : okRow (rowAt p k) = true ∧ (rowAt p k).length = cellsIn p k ∧ ∀ c ∈ rowAt p k, okCell c = true := by
  have e : rowAt p k = p[k] := by unfold rowAt; simp [hk]
  have o := (okPage_parts hp).2.2 p[k] (List.getElem_mem hk)
  refine ⟨by rw [e]; exact o, rfl, fun c hc => ?_⟩
  rw [e] at hc
  unfold okRow at o
  simp only [Bool.and_eq_true, decide_eq_true_eq, List.all_eq_true] at o
  exact o.2 c hc
theorem okRow_spl {k c j : Nat} {m : List (List Nat)} (hk : k < p.length) (h1 : c ≤ j) (h2 : j ≤ cellsIn p k) (h3 : ∀ x ∈ m, okCell x = true) (h4 : 1 ≤ m.length) (h5 : cellsIn p k - (j - c) + m.length ≤ 6) : okRow (spl (rowAt p k) c m j) = true := by
  obtain ⟨a, b, d⟩ := rowAt_ok hp hk
  have l := spl_len (l := rowAt p k) (m := m) h1 (by rw [b]; exact h2)
  rw [b] at l
  refine okRow_mk (by omega) (by omega) fun x hx => ?_
  have hx : x ∈ (rowAt p k).take c ++ m ++ (rowAt p k).drop j := hx
  rcases List.mem_append.mp hx with hx | hx
  · rcases List.mem_append.mp hx with hx | hx
    · exact d x (List.mem_of_mem_take hx)
    · exact h3 x hx
  · exact d x (List.mem_of_mem_drop hx)
theorem editOf_ok {d : Deed} (h : DeedOk p d) {x : Nat × List Row × Nat} (e : editOf p d = some x) : EditOk p x := by
  obtain ⟨p1, p2, p3⟩ := okPage_parts hp
  cases d with
  | put k r =>
    obtain ⟨h1, h2⟩ := h
    simp only [editOf] at e
    split at e
    · cases e
    · cases e
      exact edit_mk (Nat.le_refl _) h1 (fun r' hr => by rw [List.mem_singleton.mp hr]; exact h2) (by simp only [List.length_cons, List.length_nil]; omega) (by simp only [List.length_cons, List.length_nil]; omega)
  | take k =>
    have h : k < p.length := h
    simp only [editOf] at e
    split at e
    · cases e
    · cases e
      exact edit_mk (Nat.le_succ _) h (fun r' hr => by cases hr) (by simp only [List.length_cons, List.length_nil]; omega) (by simp only [List.length_cons, List.length_nil]; omega)
  | change k r =>
    obtain ⟨h1, h2⟩ := h
    simp only [editOf] at e
    cases e
    exact edit_mk (Nat.le_succ _) h1 (fun r' hr => by rw [List.mem_singleton.mp hr]; exact h2) (by simp only [List.length_cons, List.length_nil]; omega) (by simp only [List.length_cons, List.length_nil]; omega)
  | strike k c ee s =>
    obtain ⟨⟨v1, v2, v3⟩, hs⟩ := h
    simp only at v1 v2 v3
    have cl := cellsIn_le hp v1
    have co := cellAt_ok hp v1 v2
    simp only [editOf] at e
    split at e
    · split at e
      · cases e
      · cases e
        refine edit_mk (Nat.le_succ _) v1 (fun r' hr => ?_) (by simp only [List.length_cons, List.length_nil]; omega) (by simp only [List.length_cons, List.length_nil]; omega)
        rw [List.mem_singleton.mp hr]
        refine okRow_spl hp v1 (Nat.le_succ _) v2 (fun x hx => ?_) (by simp) (by simp; omega)
        simp only [List.mem_cons, List.not_mem_nil, or_false] at hx
        rcases hx with rfl | rfl
        · exact okCell_take co _
        · exact okCell_drop co _
    · rename_i hs9
      split at e
      · cases e
      · rename_i h10
        cases e
        refine edit_mk (Nat.le_succ _) v1 (fun r' hr => ?_) (by simp only [List.length_cons, List.length_nil]; omega) (by simp only [List.length_cons, List.length_nil]; omega)
        rw [List.mem_singleton.mp hr]
        refine okRow_spl hp v1 (Nat.le_succ _) v2 (fun x hx => ?_) (by simp) (by simp; omega)
        rw [List.mem_singleton.mp hx]
        clear hx
        obtain ⟨x, rfl, hx⟩ := hs.resolve_left hs9
        have c10 := (okCell_un co).1
        refine okCell_app (okCell_app (okCell_take co _) (okCell_mk (by simp) fun c hc => by rw [List.mem_singleton.mp hc]; exact hx) ?_) (okCell_drop co _) ?_
        · rw [List.length_append, List.length_take]; simp; omega
        · rw [List.length_append, List.length_append, List.length_take, List.length_drop]; simp; omega
  | erase k c ee =>
    obtain ⟨v1, v2, v3⟩ := h
    simp only at v1 v2 v3
    have cl := cellsIn_le hp v1
    have co := cellAt_ok hp v1 v2
    have c10 := (okCell_un co).1
    simp only [editOf] at e
    split at e
    · cases e
      refine edit_mk (Nat.le_succ _) v1 (fun r' hr => ?_) (by simp only [List.length_cons, List.length_nil]; omega) (by simp only [List.length_cons, List.length_nil]; omega)
      rw [List.mem_singleton.mp hr]
      refine okRow_spl hp v1 (Nat.le_succ _) v2 (fun x hx => ?_) (by simp) (by simp; omega)
      rw [List.mem_singleton.mp hx]
      refine okCell_app (okCell_take co _) (okCell_drop co _) ?_
      rw [List.length_append, List.length_take, List.length_drop]; omega
    · split at e
      · cases e
      · split at e
        · cases e
        · rename_i hne h10
          cases e
          refine edit_mk (Nat.le_succ _) v1 (fun r' hr => ?_) (by simp only [List.length_cons, List.length_nil]; omega) (by simp only [List.length_cons, List.length_nil]; omega)
          rw [List.mem_singleton.mp hr]
          refine okRow_spl hp v1 (by omega) (by omega) (fun x hx => ?_) (by simp) (by simp; omega)
          rw [List.mem_singleton.mp hx]
          exact okCell_app co (cellAt_ok hp v1 (by omega)) (by omega)
  | part k c ee =>
    obtain ⟨v1, v2, v3⟩ := h
    simp only at v1 v2 v3
    have cl := cellsIn_le hp v1
    have co := cellAt_ok hp v1 v2
    obtain ⟨ra, rb, rc⟩ := rowAt_ok hp v1
    simp only [editOf] at e
    split at e
    · cases e
    · cases e
      refine edit_mk (Nat.le_succ _) v1 (fun r' hr => ?_) (by simp only [List.length_cons, List.length_nil]; omega) (by simp only [List.length_cons, List.length_nil]; omega)
      simp only [List.mem_cons, List.not_mem_nil, or_false] at hr
      rcases hr with rfl | rfl
      · refine okRow_mk (by simp) (by rw [List.length_append, List.length_take]; simp; omega) fun x hx => ?_
        rcases List.mem_append.mp hx with hx | hx
        · exact rc x (List.mem_of_mem_take hx)
        · rw [List.mem_singleton.mp hx]; exact okCell_take co _
      · refine okRow_mk (by simp) (by rw [List.length_cons, List.length_drop]; omega) fun x hx => ?_
        rcases List.mem_cons.mp hx with rfl | hx
        · exact okCell_drop co _
        · exact rc x (List.mem_of_mem_drop hx)
  | unite k =>
    have h : k < p.length := h
    simp only [editOf] at e
    split at e
    · cases e
    · split at e
      · cases e
      · rename_i h1 h2
        cases e
        have hk1 : k + 1 < p.length := by omega
        have cl := cellsIn_le hp h
        have cl1 := cellsIn_le hp hk1
        obtain ⟨ra, rb, rc⟩ := rowAt_ok hp h
        obtain ⟨ra1, rb1, rc1⟩ := rowAt_ok hp hk1
        refine edit_mk (by omega) (by omega) (fun r' hr => ?_) (by simp only [List.length_cons, List.length_nil]; omega) (by simp only [List.length_cons, List.length_nil]; omega)
        rw [List.mem_singleton.mp hr]
        refine okRow_mk (by simp; omega) (by rw [List.length_append, List.length_append, List.length_dropLast, List.length_drop, rb, rb1]; simp; omega) fun x hx => ?_
        rcases List.mem_append.mp hx with hx | hx
        · rcases List.mem_append.mp hx with hx | hx
          · exact rc x (by rw [List.dropLast_eq_take] at hx; exact List.mem_of_mem_take hx)
          · rw [List.mem_singleton.mp hx]
            exact okCell_app (cellAt_ok hp h (by omega)) (cellAt_ok hp hk1 (by omega)) (by omega)
        · exact rc1 x (List.mem_of_mem_drop hx)
  | back => cases e
end
end Dl
namespace Dl
open PySem L2
theorem slLst (st : Store) (ds : List D) (lo hi : Option Int) : slG false st (.lst ds) lo hi = .ok (.lst (cutD ds lo hi), st) := by simp [slG, lstOf, newL]
theorem slTup (m : Bool) (st : Store) (ds : List D) (lo hi : Option Int) : slG m st (.tup ds) lo hi = .ok (.tup (cutD ds lo hi), st) := by simp [slG]
theorem slStr (m : Bool) (st : Store) (s : List Nat) (lo hi : Option Int) : slG m st (.str s) lo hi = .ok (.str (cutD s lo hi), st) := by simp [slG]
theorem cutT {A : Type} (xs : List A) (k : Nat) : cutD xs none (some (k : Int)) = xs.take k := cut_to xs k
theorem cutF {A : Type} (xs : List A) (k : Nat) : cutD xs (some (k : Int)) none = xs.drop k := cut_from xs k
theorem cutF1 {A : Type} (xs : List A) (k : Nat) : cutD xs (some ((k : Int) + 1)) none = xs.drop (k + 1) := cut_from xs (k + 1)
theorem cutF01 {A : Type} (xs : List A) : cutD xs (some 1) none = xs.drop 1 := cut_from xs 1
theorem cutTm {A : Type} (xs : List A) : cutD xs none (some (-1)) = xs.dropLast := by
  have e2 : HT.sIx xs.length xs.length (some (-1)) = xs.length - 1 := by
    show (if (-1 : Int) < 0 then ((-1 : Int) + (xs.length : Int)).toNat else min (-1 : Int).toNat xs.length) = _
    rw [if_pos (show (-1 : Int) < 0 by decide)]; omega
  unfold cutD
  rw [e2, HT.sIx_none, List.drop_zero, Nat.sub_zero, List.dropLast_eq_take]
theorem encP_app (a b : Page) : encP (a ++ b) = encP a ++ encP b := by simp [encP]
theorem encP_cons (r : Row) (b : Page) : encP (r :: b) = encR r :: encP b := rfl
theorem encP_nil : encP [] = [] := rfl
theorem encP_take (p : Page) (k : Nat) : (encP p).take k = encP (p.take k) := by unfold encP; rw [List.map_take]
theorem encP_drop (p : Page) (k : Nat) : (encP p).drop k = encP (p.drop k) := by unfold encP; rw [List.map_drop]
theorem ints_every (n : Nat) : intsD 0 n = (everyN n).map encO := by
  unfold intsD everyN
  rw [List.map_map]
  exact List.map_congr_left fun i _ => by simp [encO]
theorem sh_need_number (p : Page) (y : Sty) (L Q : Nat) : (shFs p y L Q).lookup ("need_number" : Str) = none := sh_no p y L Q (by decide +kernel) (by decide +kernel) (by decide +kernel) (by decide +kernel)
theorem sh_need_place (p : Page) (y : Sty) (L Q : Nat) : (shFs p y L Q).lookup ("need_place" : Str) = none := sh_no p y L Q (by decide +kernel) (by decide +kernel) (by decide +kernel) (by decide +kernel)
theorem sh_turn_to (p : Page) (y : Sty) (L Q : Nat) : (shFs p y L Q).lookup ("turn_to" : Str) = none := sh_no p y L Q (by decide +kernel) (by decide +kernel) (by decide +kernel) (by decide +kernel)
theorem sh_change (p : Page) (y : Sty) (L Q : Nat) : (shFs p y L Q).lookup ("change" : Str) = none := sh_no p y L Q (by decide +kernel) (by decide +kernel) (by decide +kernel) (by decide +kernel)
def m_Sheet_need_number : FV := funD 3 (d_Sheet_need_number m_is_number)
theorem need_number_ok (S : Store) (n : Nat) (k m : Int) : m_Sheet_need_number [.ref n, .int k, .int m] S = if 0 ≤ k ∧ k ≤ m then .ok (.non, S) else .exc 3 none S := by
  rw [m_Sheet_need_number, funD, d_Sheet_need_number]
  by_cases z : 0 ≤ k ∧ k ≤ m
  · simp [z]
  · simp only [if_neg z]
    have : decide (0 ≤ k ∧ k ≤ m) = false := decide_eq_false z
    simp [-Bool.decide_and, this]
def m_need_row : FV := funD 1 (d_need_row m_is_row)
theorem need_row_ok (S : Store) {r : Row} (h : okRow r = true) : m_need_row [encR r] S = .ok (.non, S) := by
  rw [m_need_row, funD, d_need_row]
  simp [is_row_tup, h]
theorem lenL (st : Store) (ds : List D) : lenG st [.lst ds] = .ok (.int ds.length, st) := rfl
theorem lenSt (st : Store) (s : List Nat) : lenG st [.str s] = .ok (.int s.length, st) := rfl
theorem eqi (neg : Bool) (st : Store) (a b : Int) : eqG neg st (.int a) (.int b) = .ok (.bl (if neg = true then !decide (a = b) else decide (a = b)), st) := by rw [eqG_pl (by simp) (by simp) (by simp) (by simp)]; simp
theorem eqs (neg : Bool) (st : Store) (a b : List Nat) : eqG neg st (.str a) (.str b) = .ok (.bl (if neg = true then !decide (a = b) else decide (a = b)), st) := by rw [eqG_pl (by simp) (by simp) (by simp) (by simp)]; simp
theorem addLl (S : Store) (a b : List D) (h : a.length + b.length ≤ 1000) : addG false S (.lst a) (.lst b) = .ok (.lst (a ++ b), S) := by
  have l := le_LIM (n := a.length + b.length) (by omega)
  simp [addG, lstOf, newL, l]
theorem addTt (S : Store) (a b : List D) (h : a.length + b.length ≤ 1000) : addG false S (.tup a) (.tup b) = .ok (.tup (a ++ b), S) := by
  have l := le_LIM (n := a.length + b.length) (by omega)
  simp [addG, l]
theorem addSs (S : Store) (a b : List Nat) (h : a.length + b.length ≤ 1000) : addG false S (.str a) (.str b) = .ok (.str (a ++ b), S) := by
  have l := le_LIM (n := a.length + b.length) (by omega)
  simp [addG, l]
theorem pieces (S : Store) (p : Page) (h30 : p.length ≤ 30) (k j : Nat) (jI : Int) (hj : jI = (j : Int)) : ∃ A B C E : List D,
    slG false S (.lst (encP p)) none (some (k : Int)) = .ok (.lst A, S) ∧ slG false S (.lst (encP p)) (some jI) none = .ok (.lst B, S) ∧
    slG false S (.lst (intsD 0 p.length)) none (some (k : Int)) = .ok (.lst C, S) ∧ slG false S (.lst (intsD 0 p.length)) (some jI) none = .ok (.lst E, S) ∧
    (∀ rs : Page, rs.length ≤ 10 → addG false S (.lst A) (.lst (encP rs)) = .ok (.lst (A ++ encP rs), S) ∧ addG false S (.lst (A ++ encP rs)) (.lst B) = .ok (.lst (encP (spl p k rs j)), S)) ∧
    (∀ m, m ≤ 10 → addG false S (.lst C) (.lst (List.replicate m .non)) = .ok (.lst (C ++ List.replicate m .non), S) ∧ addG false S (.lst (C ++ List.replicate m .non)) (.lst E) = .ok (.lst ((spl (everyN p.length) k (List.replicate m none) j).map encO), S)) ∧
    addG false S (.lst A) (.lst B) = .ok (.lst (encP (spl p k [] j)), S) ∧ addG false S (.lst C) (.lst E) = .ok (.lst ((spl (everyN p.length) k [] j).map encO), S) := by
  subst hj
  have la : (encP (p.take k)).length ≤ 30 := by rw [encP_len, List.length_take]; omega
  have lb : (encP (p.drop j)).length ≤ 30 := by rw [encP_len, List.length_drop]; omega
  have lc : (((everyN p.length).take k).map encO).length ≤ 30 := by rw [List.length_map, List.length_take, every_len]; omega
  have le : (((everyN p.length).drop j).map encO).length ≤ 30 := by rw [List.length_map, List.length_drop, every_len]; omega
  refine ⟨encP (p.take k), encP (p.drop j), ((everyN p.length).take k).map encO, ((everyN p.length).drop j).map encO, by rw [slLst, cutT, encP_take], by rw [slLst, cutF, encP_drop],
    by rw [slLst, cutT, ints_every, List.map_take], by rw [slLst, cutF, ints_every, List.map_drop], fun rs hr => ⟨?_, ?_⟩, fun m hm => ⟨?_, ?_⟩, ?_, ?_⟩
  · exact addLl S _ _ (by rw [encP_len rs]; omega)
  · rw [addLl S _ _ (by rw [List.length_append, encP_len rs]; omega), ← encP_app, ← encP_app]; rfl
  · exact addLl S _ _ (by rw [List.length_replicate]; omega)
  · rw [addLl S _ _ (by rw [List.length_append, List.length_replicate]; omega)]
    unfold spl
    rw [List.map_append, List.map_append, List.map_replicate]; rfl
  · rw [addLl S _ _ (by omega), ← encP_app]
    unfold spl
    rw [List.append_nil]
  · rw [addLl S _ _ (by omega)]
    unfold spl
    rw [List.append_nil, List.map_append]
section
variable {S : Store} {n L Q : Nat} {p : Page} {y : Sty} {ps : List Page}
def m_Sheet_change : FV := funD 5 (d_Sheet_change m_Sheet_need_number m_need_row m_Sheet_turn_to)
theorem sh_change_ok (h : Sht S n p y L Q ps) (hp : okPage p = true) {k : Nat} {r : Row} (hk : k < p.length) (hr : okRow r = true) :
    m_Sheet_change [.ref n, .int k, encR r] S = m_Sheet_turn_to [.ref n, .lst (encP (spl p k [r] (k + 1))), .lst ((spl (everyN p.length) k [none] (k + 1)).map encO)] S := by
  obtain ⟨p1, p2, p3⟩ := okPage_parts hp
  rw [m_Sheet_change, funD, d_Sheet_change]
  have nn := need_number_ok S n k ((p.length : Int) - 1)
  rw [if_pos ⟨by omega, by omega⟩] at nn
  have nr := need_row_ok S hr
  have hsh := h.sh
  have b1 : (p.length : Int) ≤ 1000000 := by omega
  obtain ⟨A, B, C, E, s1, s2, s3, s4, f, g, _, _⟩ := pieces S p p2 k (k + 1) ((k : Int) + 1) (by omega)
  obtain ⟨f1, f2⟩ := f [r] (by simp)
  obtain ⟨g1, g2⟩ := g 1 (by decide)
  rw [encP_cons, encP_nil] at f1 f2
  simp only [List.replicate_one] at g1 g2
  have a1 : ∀ a b : Int, addG false S (.int a) (.int b) = .ok (.int (a + b), S) := fun _ _ => rfl
  simp [hsh, sh_need_number, sh_turn_to, sh_rows, lenL, nn, nr, b1, newL, subG, a1, s1, s2, s3, s4, f1, f2, g1, g2]
  generalize m_Sheet_turn_to _ _ = r
  cases r <;> rfl
end
end Dl
namespace Dl
open PySem L2
theorem rpieces (S : Store) (r : Row) (h6 : r.length ≤ 6) (c j : Nat) (jI : Int) (hj : jI = (j : Int)) : ∃ A B : List D,
    slG false S (encR r) none (some (c : Int)) = .ok (.tup A, S) ∧ slG false S (encR r) (some jI) none = .ok (.tup B, S) ∧
    (∀ m : List (List Nat), m.length ≤ 5 → addG false S (.tup A) (.tup (m.map .str)) = .ok (.tup (A ++ m.map .str), S) ∧ addG false S (.tup (A ++ m.map .str)) (.tup B) = .ok (encR (spl r c m j), S)) := by
  subst hj
  have la : ((r.take c).map D.str).length ≤ 6 := by rw [List.length_map, List.length_take]; omega
  have lb : ((r.drop j).map D.str).length ≤ 6 := by rw [List.length_map, List.length_drop]; omega
  refine ⟨(r.take c).map .str, (r.drop j).map .str, by rw [encR, slTup, cutT, List.map_take], by rw [encR, slTup, cutF, List.map_drop], fun m hm => ⟨?_, ?_⟩⟩
  · exact addTt S _ _ (by rw [List.length_map (as := m)]; omega)
  · rw [addTt S _ _ (by rw [List.length_append, List.length_map (as := m)]; omega)]
    unfold spl encR
    rw [List.map_append, List.map_append]
theorem tpieces (S : Store) (t : List Nat) (h10 : t.length ≤ 10) (e : Nat) : slG false S (.str t) none (some (e : Int)) = .ok (.str (t.take e), S) ∧ slG false S (.str t) (some (e : Int)) none = .ok (.str (t.drop e), S) ∧ slG false S (.str t) (some ((e : Int) + 1)) none = .ok (.str (t.drop (e + 1)), S) :=
  ⟨by rw [slStr, cutT], by rw [slStr, cutF], by rw [slStr, cutF1]⟩
section
variable {S : Store} {n L Q : Nat} {p : Page} {y : Sty} {ps : List Page}
theorem rowIx (hk : k < p.length) : ixG S (.lst (encP p)) (.int k) = .ok (encR (rowAt p k), S) := by
  rw [ix_lst, atI_nat]
  unfold rowAt encP
  simp [hk]
theorem cellIx {r : Row} {c : Nat} (hc : c < r.length) : ixG S (encR r) (.int c) = .ok (.str (r.getD c []), S) := by
  unfold encR
  rw [ix_tup, atI_nat]
  simp [hc]
def m_Sheet_need_place : FV := funD 4 (d_Sheet_need_place m_Sheet_need_number m_is_number)
theorem need_place_ok (h : Sht S n p y L Q ps) (hp : okPage p = true) {k c e : Nat} (v : Valid p (k, c, e)) : m_Sheet_need_place [.ref n, .int k, .int c, .int e] S = .ok (.non, S) := by
  obtain ⟨v1, v2, v3⟩ := v
  simp only at v1 v2 v3
  rw [m_Sheet_need_place, funD, d_Sheet_need_place]
  have nn := need_number_ok S n k ((p.length : Int) - 1)
  rw [if_pos ⟨by omega, by omega⟩] at nn
  have hsh := h.sh
  have r1 := rowIx (S := S) v1
  have rl := (rowAt_ok hp v1).2.1
  have r2 := cellIx (S := S) (r := rowAt p k) (c := c) (by omega)
  have rc : (rowAt p k).getD c [] = cellAt p k c := rfl
  rw [rc] at r2
  have ln : lenG S [encR (rowAt p k)] = .ok (.int (cellsIn p k), S) := by
    show R.ok (D.int (((rowAt p k).map D.str).length : Nat), S) = _
    rw [List.length_map, rl]
  have d1 : ¬ (cellsIn p k : Int) - 1 < (c : Int) := by omega
  have d2 : ¬ (cellAt p k c).length < e := by omega
  simp [hsh, sh_need_number, sh_rows, lenL, nn, subG, r1, r2, ln, lenSt, d1, d2, -ix_lst]
/-- what a deed does: it's refused, by the class c, or the rows are turned -/
def doneBy (n : Nat) (p : Page) (d : Deed) (c : Nat) (S : Store) : R (D × Store) := match editOf p d with
  | none => .exc c none S
  | some x => m_Sheet_turn_to [.ref n, .lst (encP (editD p x).1), .lst ((editD p x).2.map encO)] S
def m_Sheet_erase : FV := funD 8 (d_Sheet_erase m_Sheet_need_place m_is_cell m_Sheet_change)
theorem sh_erase_ok (h : Sht S n p y L Q ps) (hp : okPage p = true) {k c e : Nat} (v : Valid p (k, c, e)) : m_Sheet_erase [.ref n, .int k, .int c, .int e] S = doneBy n p (.erase k c e) 4 S := by
  have np := need_place_ok h hp v
  have hok : ∀ x, editOf p (.erase k c e) = some x → EditOk p x := fun x hx => editOf_ok hp (d := .erase k c e) v hx
  obtain ⟨v1, v2, v3⟩ := v
  simp only at v1 v2 v3
  rw [m_Sheet_erase, funD, d_Sheet_erase]
  have hsh := h.sh
  have r1 := rowIx (S := S) v1
  obtain ⟨ra, rl, rc⟩ := rowAt_ok hp v1
  have cl := cellsIn_le hp v1
  have r2 := cellIx (S := S) (r := rowAt p k) (c := c) (by omega)
  have rcc : ∀ c, (rowAt p k).getD c [] = cellAt p k c := fun _ => rfl
  rw [rcc] at r2
  have co := cellAt_ok hp v1 v2
  have c10 := (okCell_un co).1
  have ln : lenG S [encR (rowAt p k)] = .ok (.int (cellsIn p k), S) := by
    show R.ok (D.int (((rowAt p k).map D.str).length : Nat), S) = _
    rw [List.length_map, rl]
  obtain ⟨t1, t2, t3⟩ := tpieces S (cellAt p k c) c10 e
  have a1 : ∀ a b : Int, addG false S (.int a) (.int b) = .ok (.int (a + b), S) := fun _ _ => rfl
  unfold doneBy
  simp only [editOf] at hok ⊢
  by_cases z : e < (cellAt p k c).length
  · have z' : (e : Int) < ((cellAt p k c).length : Int) := by omega
    rw [if_pos z] at hok ⊢
    have eo := hok _ rfl
    have ro := eo.2.2.1 _ (List.mem_singleton.mpr rfl)
    obtain ⟨A, B, s1, s2, f⟩ := rpieces S (rowAt p k) (by omega) c (c + 1) ((c : Int) + 1) (by omega)
    have hc := sh_change_ok h hp v1 ro
    obtain ⟨nw, hnw⟩ : ∃ nw, nw = (cellAt p k c).take e ++ (cellAt p k c).drop (e + 1) := ⟨_, rfl⟩
    have ad : addG false S (.str ((cellAt p k c).take e)) (.str ((cellAt p k c).drop (e + 1))) = .ok (.str nw, S) := by rw [hnw]; exact addSs S _ _ (by rw [List.length_take, List.length_drop]; omega)
    rw [← hnw] at hc eo ⊢
    obtain ⟨f1, f2⟩ := f [nw] (by simp)
    have ic : okCell nw = true := by
      rw [hnw]
      exact okCell_app (okCell_take co _) (okCell_drop co _) (by rw [List.length_append, List.length_take, List.length_drop]; omega)
    simp only [List.map_cons, List.map_nil] at f1 f2
    simp [hsh, sh_need_place, sh_change, sh_rows, np, r1, r2, lenSt, ltG, z, z', t1, t2, t3, ad, a1, s1, s2, f1, f2, is_cell_str, ic, hc, -ix_lst, editD]
    generalize m_Sheet_turn_to _ _ = r
    cases r <;> rfl
  · have z' : ¬ (e : Int) < ((cellAt p k c).length : Int) := by omega
    rw [if_neg z] at hok ⊢
    by_cases z2 : c + 1 = cellsIn p k
    · have z2' : (cellsIn p k : Int) - 1 = (c : Int) := by omega
      rw [if_pos z2]
      simp [hsh, sh_need_place, sh_rows, np, r1, r2, lenSt, ltG, z, z', ln, subG, eqi, z2', -ix_lst]
    · have z2' : ¬ (c : Int) = (cellsIn p k : Int) - 1 := by omega
      rw [if_neg z2] at hok ⊢
      have r3 := cellIx (S := S) (r := rowAt p k) (c := c + 1) (by omega)
      rw [rcc, show ((c + 1 : Nat) : Int) = (c : Int) + 1 by omega] at r3
      have co2 := cellAt_ok hp v1 (c := c + 1) (by omega)
      have c102 := (okCell_un co2).1
      obtain ⟨A, B, s1, s2, f⟩ := rpieces S (rowAt p k) (by omega) c (c + 2) ((c : Int) + 2) (by omega)
      obtain ⟨nw, hnw⟩ : ∃ nw, nw = cellAt p k c ++ cellAt p k (c + 1) := ⟨_, rfl⟩
      have ad : addG false S (.str (cellAt p k c)) (.str (cellAt p k (c + 1))) = .ok (.str nw, S) := by rw [hnw]; exact addSs S _ _ (by omega)
      rw [← hnw] at hok ⊢
      obtain ⟨f1, f2⟩ := f [nw] (by simp)
      simp only [List.map_cons, List.map_nil] at f1 f2
      by_cases z3 : 10 < nw.length
      · have ic : okCell nw = false := by
          unfold okCell
          rw [decide_eq_false (by omega)]; rfl
        rw [if_pos z3]
        simp [hsh, sh_need_place, sh_rows, np, r1, r2, lenSt, ltG, z, z', ln, subG, eqi, z2', r3, ad, a1, s2, is_cell_str, ic, -ix_lst]
      · rw [if_neg z3] at hok ⊢
        have eo := hok _ rfl
        have ro := eo.2.2.1 _ (List.mem_singleton.mpr rfl)
        have hc := sh_change_ok h hp v1 ro
        have ic : okCell nw = true := by
          rw [hnw]
          exact okCell_app co co2 (by rw [← hnw]; omega)
        simp [hsh, sh_need_place, sh_change, sh_rows, np, r1, r2, lenSt, ltG, z, z', ln, subG, eqi, z2', r3, ad, a1, s1, s2, f1, f2, is_cell_str, ic, hc, -ix_lst, editD]
        generalize m_Sheet_turn_to _ _ = r
        cases r <;> rfl
end
end Dl
namespace Dl
open PySem L2
theorem ne_nilS {S : Store} (l : List (List Nat)) : eqG true S (.lst (l.map .str)) (.lst []) = .ok (.bl (!decide (l = [])), S) := by
  rw [eqG_pl (by
    rw [pl_lst, pls_iff]
    intro x hx
    obtain ⟨u, _, rfl⟩ := List.mem_map.mp hx
    rfl) (by rfl) (by
    rw [dp_lst]
    have : D.dps (l.map D.str) ≤ 1 := dps_le.mpr fun x hx => by
      obtain ⟨u, _, rfl⟩ := List.mem_map.mp hx
      exact Nat.le_refl _
    omega) (by simp)]
  simp
theorem lc_bad {S : Store} {j : Nat} {env : Env} (l : List (List Nat)) (hj : j < env.length) : lcGo [] (.one j) (tNotD (tv (eCall 1 m_is_cell (aCons (eV j) (aNil))))) (eV j) env (l.map .str) [] S = .ok ((l.filter fun s => !okCell s).map .str, S) := by
  rw [lc_keep (still_nil S) (fun d => match d with | .str s => !okCell s | _ => false) _ (fun d hd => ?_) hj]
  · rw [List.filter_map]; rfl
  · obtain ⟨s, _, rfl⟩ := List.mem_map.mp hd
    simp [hj, is_cell_str]
section
variable {S : Store} {n L Q : Nat} {p : Page} {y : Sty} {ps : List Page}
theorem cellIxL (hp : okPage p = true) {k : Nat} (hk : k < p.length) : ixG S (encR (rowAt p k)) (.int (-1)) = .ok (.str (cellAt p k (cellsIn p k - 1)), S) := by
  obtain ⟨ra, rl, rc⟩ := rowAt_ok hp hk
  have cl := cellsIn_le hp hk
  unfold encR
  rw [ix_tup]
  have hl : ((rowAt p k).map D.str).length = (cellsIn p k - 1) + 1 := by rw [List.length_map, rl]; omega
  have : atI ((rowAt p k).map D.str) (-1) = some (.str (cellAt p k (cellsIn p k - 1))) := by
    unfold atI
    rw [hl, ixN_last]
    show (some (cellsIn p k - 1)).bind (fun j => ((rowAt p k).map D.str)[j]?) = _
    rw [Option.bind_some, List.getElem?_map]
    have h2 : cellsIn p k - 1 < (rowAt p k).length := by omega
    rw [List.getElem?_eq_getElem h2]
    unfold cellAt
    show some (D.str (rowAt p k)[cellsIn p k - 1]) = some (D.str ((rowAt p k).getD (cellsIn p k - 1) []))
    simp [h2]
  rw [this]; rfl
def m_Sheet_strike_k10 : FV := funD 9 (d_Sheet_strike_k10 m_Sheet_need_place m_is_sign m_is_cell m_Sheet_change)
theorem sh_strike_ok (h : Sht S n p y L Q ps) (hp : okPage p = true) {k c e : Nat} {s : List Nat} (v : Valid p (k, c, e)) (hs : s = [9] ∨ ∃ x, s = [x] ∧ okSign x = true) : m_Sheet_strike_k10 [.ref n, .int k, .int c, .int e, .str s] S = doneBy n p (.strike k c e s) 4 S := by
  have np := need_place_ok h hp v
  have hok : ∀ x, editOf p (.strike k c e s) = some x → EditOk p x := fun x hx => editOf_ok hp (d := .strike k c e s) ⟨v, hs⟩ hx
  obtain ⟨v1, v2, v3⟩ := v
  simp only at v1 v2 v3
  rw [m_Sheet_strike_k10, funD, d_Sheet_strike_k10]
  have hsh := h.sh
  have r1 := rowIx (S := S) v1
  obtain ⟨ra, rl, rc⟩ := rowAt_ok hp v1
  have cl := cellsIn_le hp v1
  have r2 := cellIx (S := S) (r := rowAt p k) (c := c) (by omega)
  have rcc : ∀ c, (rowAt p k).getD c [] = cellAt p k c := fun _ => rfl
  rw [rcc] at r2
  have co := cellAt_ok hp v1 v2
  have c10 := (okCell_un co).1
  have ln : lenG S [encR (rowAt p k)] = .ok (.int (cellsIn p k), S) := by
    show R.ok (D.int (((rowAt p k).map D.str).length : Nat), S) = _
    rw [List.length_map, rl]
  obtain ⟨t1, t2, t3⟩ := tpieces S (cellAt p k c) c10 e
  have a1 : ∀ a b : Int, addG false S (.int a) (.int b) = .ok (.int (a + b), S) := fun _ _ => rfl
  obtain ⟨A, B, s1, s2, f⟩ := rpieces S (rowAt p k) (by omega) c (c + 1) ((c : Int) + 1) (by omega)
  unfold doneBy
  simp only [editOf] at hok ⊢
  by_cases z : s = [9]
  · rw [if_pos z] at hok ⊢
    by_cases z2 : cellsIn p k = 6
    · have z2' : (cellsIn p k : Int) = 6 := by omega
      rw [if_pos z2]
      simp [hsh, sh_need_place, sh_rows, np, r1, r2, eqs, z, ln, eqi, z2', -ix_lst]
    · have z2' : ¬ (cellsIn p k : Int) = 6 := by omega
      rw [if_neg z2] at hok ⊢
      have eo := hok _ rfl
      have ro := eo.2.2.1 _ (List.mem_singleton.mpr rfl)
      have hc := sh_change_ok h hp v1 ro
      obtain ⟨f1, f2⟩ := f [(cellAt p k c).take e, (cellAt p k c).drop e] (by simp)
      simp only [List.map_cons, List.map_nil] at f1 f2
      have lb := lc_bad (S := S) (j := 8) (env := [some (.ref n), some (.int k), some (.int c), some (.int e), some (.str s), some (encR (rowAt p k)), some (.str (cellAt p k c)), some (.tup [.str ((cellAt p k c).take e), .str ((cellAt p k c).drop e)]), none]) [(cellAt p k c).take e, (cellAt p k c).drop e] (by simp)
      have fe : ([(cellAt p k c).take e, (cellAt p k c).drop e].filter fun s => !okCell s) = [] := by
        simp [okCell_take co, okCell_drop co]
      rw [fe] at lb
      have nn := ne_nilS (S := S) []
      simp only [List.map_cons, List.map_nil] at lb nn
      rw [z] at lb
      have two : (2 : Nat) ≤ LIM := by decide
      have zer : (0 : Nat) ≤ LIM := by decide
      simp [hsh, sh_need_place, sh_change, sh_rows, np, r1, r2, eqs, z, ln, eqi, z2', t1, t2, two, lb, newL, nn, a1, s1, s2, f1, f2, hc, -ix_lst, editD, itemsOf]
      generalize m_Sheet_turn_to _ _ = r
      cases r <;> rfl
  · rw [if_neg z] at hok ⊢
    obtain ⟨x, rfl, hx⟩ := hs.resolve_left z
    have zx : ¬ x = 9 := fun q => z (by rw [q])
    obtain ⟨nw, hnw⟩ : ∃ nw, nw = (cellAt p k c).take e ++ [x] ++ (cellAt p k c).drop e := ⟨_, rfl⟩
    have ad1 : addG false S (.str ((cellAt p k c).take e)) (.str [x]) = .ok (.str ((cellAt p k c).take e ++ [x]), S) := addSs S _ _ (by rw [List.length_take]; simp; omega)
    have ad2 : addG false S (.str ((cellAt p k c).take e ++ [x])) (.str ((cellAt p k c).drop e)) = .ok (.str nw, S) := by rw [hnw]; exact addSs S _ _ (by rw [List.length_append, List.length_take, List.length_drop]; simp; omega)
    have nwl : nw.length = (cellAt p k c).length + 1 := by rw [hnw, List.length_append, List.length_append, List.length_take, List.length_drop]; simp; omega
    have lb := lc_bad (S := S) (j := 8) (env := [some (.ref n), some (.int k), some (.int c), some (.int e), some (.str [x]), some (encR (rowAt p k)), some (.str (cellAt p k c)), some (.tup [.str nw]), none]) [nw] (by simp)
    have is1 := is_sign_str x S
    rw [hx] at is1
    have one : (1 : Nat) ≤ LIM := by decide
    have ty : tyOf S (.str [x]) = some "str" := rfl
    have sb : subTy "str" "str" = true := by decide
    obtain ⟨f1, f2⟩ := f [nw] (by simp)
    simp only [List.map_cons, List.map_nil] at f1 f2 lb
    rw [← hnw] at hok ⊢
    by_cases z3 : (cellAt p k c).length = 10
    · rw [if_pos z3]
      have ic : okCell nw = false := by
        unfold okCell
        rw [decide_eq_false (by omega)]; rfl
      have fe : ([nw].filter fun s => !okCell s) = [nw] := by simp [ic]
      rw [fe] at lb
      have nn := ne_nilS (S := S) [nw]
      simp only [List.map_cons, List.map_nil] at lb nn
      simp [hsh, sh_need_place, sh_rows, np, r1, r2, eqs, zx, ty, sb, lenSt, eqi, is1, t1, t2, ad1, ad2, one, lb, newL, nn, -ix_lst, itemsOf]
    · rw [if_neg z3] at hok ⊢
      have eo := hok _ rfl
      have ro := eo.2.2.1 _ (List.mem_singleton.mpr rfl)
      have hc := sh_change_ok h hp v1 ro
      have ic : okCell nw = true := by
        rw [hnw]
        refine okCell_app (okCell_app (okCell_take co _) (okCell_mk (by simp) fun c hc => by rw [List.mem_singleton.mp hc]; exact hx) ?_) (okCell_drop co _) ?_
        · rw [List.length_append, List.length_take]; simp; omega
        · rw [← hnw]; omega
      have fe : ([nw].filter fun s => !okCell s) = [] := by simp [ic]
      rw [fe] at lb
      have nn := ne_nilS (S := S) []
      simp only [List.map_cons, List.map_nil] at lb nn
      simp [hsh, sh_need_place, sh_change, sh_rows, np, r1, r2, eqs, zx, ty, sb, lenSt, eqi, is1, t1, t2, ad1, ad2, one, lb, newL, nn, a1, s1, s2, f1, f2, hc, -ix_lst, editD, itemsOf]
      generalize m_Sheet_turn_to _ _ = r
      cases r <;> rfl
end
end Dl
namespace Dl
open PySem L2
section
variable {S : Store} {n L Q : Nat} {p : Page} {y : Sty} {ps : List Page}
def m_Sheet_part : FV := funD 8 (d_Sheet_part m_Sheet_need_place m_Sheet_turn_to)
theorem sh_part_ok (h : Sht S n p y L Q ps) (hp : okPage p = true) {k c e : Nat} (v : Valid p (k, c, e)) : m_Sheet_part [.ref n, .int k, .int c, .int e] S = doneBy n p (.part k c e) 3 S := by
  have np := need_place_ok h hp v
  obtain ⟨v1, v2, v3⟩ := v
  simp only at v1 v2 v3
  obtain ⟨p1, p2, p3⟩ := okPage_parts hp
  rw [m_Sheet_part, funD, d_Sheet_part]
  have hsh := h.sh
  have r1 := rowIx (S := S) v1
  obtain ⟨ra, rl, rc⟩ := rowAt_ok hp v1
  have cl := cellsIn_le hp v1
  have r2 := cellIx (S := S) (r := rowAt p k) (c := c) (by omega)
  have rcc : ∀ c, (rowAt p k).getD c [] = cellAt p k c := fun _ => rfl
  rw [rcc] at r2
  have co := cellAt_ok hp v1 v2
  have c10 := (okCell_un co).1
  obtain ⟨t1, t2, t3⟩ := tpieces S (cellAt p k c) c10 e
  have a1 : ∀ a b : Int, addG false S (.int a) (.int b) = .ok (.int (a + b), S) := fun _ _ => rfl
  have b1 : (p.length : Int) ≤ 1000000 := by omega
  obtain ⟨A, B, C, E, s1, s2, s3, s4, f, g, _, _⟩ := pieces S p p2 k (k + 1) ((k : Int) + 1) (by omega)
  obtain ⟨X, hX⟩ : ∃ X, X = (rowAt p k).take c ++ [(cellAt p k c).take e] := ⟨_, rfl⟩
  obtain ⟨Y, hY⟩ : ∃ Y, Y = (cellAt p k c).drop e :: (rowAt p k).drop (c + 1) := ⟨_, rfl⟩
  obtain ⟨f1, f2⟩ := f [X, Y] (by simp)
  obtain ⟨g1, g2⟩ := g 2 (by decide)
  rw [encP_cons, encP_cons, encP_nil] at f1 f2
  simp only [List.replicate_succ, List.replicate_zero] at g1 g2
  have u1 : slG false S (encR (rowAt p k)) none (some (c : Int)) = .ok (.tup (((rowAt p k).take c).map .str), S) := by rw [encR, slTup, cutT, List.map_take]
  have u2 : slG false S (encR (rowAt p k)) (some ((c : Int) + 1)) none = .ok (.tup (((rowAt p k).drop (c + 1)).map .str), S) := by rw [encR, slTup, cutF1, List.map_drop]
  have u3 : addG false S (.tup (((rowAt p k).take c).map .str)) (.tup [.str ((cellAt p k c).take e)]) = .ok (encR X, S) := by
    rw [addTt S _ _ (by rw [List.length_map, List.length_take]; simp; omega), hX]
    unfold encR
    rw [List.map_append]; rfl
  have u4 : addG false S (.tup [.str ((cellAt p k c).drop e)]) (.tup (((rowAt p k).drop (c + 1)).map .str)) = .ok (encR Y, S) := by
    rw [addTt S _ _ (by rw [List.length_map, List.length_drop]; simp; omega), hY]; rfl
  have one : (1 : Nat) ≤ LIM := by decide
  have two : (2 : Nat) ≤ LIM := by decide
  unfold doneBy
  simp only [editOf]
  by_cases z : p.length = 30
  · have z' : (p.length : Int) = 30 := by omega
    rw [if_pos z]
    simp [hsh, sh_need_place, sh_rows, np, lenL, eqi, z']
  · have z' : ¬ (p.length : Int) = 30 := by omega
    rw [if_neg z]
    rw [← hX, ← hY]
    generalize ((rowAt p k).take c).map D.str = DL at u1 u3
    generalize ((rowAt p k).drop (c + 1)).map D.str = DR at u2 u4
    simp [hsh, sh_need_place, sh_turn_to, sh_rows, np, lenL, eqi, z', r1, r2, t1, t2, u1, u2, one, two, u3, u4, newL, b1, a1, s1, s2, s3, s4, f1, f2, g1, g2, -ix_lst, editD]
    generalize m_Sheet_turn_to _ _ = r
    cases r <;> rfl
def m_Sheet_unite : FV := funD 7 (d_Sheet_unite m_Sheet_need_number m_is_cell m_Sheet_turn_to)
theorem sh_unite_ok (h : Sht S n p y L Q ps) (hp : okPage p = true) {k : Nat} (hk : k < p.length) : m_Sheet_unite [.ref n, .int k] S = doneBy n p (.unite k) (if k + 1 = p.length then 3 else 4) S := by
  have hok : ∀ x, editOf p (.unite k) = some x → EditOk p x := fun x hx => editOf_ok hp (d := .unite k) hk hx
  obtain ⟨p1, p2, p3⟩ := okPage_parts hp
  rw [m_Sheet_unite, funD, d_Sheet_unite]
  have hsh := h.sh
  unfold doneBy
  simp only [editOf] at hok ⊢
  have nn := need_number_ok S n k ((p.length : Int) - 2)
  by_cases z : k + 1 = p.length
  · rw [if_neg (by omega)] at nn
    rw [if_pos z, if_pos z]
    simp [hsh, sh_need_number, sh_rows, lenL, nn, subG]
  · rw [if_pos ⟨by omega, by omega⟩] at nn
    rw [if_neg z] at hok ⊢
    rw [if_neg z]
    have hk1 : k + 1 < p.length := by omega
    have r1 := rowIx (S := S) hk
    have r2 := rowIx (S := S) hk1
    rw [show ((k + 1 : Nat) : Int) = (k : Int) + 1 by omega] at r2
    obtain ⟨ra, rl, rc⟩ := rowAt_ok hp hk
    obtain ⟨ra1, rl1, rc1⟩ := rowAt_ok hp hk1
    have cl := cellsIn_le hp hk
    have cl1 := cellsIn_le hp hk1
    have x1 := cellIxL (S := S) hp hk
    have x2 : ixG S (encR (rowAt p (k + 1))) (.int 0) = .ok (.str (cellAt p (k + 1) 0), S) := cellIx (S := S) (r := rowAt p (k + 1)) (c := 0) (by omega)
    have co := cellAt_ok hp hk (c := cellsIn p k - 1) (by omega)
    have co1 := cellAt_ok hp hk1 (c := 0) (by omega)
    have c10 := (okCell_un co).1
    have c101 := (okCell_un co1).1
    have ln : lenG S [encR (rowAt p k)] = .ok (.int (cellsIn p k), S) := by
      show R.ok (D.int (((rowAt p k).map D.str).length : Nat), S) = _
      rw [List.length_map, rl]
    have ln1 : lenG S [encR (rowAt p (k + 1))] = .ok (.int (cellsIn p (k + 1)), S) := by
      show R.ok (D.int (((rowAt p (k + 1)).map D.str).length : Nat), S) = _
      rw [List.length_map, rl1]
    obtain ⟨nw, hnw⟩ : ∃ nw, nw = cellAt p k (cellsIn p k - 1) ++ cellAt p (k + 1) 0 := ⟨_, rfl⟩
    have ad : addG false S (.str (cellAt p k (cellsIn p k - 1))) (.str (cellAt p (k + 1) 0)) = .ok (.str nw, S) := by rw [hnw]; exact addSs S _ _ (by omega)
    have a1 : ∀ a b : Int, addG false S (.int a) (.int b) = .ok (.int (a + b), S) := fun _ _ => rfl
    have b1 : (p.length : Int) ≤ 1000000 := by omega
    rw [← hnw] at hok ⊢
    by_cases z1 : 6 < cellsIn p k + cellsIn p (k + 1) - 1
    · have z1' : 6 < (cellsIn p k : Int) + (cellsIn p (k + 1) : Int) - 1 := by omega
      rw [if_pos (.inl z1)]
      simp [hsh, sh_need_number, sh_rows, lenL, nn, subG, r1, r2, a1, x1, x2, ad, ln, ln1, gtG, z1', -ix_lst]
    · have z1' : ¬ 6 < (cellsIn p k : Int) + (cellsIn p (k + 1) : Int) - 1 := by omega
      by_cases z2 : 10 < nw.length
      · have ic : okCell nw = false := by
          unfold okCell
          rw [decide_eq_false (by omega)]; rfl
        rw [if_pos (.inr z2)]
        simp [hsh, sh_need_number, sh_rows, lenL, nn, subG, r1, r2, a1, x1, x2, ad, ln, ln1, gtG, z1', is_cell_str, ic, -ix_lst]
      · have hn : ¬ (6 < cellsIn p k + cellsIn p (k + 1) - 1 ∨ 10 < nw.length) := by omega
        rw [if_neg hn] at hok ⊢
        have ic : okCell nw = true := by
          rw [hnw]
          exact okCell_app co co1 (by rw [← hnw]; omega)
        obtain ⟨A, B, C, E, s1, s2, s3, s4, f, g, _, _⟩ := pieces S p p2 k (k + 2) ((k : Int) + 2) (by omega)
        obtain ⟨X, hX⟩ : ∃ X, X = (rowAt p k).dropLast ++ [nw] ++ (rowAt p (k + 1)).drop 1 := ⟨_, rfl⟩
        obtain ⟨f1, f2⟩ := f [X] (by simp)
        obtain ⟨g1, g2⟩ := g 1 (by decide)
        rw [encP_cons, encP_nil] at f1 f2
        simp only [List.replicate_one] at g1 g2
        have u1 : slG false S (encR (rowAt p k)) none (some (-1)) = .ok (.tup (((rowAt p k).dropLast).map .str), S) := by rw [encR, slTup, cutTm, List.map_dropLast]
        have u2 : slG false S (encR (rowAt p (k + 1))) (some 1) none = .ok (.tup (((rowAt p (k + 1)).drop 1).map .str), S) := by rw [encR, slTup, cutF01, List.map_drop]
        have u3 : addG false S (.tup (((rowAt p k).dropLast).map .str)) (.tup [.str nw]) = .ok (.tup (((rowAt p k).dropLast).map .str ++ [.str nw]), S) := addTt S _ _ (by rw [List.length_map, List.length_dropLast]; simp; omega)
        have u4 : addG false S (.tup (((rowAt p k).dropLast).map .str ++ [.str nw])) (.tup (((rowAt p (k + 1)).drop 1).map .str)) = .ok (encR X, S) := by
          rw [addTt S _ _ (by rw [List.length_append, List.length_map, List.length_map, List.length_dropLast, List.length_drop]; simp; omega), hX]
          unfold encR
          rw [List.map_append, List.map_append]; rfl
        rw [← hX]
        have one : (1 : Nat) ≤ LIM := by decide
        obtain ⟨RK, hRK⟩ : ∃ RK, RK = encR (rowAt p k) := ⟨_, rfl⟩
        obtain ⟨RK1, hRK1⟩ : ∃ RK1, RK1 = encR (rowAt p (k + 1)) := ⟨_, rfl⟩
        rw [← hRK] at r1 x1 ln u1
        rw [← hRK1] at r2 x2 ln1 u2
        generalize ((rowAt p k).dropLast).map D.str = DL at u1 u3 u4
        generalize ((rowAt p (k + 1)).drop 1).map D.str = DR at u2 u4
        simp [hsh, sh_need_number, sh_turn_to, sh_rows, lenL, nn, subG, r1, r2, a1, x1, x2, ad, ln, ln1, gtG, z1', is_cell_str, ic, b1, newL, one, u1, u2, u3, u4, s1, s2, s3, s4, f1, f2, g1, g2, -ix_lst, editD]
        generalize m_Sheet_turn_to _ _ = r
        cases r <;> rfl
/-- back, nothing ahead -/
theorem sh_back0 (h : Sht S n p y L Q []) : m_Sheet_back [.ref n] S = .ok (.bl false, S) := by
  rw [m_Sheet_back, funD, d_Sheet_back]
  have e : eqG false S (.ref Q) (.lst []) = .ok (.bl true, S) := by
    rw [eqG_refL h.pa, eqG_pl rfl rfl (by simp [pagesD]) (by simp)]; simp [pagesD]
  simp [h.sh, sh_past, e]
theorem pagesD_pl (qs : List Page) : D.pl (.lst (pagesD qs)) = true := by
  rw [pl_lst, pls_iff]
  intro x hx
  obtain ⟨q, _, rfl⟩ := List.mem_map.mp hx
  simp
theorem pagesD_dp (qs : List Page) : D.dp (.lst (pagesD qs)) ≤ 6 := by
  rw [dp_lst]
  have : D.dps (pagesD qs) ≤ 5 := dps_le.mpr fun x hx => by
    obtain ⟨q, _, rfl⟩ := List.mem_map.mp hx
    have := dps_encP q
    simp; omega
  omega
theorem sh_back1 {q : Page} (h : Sht S n p y L Q (ps ++ [q])) (hq : okPage q = true) :
    ∃ S' L', m_Sheet_back [.ref n] S = .ok (.bl true, S') ∧ Sht S' n q y L' Q ps ∧ (∀ i ob, i ≠ n → i ≠ Q → S[i]? = some ob → S'[i]? = some ob) ∧ S.length ≤ L' ∧ S.length ≤ S'.length := by
  rw [m_Sheet_back, funD, d_Sheet_back]
  obtain ⟨q1, q2, q3⟩ := okPage_parts hq
  have nL := h.nL
  have nQ := h.nQ
  have nS : n < S.length := (List.getElem?_eq_some_iff.mp h.sh).1
  have QS : Q < S.length := (List.getElem?_eq_some_iff.mp h.pa).1
  have e : eqG false S (.ref Q) (.lst []) = .ok (.bl false, S) := by
    rw [eqG_refL h.pa, eqG_pl (pagesD_pl _) rfl (by have := pagesD_dp (ps ++ [q]); omega) (by simp)]
    simp [pagesD]
  have tyQ : tyM S (.ref Q) = some "list" := by simp only [tyM, h.pa]
  obtain ⟨S1, hS1⟩ : ∃ S1, S1 = S.set Q (.lst (pagesD ps)) := ⟨_, rfl⟩
  have po : popG S (.ref Q) [] = .ok (.lst (encP q), S1) := by
    have e1 : (pagesD (ps ++ [q]))[(pagesD (ps ++ [q])).length - 1]? = some (.lst (encP q)) := by simp [pagesD]
    have e2 : (pagesD (ps ++ [q])).dropLast = pagesD ps := by simp [pagesD]
    simp only [popG, h.pa, e1, e2]
    rw [hS1]
  have k1 : ∀ (i : Nat) (ob : Ob), i ≠ Q → S[i]? = some ob → S1[i]? = some ob := fun i ob hi e => by rw [hS1]; exact set_keep hi e
  have g1 := k1 _ _ (by omega) h.sh
  obtain ⟨S2, hS2⟩ : ∃ S2, S2 = S1.set n (.ins 13 (shFs q y L Q)) := ⟨_, rfl⟩
  have k2 : ∀ (i : Nat) (ob : Ob), i ≠ n → S1[i]? = some ob → S2[i]? = some ob := fun i ob hi e => by rw [hS2]; exact set_keep hi e
  have g2 : S2[n]? = some (.ins 13 (shFs q y L Q)) := by rw [hS2]; exact set_self g1
  have len2 : S2.length = S.length := by rw [hS2, hS1]; simp
  obtain ⟨k, M1, L', M2, as, bb, hL, la⟩ := lefts_ok hq y (d := .lst (encP q)) (w := []) (st := S2) rfl
  rw [len2] at hL
  obtain ⟨S3, hS3⟩ : ∃ S3, S3 = S2 ++ M1 := ⟨_, rfl⟩
  obtain ⟨S4, hS4⟩ : ∃ S4, S4 = S3 ++ M2 := ⟨_, rfl⟩
  rw [← hS3] at as bb la
  rw [← hS4] at bb la
  have g3 : S3[n]? = some (.ins 13 (shFs q y L Q)) := by rw [hS3]; exact get_app g2
  have g4 : S4[n]? = some (.ins 13 (shFs q y L Q)) := by rw [hS4]; exact get_app g3
  obtain ⟨S5, hS5⟩ : ∃ S5, S5 = S4.set n (.ins 13 (shFs q y L' Q)) := ⟨_, rfl⟩
  have g5 : S5[n]? = some (.ins 13 (shFs q y L' Q)) := by rw [hS5]; exact set_self g4
  have k5 : ∀ (i : Nat) (ob : Ob), i ≠ n → S4[i]? = some ob → S5[i]? = some ob := fun i ob hi e => by rw [hS5]; exact set_keep hi e
  have kk : ∀ (i : Nat) (ob : Ob), i ≠ n → i ≠ Q → S[i]? = some ob → S5[i]? = some ob := fun i ob h1 h2 e => k5 _ _ h1 (by rw [hS4, hS3]; exact get_app (get_app (k2 _ _ h1 (k1 _ _ h2 e))))
  have la5 : Lays S5 L' q (bAt q y) := ⟨k5 _ _ (by omega) la.1, fun k hk => k5 _ _ (by omega) (la.2 k hk)⟩
  have pa5 : S5[Q]? = some (.lst (pagesD ps)) := k5 _ _ (by omega) (by rw [hS4, hS3]; exact get_app (get_app (k2 _ _ (by omega) (by rw [hS1]; exact set_self h.pa))))
  have z4 : ∀ p L, (shFs p y L Q).length = 4 := fun p L => sh_len _ _ _ _
  refine ⟨S5, L', ?_, ⟨g5, la5, pa5, by omega, nQ, .inl (by omega)⟩, kk, hL, by rw [hS5, List.length_set, hS4, hS3, List.length_append, List.length_append, len2]; omega⟩
  simp [h.sh, sh_past, e, tyQ, po, g1, z4, put_rows, ← hS2, g2, sh_rows, sh_style, as, bb, g3, g4, put_lefts, ← hS5]
end
end Dl
namespace Dl
open PySem L2
end Dl
namespace Dl
open PySem L2
end Dl
namespace Dl
open PySem L2
theorem lix_row {S : Store} {p : Page} {d : D} {w : List (Nat × List D)} (hd : listOf S d = some (encP p, w)) {k : Nat} (hk : k < p.length) : ixG S d (.int k) = .ok (encR (rowAt p k), S) := by
  rw [ix_list hd, atI_nat]
  unfold rowAt encP
  simp [hk]
end Dl
namespace Dl
open PySem L2
section
variable {S : Store} {n L Q : Nat} {p : Page} {y : Sty} {ps : List Page}
theorem sh_nam (p : Page) (y : Sty) (L Q : Nat) : (shFs p y L Q).lookup ("put" : Str) = none ∧ (shFs p y L Q).lookup ("take" : Str) = none ∧ (shFs p y L Q).lookup ("strike" : Str) = none ∧ (shFs p y L Q).lookup ("erase" : Str) = none ∧ (shFs p y L Q).lookup ("part" : Str) = none ∧ (shFs p y L Q).lookup ("unite" : Str) = none :=
  ⟨sh_no p y L Q (by decide +kernel) (by decide +kernel) (by decide +kernel) (by decide +kernel), sh_no p y L Q (by decide +kernel) (by decide +kernel) (by decide +kernel) (by decide +kernel), sh_no p y L Q (by decide +kernel) (by decide +kernel) (by decide +kernel) (by decide +kernel),
   sh_no p y L Q (by decide +kernel) (by decide +kernel) (by decide +kernel) (by decide +kernel), sh_no p y L Q (by decide +kernel) (by decide +kernel) (by decide +kernel) (by decide +kernel), sh_no p y L Q (by decide +kernel) (by decide +kernel) (by decide +kernel) (by decide +kernel)⟩
end
end Dl
namespace Dl
open PySem L2
def m_Sheet_begins : FV := funD 2 d_Sheet_begins
theorem sh_begins_ok {S : Store} {n L Q : Nat} {p : Page} {y : Sty} (hp : okPage p = true) (hs : S[n]? = some (.ins 13 (shFs p y L Q))) (la : Lays S L p (bAt p y)) : m_Sheet_begins [.ref n] S = .ok (.ref (S.length + p.length), S ++ (gridS p (bAt p y) ++ [.lst (refs S.length p.length)])) := by
  obtain ⟨p1, p2, p3⟩ := okPage_parts hp
  rw [m_Sheet_begins, funD, d_Sheet_begins]
  have it : itemsOf S (.ref L) = some (refs (L + 1) p.length, [(L, refs (L + 1) p.length)]) := by simp only [itemsOf, la.1]
  have ll : (refs (L + 1) p.length).length ≤ LIM := le_LIM (by rw [refs_len]; omega)
  have key : lcGo [(L, refs (L + 1) p.length)] (.one 1) tYesD (eB (listG true) (aCons (eV 1) (aNil))) [some (.ref n), none] (refs (L + 1) p.length) [] S = .ok (refs S.length p.length, S ++ gridS p (bAt p y)) := by
    generalize hf : lcGo _ _ _ _ _ _ _ _ = r
    obtain ⟨acc, s, rfl, e1, e2⟩ := lc_at hf (fun i acc st => acc = refs S.length i ∧ st = S ++ (gridS p (bAt p y)).take i) ⟨rfl, by simp⟩ (fun i acc st hi ⟨e1, e2⟩ => by
      have g := get_app (more := (gridS p (bAt p y)).take i) la.1
      rw [e2]
      simp [still, g, D.beqs_refl]) (fun i d acc st hd ⟨e1, e2⟩ => by
      have hi : i < p.length := by
        have := (List.getElem?_eq_some_iff.mp hd).1
        rwa [refs_len] at this
      rw [refs_get hi] at hd
      cases hd
      refine ⟨[some (.ref n), some (.ref (L + 1 + i))], rfl, ?_⟩
      have g : st[L + 1 + i]? = some (.lst (rowI p (bAt p y) i)) := by rw [e2]; exact get_app (la.2 i hi)
      have lg : listG true st [.ref (L + 1 + i)] = .ok (.ref st.length, st ++ [.lst (rowI p (bAt p y) i)]) := by simp [listG, lstOf, g]
      have ls : st.length = S.length + i := by rw [e2, List.length_append, List.length_take, gridS_len]; omega
      simp [lg]
      refine ⟨by rw [e1, refs_succ, ls], ?_⟩
      rw [e2, List.append_assoc]
      congr 1
      exact (take_snoc (gridS_at _ hi)).symm)
    rw [refs_len] at e1 e2
    rw [e1, e2, List.take_of_length_le (by rw [gridS_len]; omega)]
  generalize refs (L + 1) p.length = RF at it ll key
  simp [hs, sh_lefts, it, ll, key]
theorem sh_nbeg (p : Page) (y : Sty) (L Q : Nat) : (shFs p y L Q).lookup ("begins" : Str) = none := sh_no p y L Q (by decide +kernel) (by decide +kernel) (by decide +kernel) (by decide +kernel)
theorem Sht.app {S M : Store} {n L Q : Nat} {p : Page} {y : Sty} {ps : List Page} (h : Sht S n p y L Q ps) : Sht (S ++ M) n p y L Q ps := ⟨get_app h.sh, ⟨get_app h.la.1, fun k hk => get_app (h.la.2 k hk)⟩, get_app h.pa, h.nL, h.nQ, h.LQ⟩
end Dl
namespace Dl
open PySem L2
namespace C2
/-- a cursor at a place of a sheet -/
structure Cu (S : Store) (c n : Nat) (p : Page) (y : Sty) (L Q : Nat) (t : Pos3) : Prop where
  cu : S[c]? = some (.ins 14 (cuFs n t))
  sh : S[n]? = some (.ins 13 (shFs p y L Q))
  la : Lays S L p (bAt p y)
  va : Valid p t
  cn : c < n
  nL : n < L
section
variable {S : Store} {c n L Q : Nat} {p : Page} {y : Sty} {t : Pos3}
theorem Cu.pre {S' : Store} (h : Cu S c n p y L Q t) (s : Pre S S') : Cu S' c n p y L Q t := ⟨s _ _ h.cu, s _ _ h.sh, h.la.stays s.stays, h.va, h.cn, h.nL⟩
theorem Cu.move (h : Cu S c n p y L Q t) {t' : Pos3} (v : Valid p t') : Cu (mv S c n t') c n p y L Q t' :=
  ⟨set_self h.cu, set_keep (by have := h.cn; omega) h.sh, h.la.set (by have := h.cn; have := h.nL; omega), v, h.cn, h.nL⟩
theorem Cu.same (h : Cu S c n p y L Q t) : mv S c n t = S := set_same h.cu
theorem at_ok (h : Cu S c n p y L Q t) : m_Cursor_at [.ref c] S = .ok (encT t, S) := by
  rw [m_Cursor_at, funD, d_Cursor_at]
  simp [h.cu, cu_number, cu_cell, cu_place, encT]
theorem go_ok (h : Cu S c n p y L Q t) (t' : Pos3) : m_Cursor_go [.ref c, .int t'.1, .int t'.2.1, .int t'.2.2] S = .ok (.bl (!decide (t' = t)), mv S c n t') := by
  rw [m_Cursor_go, funD, d_Cursor_go]
  have a := at_ok h
  have e : eqG true S (.tup [.int t'.1, .int t'.2.1, .int t'.2.2]) (encT t) = .ok (.bl (!decide (t' = t)), S) := eq_trip (neg := true) t' t
  have f4 : ∀ u, (cuFs n u).length = 4 := fun u => rfl
  have ss : ∀ o, (S.set c o)[c]? = some o := fun o => set_self h.cu
  have hcu := h.cu
  simp [hcu, cu_at, a, e, f4, ss, put_number, put_cell, put_place, mv]
theorem mine_ok (h : Cu S c n p y L Q t) : ∃ rr, m_Cursor_mine [.ref c] S = .ok (rr, S) ∧ lenG S [rr] = .ok (.int (cellsIn p t.1), S) ∧ ixG S rr (.int t.2.1) = .ok (.str (cellAt p t.1 t.2.1), S) := by
  obtain ⟨rr, i1, i2, i3⟩ := ixC (Z := S) (d := .lst (encP p)) (w := []) rfl h.va.1 h.va.2.1
  refine ⟨rr, ?_, i3, i2⟩
  rw [m_Cursor_mine, funD, d_Cursor_mine]
  simp [h.cu, h.sh, cu_sheet, cu_number, sh_rows, i1, -ix_lst]
theorem right_ok (hp : okPage p = true) (h : Cu S c n p y L Q t) : m_Cursor_right [.ref c] S = .ok (.bl (!decide (goR p t = t)), mv S c n (goR p t)) := by
  rw [m_Cursor_right, funD, d_Cursor_right]
  obtain ⟨rr, mi, m2, m3⟩ := mine_ok h
  obtain ⟨a, b, e⟩ := t
  obtain ⟨v1, v2, v3⟩ := h.va
  simp only at v1 v2 v3 m2 m3
  have hcu := h.cu
  have hsh := h.sh
  have l1 : lenG S [.str (cellAt p a b)] = .ok (.int (cellAt p a b).length, S) := rfl
  have l2 : lenG S [.lst (encP p)] = .ok (.int p.length, S) := by
    have := len_list (st := S) (d := .lst (encP p)) (w := (encP p, [])) rfl
    rwa [encP_len] at this
  rw [goR_mk]
  by_cases z1 : e < (cellAt p a b).length
  · have z1' : (e : Int) < ((cellAt p a b).length : Int) := by omega
    have g := go_ok h (a, b, e + 1)
    simp only at g
    rw [show ((e + 1 : Nat) : Int) = (e : Int) + 1 by omega] at g
    rw [if_pos z1]
    simp [hcu, cu_number, cu_cell, cu_place, cu_go, cu_mine, mi, m3, l1, ltG, addG, z1, z1', g, -Prod.mk.injEq]
  · have z1' : ¬ (e : Int) < ((cellAt p a b).length : Int) := by omega
    rw [if_neg z1]
    by_cases z2 : b + 1 < cellsIn p a
    · have z2' : (b : Int) < (cellsIn p a : Int) - 1 := by omega
      have g := go_ok h (a, b + 1, 0)
      simp only at g
      rw [show ((b + 1 : Nat) : Int) = (b : Int) + 1 by omega] at g
      rw [if_pos z2]
      simp at g
      simp [hcu, cu_number, cu_cell, cu_place, cu_go, cu_mine, mi, m2, m3, l1, ltG, addG, subG, z1, z1', z2, z2', g]
    · have z2' : ¬ (b : Int) < (cellsIn p a : Int) - 1 := by omega
      rw [if_neg z2]
      by_cases z3 : a + 1 < p.length
      · have z3' : (a : Int) < (p.length : Int) - 1 := by omega
        have g := go_ok h (a + 1, 0, 0)
        simp only at g
        rw [show ((a + 1 : Nat) : Int) = (a : Int) + 1 by omega] at g
        rw [if_pos z3]
        simp at g
        simp [hcu, hsh, cu_sheet, sh_rows, cu_number, cu_cell, cu_place, cu_go, cu_mine, mi, m2, m3, l1, l2, ltG, addG, subG, z1, z1', z2, z2', z3, z3', g]
      · have z3' : ¬ (a : Int) < (p.length : Int) - 1 := by omega
        rw [if_neg z3, h.same]
        simp [hcu, hsh, cu_sheet, sh_rows, cu_number, cu_cell, cu_place, cu_mine, mi, m2, m3, l1, l2, ltG, subG, z1, z1', z2, z2', z3, z3']
theorem page_c_ok (h : Cu S c n p y L Q t) : m_Cursor_page [.ref c] S = .ok (.ref S.length, S ++ [.lst (encP p)]) := by
  rw [m_Cursor_page, funD, d_Cursor_page]
  have sp := sh_page_ok h.sh
  simp [h.cu, h.sh, cu_sheet, sh_page, sp]
end
end C2
end Dl
namespace Dl
open PySem L2
end Dl
namespace Dl
open PySem L2
section
variable {g : G2} {fa fb : EV} {env : Env} {st sx sy : Store} {x y : D} {r : R (D × Store)}
theorem sCons_nx {f h : SV} {e : Env} {s : Store} (h1 : f env st = .nx e s) : sCons f h env st = h e s := by
  rw [r_sCons, h1]
  rfl
theorem sAsgN_at {i : Nat} (h1 : fa env st = .ok (x, sx)) : sAsg fa (gN i) env st = .nx (env.set i (some x)) sx := by
  rw [r_sAsg, h1]
  rfl
theorem sIf_at {t : TV} {f h : SV} {b : Bool} (h1 : t env st = .ok (b, sx)) : sIf t f h env st = if b = true then f env sx else h env sx := by
  rw [r_sIf, h1]
  rfl
end
end Dl
namespace Dl
open PySem L2
end Dl
namespace Dl
open PySem L2
/-- where a cursor stands then -/
inductive Way where
  | l | r | u | d
def Way.str : Way → D
  | .l => .str [108, 101, 102, 116]
  | .r => .str [114, 105, 103, 104, 116]
  | .u => .str [117, 112]
  | .d => .str [100, 111, 119, 110]
end Dl
namespace Dl
open PySem L2
/-- Cursor_unite: 2 slots, 1 parameters -/
def d_Cursor_unite (m_Sheet_unite : FV) (m_Cursor_go : FV) : SV := sCons (sIf (tv (eOp (eqG false) (eFld 14 "number" (eV 0)) (eC (.int 0)))) (sRaise 4) (sNext)) (sCons (sAsg (eOp ixG (eFld 13 "rows" (eFld 14 "sheet" (eV 0))) (eOp subG (eFld 14 "number" (eV 0)) (eC (.int 1)))) (gN 1)) (sCons (sExpr (eMeth 13 "unite" 2 m_Sheet_unite (eFld 14 "sheet" (eV 0)) (aCons (eOp subG (eFld 14 "number" (eV 0)) (eC (.int 1))) (aNil)))) (sExpr (eMeth 14 "go" 4 m_Cursor_go (eV 0) (aCons (eOp subG (eFld 14 "number" (eV 0)) (eC (.int 1))) (aCons (eOp subG (eB lenG (aCons (eV 1) (aNil))) (eC (.int 1))) (aCons (eB lenG (aCons (eOp ixG (eV 1) (eNeg (eC (.int 1)))) (aNil))) (aNil))))))))
/-- Cursor_rub: 2 slots, 1 parameters -/
def d_Cursor_rub (m_Sheet_erase : FV) (m_Cursor_mine : FV) (m_Cursor_go : FV) (m_Cursor_unite : FV) : SV := sIf (tv (eOp gtG (eFld 14 "place" (eV 0)) (eC (.int 0)))) (sCons (sExpr (eMeth 13 "erase" 4 m_Sheet_erase (eFld 14 "sheet" (eV 0)) (aCons (eFld 14 "number" (eV 0)) (aCons (eFld 14 "cell" (eV 0)) (aCons (eOp subG (eFld 14 "place" (eV 0)) (eC (.int 1))) (aNil)))))) (sFldD 14 "place" (eV 0) (eOp subG (eFld 14 "place" (eV 0)) (eC (.int 1))))) (sIf (tv (eOp gtG (eFld 14 "cell" (eV 0)) (eC (.int 0)))) (sCons (sAsg (eB lenG (aCons (eOp ixG (eMeth 14 "mine" 1 m_Cursor_mine (eV 0) aNil) (eOp subG (eFld 14 "cell" (eV 0)) (eC (.int 1)))) (aNil))) (gN 1)) (sCons (sExpr (eMeth 13 "erase" 4 m_Sheet_erase (eFld 14 "sheet" (eV 0)) (aCons (eFld 14 "number" (eV 0)) (aCons (eOp subG (eFld 14 "cell" (eV 0)) (eC (.int 1))) (aCons (eV 1) (aNil)))))) (sExpr (eMeth 14 "go" 4 m_Cursor_go (eV 0) (aCons (eFld 14 "number" (eV 0)) (aCons (eOp subG (eFld 14 "cell" (eV 0)) (eC (.int 1))) (aCons (eV 1) (aNil)))))))) (sExpr (eMeth 14 "unite" 1 m_Cursor_unite (eV 0) aNil)))
end Dl
namespace Dl
open PySem L2
/-- a cursor, its sheet, its past -/
structure CuP (S : Store) (c n : Nat) (p : Page) (y : Sty) (L Q : Nat) (ps : List Page) (t : Pos3) : Prop where
  cu : C2.Cu S c n p y L Q t
  sh : Sht S n p y L Q ps
  okp : okPage p = true
section
variable {S : Store} {c n L Q : Nat} {p : Page} {y : Sty} {ps : List Page} {t : Pos3}
theorem go_raw {u : Pos3} (hcu : S[c]? = some (.ins 14 (cuFs n u))) (t' : Pos3) : m_Cursor_go [.ref c, .int t'.1, .int t'.2.1, .int t'.2.2] S = .ok (.bl (!decide (t' = u)), mv S c n t') := by
  have a : m_Cursor_at [.ref c] S = .ok (encT u, S) := by
    rw [m_Cursor_at, funD, d_Cursor_at]
    simp [hcu, cu_number, cu_cell, cu_place, encT]
  rw [m_Cursor_go, funD, d_Cursor_go]
  have e : eqG true S (.tup [.int t'.1, .int t'.2.1, .int t'.2.2]) (encT u) = .ok (.bl (!decide (t' = u)), S) := eq_trip (neg := true) t' u
  have f4 : ∀ u, (cuFs n u).length = 4 := fun u => rfl
  have ss : ∀ o, (S.set c o)[c]? = some o := fun o => set_self hcu
  simp [hcu, cu_at, a, e, f4, ss, put_number, put_cell, put_place, mv]
/-- behind a change of the sheet the cursor goes somewhere -/
theorem turned (h : CuP S c n p y L Q ps t) (hl : ps.length < 1000) {x : Nat × List Row × Nat} (ex : EditOk p x) {t' : Pos3} (v : Valid (editD p x).1 t') :
    ∃ S1 F L', m_Sheet_turn_to [.ref n, .lst (encP (editD p x).1), .lst ((editD p x).2.map encO)] S = .ok (.ref F, S1) ∧ S1[c]? = some (.ins 14 (cuFs n t)) ∧ CuP (mv S1 c n t') c n (editD p x).1 y L' Q (ps ++ [p]) t' ∧
      (∀ i ob, i ≠ n → i ≠ Q → i ≠ c → S[i]? = some ob → (mv S1 c n t')[i]? = some ob) ∧ S.length ≤ (mv S1 c n t').length ∧ S.length ≤ L' := by
  obtain ⟨o1, o2⟩ := edit_ok h.okp ex
  obtain ⟨S1, L', F, tt, sh', hF, hF1, hF2, hF3, hF4, hF5, keep, hlen⟩ := turn_to_ok h.sh h.okp o1 hl o2
  have cn := h.cu.cn
  have nQ := h.sh.nQ
  have c1 : S1[c]? = some (.ins 14 (cuFs n t)) := keep _ _ (by omega) (by omega) h.cu.cu
  have nS : n < S.length := (List.getElem?_eq_some_iff.mp h.sh.sh).1
  refine ⟨S1, F, L', tt, c1, ⟨⟨set_self c1, set_keep (by omega) sh'.sh, sh'.la.set (by omega), v, cn, by omega⟩, ⟨set_keep (by omega) sh'.sh, sh'.la.set (by omega), set_keep (by omega) sh'.pa, by omega, nQ, sh'.LQ⟩, o1⟩, fun i ob h1 h2 h3 e => ?_, ?_⟩
  · unfold mv
    exact set_keep (by omega) (keep i ob h1 h2 e)
  · unfold mv
    rw [List.length_set]; exact ⟨hlen, hF5⟩
inductive Sgn where
  | line | sign (s : List Nat)
def Sgn.str : Sgn → List Nat
  | .line => [10]
  | .sign s => s
def Sgn.ok : Sgn → Prop
  | .line => True
  | .sign s => s = [9] ∨ ∃ x, s = [x] ∧ okSign x = true
theorem spl_self {A : Type} {l m : List A} {k j i : Nat} (h : k ≤ j) (hj : j ≤ l.length) (hi : i < m.length) : (spl l k m j)[k + i]? = m[i]? := by
  rw [spl_get h hj, if_neg (by omega), if_pos (by omega)]
  congr 1; omega
theorem cellsIn_spl {k j i : Nat} {rs : List Row} {r : Row} (h : k ≤ j) (hj : j ≤ p.length) (hr : rs[i]? = some r) : cellsIn (spl p k rs j) (k + i) = r.length ∧ ∀ c, cellAt (spl p k rs j) (k + i) c = r.getD c [] := by
  have hi := (List.getElem?_eq_some_iff.mp hr).1
  have e : (spl p k rs j).getD (k + i) [] = r := by
    rw [List.getD_eq_getElem?_getD, spl_self h hj hi, hr]; rfl
  constructor
  · unfold cellsIn; rw [e]
  · intro c; unfold cellAt; rw [e]
theorem spl_len' {A : Type} {l m : List A} {k j : Nat} (h : k ≤ j) (hj : j ≤ l.length) : k + m.length ≤ (spl l k m j).length := by
  rw [spl_len h hj]; omega
end
end Dl
namespace Dl
open PySem L2
theorem cu_nrub (n : Nat) (t : Pos3) : (cuFs n t).lookup ("rub" : Str) = none := cu_no n t (by decide +kernel) (by decide +kernel) (by decide +kernel) (by decide +kernel)
theorem cu_nunite (n : Nat) (t : Pos3) : (cuFs n t).lookup ("unite" : Str) = none := cu_no n t (by decide +kernel) (by decide +kernel) (by decide +kernel) (by decide +kernel)
section
variable {S : Store} {c n L Q : Nat} {p : Page} {y : Sty} {ps : List Page} {t : Pos3}
def rbD (p : Page) (t : Pos3) : Option Deed :=
  if 0 < t.2.2 then some (.erase t.1 t.2.1 (t.2.2 - 1)) else if 0 < t.2.1 then some (.erase t.1 (t.2.1 - 1) (cellAt p t.1 (t.2.1 - 1)).length) else if t.1 = 0 then none else some (.unite (t.1 - 1))
def rbT (p : Page) (t : Pos3) : Pos3 :=
  if 0 < t.2.2 then (t.1, t.2.1, t.2.2 - 1) else if 0 < t.2.1 then (t.1, t.2.1 - 1, (cellAt p t.1 (t.2.1 - 1)).length) else (t.1 - 1, cellsIn p (t.1 - 1) - 1, (cellAt p (t.1 - 1) (cellsIn p (t.1 - 1) - 1)).length)
end
end Dl
namespace Dl
open PySem L2
section
variable {S : Store} {c n L Q : Nat} {p : Page} {y : Sty} {ps : List Page} {t : Pos3}
theorem valid_row {k j : Nat} {r : Row} (h : k ≤ j) (hj : j ≤ p.length) {b d : Nat} (h1 : b < r.length) (h2 : d ≤ (r.getD b []).length) : Valid (editD p (k, [r], j)).1 (k, b, d) := by
  show Valid (spl p k [r] j) (k, b, d)
  obtain ⟨e1, e2⟩ := cellsIn_spl (p := p) (k := k) (j := j) (i := 0) (rs := [r]) h hj rfl
  have l := spl_len' (l := p) (m := [r]) (k := k) (j := j) h hj
  simp only [List.length_cons, List.length_nil] at l
  simp only [Nat.add_zero] at e1 e2
  refine ⟨Nat.lt_of_lt_of_le (by omega : k < k + (0 + 1)) l, ?_, ?_⟩
  · show b < cellsIn _ k
    rw [e1]; exact h1
  · show d ≤ (cellAt _ k b).length
    rw [e2]; exact h2
theorem spl_at {A : Type} [Inhabited A] {l m : List A} {k j : Nat} {d : A} (h : k ≤ j) (hj : j ≤ l.length) (hm : 0 < m.length) : (spl l k m j).getD k d = m.getD 0 d := by
  have := spl_self (i := 0) h hj hm
  rw [List.getD_eq_getElem?_getD, List.getD_eq_getElem?_getD, ← this]; rfl
theorem rbD_ok (hp : okPage p = true) (v : Valid p t) {d : Deed} (hd : rbD p t = some d) : DeedOk p d := by
  obtain ⟨k, a, e⟩ := t
  obtain ⟨v1, v2, v3⟩ := v
  simp only at v1 v2 v3
  simp only [rbD] at hd
  split at hd
  · cases hd; exact ⟨v1, v2, by show e - 1 ≤ (cellAt p k a).length; omega⟩
  · split at hd
    · cases hd; exact ⟨v1, by show a - 1 < cellsIn p k; omega, Nat.le_refl _⟩
    · split at hd
      · cases hd
      · cases hd; show k - 1 < p.length; omega
theorem rbT_ok (hp : okPage p = true) (v : Valid p t) {d : Deed} (hd : rbD p t = some d) {x : Nat × List Row × Nat} (hx : editOf p d = some x) : Valid (editD p x).1 (rbT p t) := by
  obtain ⟨k, a, e⟩ := t
  obtain ⟨v1, v2, v3⟩ := v
  simp only at v1 v2 v3
  obtain ⟨ra, rl, rc⟩ := rowAt_ok hp v1
  simp only [rbD] at hd
  simp only [rbT]
  split at hd
  · rename_i z
    cases hd
    rw [if_pos z]
    simp only [editOf] at hx
    rw [if_pos (by omega)] at hx
    cases hx
    have l := spl_len' (l := rowAt p k) (m := [(cellAt p k a).take (e - 1) ++ (cellAt p k a).drop (e - 1 + 1)]) (k := a) (j := a + 1) (by omega) (by omega)
    simp only [List.length_cons, List.length_nil] at l
    refine valid_row (by omega) (by omega) (by omega) ?_
    rw [spl_at (by omega) (by omega) (by simp)]
    simp
    omega
  · rename_i z
    rw [if_neg z]
    split at hd
    · rename_i z2
      cases hd
      rw [if_pos z2]
      simp only [editOf] at hx
      rw [if_neg (by omega), if_neg (by omega)] at hx
      split at hx
      · cases hx
      · cases hx
        have l := spl_len' (l := rowAt p k) (m := [cellAt p k (a - 1) ++ cellAt p k (a - 1 + 1)]) (k := a - 1) (j := a - 1 + 2) (by omega) (by omega)
        simp only [List.length_cons, List.length_nil] at l
        refine valid_row (by omega) (by omega) (by omega) ?_
        rw [spl_at (by omega) (by omega) (by simp)]
        simp
    · rename_i z2
      rw [if_neg z2]
      split at hd
      · cases hd
      · rename_i z3
        cases hd
        simp only [editOf] at hx
        rw [if_neg (by omega)] at hx
        split at hx
        · cases hx
        · cases hx
          have hk1 : k - 1 < p.length := by omega
          obtain ⟨rb, rl1, rc1⟩ := rowAt_ok hp hk1
          have c1 := (cellsIn_le hp hk1).1
          have ld : (rowAt p (k - 1)).dropLast.length = cellsIn p (k - 1) - 1 := by rw [List.length_dropLast, rl1]
          refine valid_row (by omega) (by omega) (by simp; omega) ?_
          rw [List.getD_eq_getElem?_getD, List.append_assoc, List.getElem?_append_right (by omega), ld, Nat.sub_self]
          simp
def m_Cursor_unite : FV := funD 2 (d_Cursor_unite m_Sheet_unite m_Cursor_go)
def m_Cursor_rub : FV := funD 2 (d_Cursor_rub m_Sheet_erase m_Cursor_mine m_Cursor_go m_Cursor_unite)
theorem unite_c (h : CuP S c n p y L Q ps t) (hl : ps.length < 1000) :
    (t.1 = 0 ∧ m_Cursor_unite [.ref c] S = .exc 4 none S) ∨ (0 < t.1 ∧ ∀ r, m_Sheet_unite [.ref n, .int ((t.1 - 1 : Nat) : Int)] S = r →
      ((∃ k, r = .exc k none S ∧ m_Cursor_unite [.ref c] S = .exc k none S) ∨ (∃ F S1, r = .ok (.ref F, S1) ∧ (S1[c]? = some (.ins 14 (cuFs n t)) → m_Cursor_unite [.ref c] S = .ok (.non, mv S1 c n (t.1 - 1, cellsIn p (t.1 - 1) - 1, (cellAt p (t.1 - 1) (cellsIn p (t.1 - 1) - 1)).length)))) ∨ (∀ k, r ≠ .exc k none S) ∧ ∀ F S1, r ≠ .ok (.ref F, S1))) := by
  have hcu := h.cu.cu
  have hsh := h.sh.sh
  have va := h.cu.va
  have hp := h.okp
  obtain ⟨u1, u2, u3, u4, u5, u6⟩ := sh_nam p y L Q
  by_cases z : t.1 = 0
  · refine .inl ⟨z, ?_⟩
    rw [m_Cursor_unite, funD, d_Cursor_unite]
    simp [hcu, cu_number, z, eqi]
  · refine .inr ⟨by omega, fun r hr => ?_⟩
    have z' : ¬ (t.1 : Int) = 0 := by omega
    have hk1 : t.1 - 1 < p.length := by have := va.1; omega
    obtain ⟨rb, rl1, rc1⟩ := rowAt_ok hp hk1
    have c1 := (cellsIn_le hp hk1).1
    have s1 : ∀ st, subG st (.int (t.1 : Int)) (.int 1) = .ok (.int ((t.1 - 1 : Nat) : Int), st) := fun st => by
      show R.ok (D.int ((t.1 : Int) - 1), st) = _
      congr 3; omega
    have s2 : ∀ st, subG st (.int (cellsIn p (t.1 - 1) : Int)) (.int 1) = .ok (.int ((cellsIn p (t.1 - 1) - 1 : Nat) : Int), st) := fun st => by
      show R.ok (D.int ((cellsIn p (t.1 - 1) : Int) - 1), st) = _
      congr 3; omega
    have r1 : ixG S (.lst (encP p)) (.int ((t.1 - 1 : Nat) : Int)) = .ok (encR (rowAt p (t.1 - 1)), S) := rowIx hk1
    have ln : ∀ st, lenG st [encR (rowAt p (t.1 - 1))] = .ok (.int (cellsIn p (t.1 - 1)), st) := fun st => by
      show R.ok (D.int (((rowAt p (t.1 - 1)).map D.str).length : Nat), st) = _
      rw [List.length_map, rl1]
    have il : ∀ st, ixG st (encR (rowAt p (t.1 - 1))) (.int (-1)) = .ok (.str (cellAt p (t.1 - 1) (cellsIn p (t.1 - 1) - 1)), st) := fun st => cellIxL hp hk1
    rw [m_Cursor_unite, funD, d_Cursor_unite]
    by_cases h1 : ∃ k, r = .exc k none S
    · obtain ⟨k, rfl⟩ := h1
      refine .inl ⟨k, rfl, ?_⟩
      simp [hcu, hsh, cu_sheet, cu_number, sh_rows, eqi, z, z', s1, r1, u6, hr, -ix_lst]
    · by_cases h2 : ∃ F S1, r = .ok (.ref F, S1)
      · obtain ⟨F, S1, rfl⟩ := h2
        refine .inr (.inl ⟨F, S1, rfl, fun c1 => ?_⟩)
        have g := go_raw c1 (t.1 - 1, cellsIn p (t.1 - 1) - 1, (cellAt p (t.1 - 1) (cellsIn p (t.1 - 1) - 1)).length)
        simp only at g
        generalize rowAt p (t.1 - 1) = rr at r1 ln il
        simp [hcu, hsh, cu_sheet, cu_number, sh_rows, eqi, z, z', s1, r1, u6, hr, c1, cu_go, ln, s2, il, lenSt, g, -ix_lst]
      · exact .inr (.inr ⟨fun k e => h1 ⟨k, e⟩, fun F S1 e => h2 ⟨F, S1, e⟩⟩)
theorem rub_ok (h : CuP S c n p y L Q ps t) (hl : ps.length < 1000) :
    ((rbD p t = none ∨ ∃ d, rbD p t = some d ∧ editOf p d = none) ∧ m_Cursor_rub [.ref c] S = .exc 4 none S) ∨
    ∃ d x S' L', rbD p t = some d ∧ editOf p d = some x ∧ EditOk p x ∧ m_Cursor_rub [.ref c] S = .ok (.non, S') ∧ CuP S' c n (editD p x).1 y L' Q (ps ++ [p]) (rbT p t) ∧ (∀ i ob, i ≠ n → i ≠ Q → i ≠ c → S[i]? = some ob → S'[i]? = some ob) ∧ S.length ≤ S'.length ∧ S.length ≤ L' := by
  have hcu := h.cu.cu
  have hsh := h.sh.sh
  have va := h.cu.va
  have hp := h.okp
  have rok := fun d (e : rbD p t = some d) => rbD_ok hp va e
  have rto := fun d (e : rbD p t = some d) x (e2 : editOf p d = some x) => rbT_ok hp va e e2
  obtain ⟨u1, u2, u3, u4, u5, u6⟩ := sh_nam p y L Q
  have f4 : ∀ u, (cuFs n u).length = 4 := fun u => rfl
  rw [m_Cursor_rub, funD, d_Cursor_rub]
  by_cases z : 0 < t.2.2
  · have z' : (0 : Int) < (t.2.2 : Int) := by omega
    have eD : rbD p t = some (.erase t.1 t.2.1 (t.2.2 - 1)) := by unfold rbD; rw [if_pos z]
    have eT : rbT p t = (t.1, t.2.1, t.2.2 - 1) := by unfold rbT; rw [if_pos z]
    have pa := sh_erase_ok h.sh hp (k := t.1) (c := t.2.1) (e := t.2.2 - 1) (rok _ eD)
    have s1 : ∀ st, subG st (.int (t.2.2 : Int)) (.int 1) = .ok (.int ((t.2.2 - 1 : Nat) : Int), st) := fun st => by
      show R.ok (D.int ((t.2.2 : Int) - 1), st) = _
      congr 3; omega
    unfold doneBy at pa
    cases he : editOf p (.erase t.1 t.2.1 (t.2.2 - 1)) with
    | none =>
      rw [he] at pa
      refine .inl ⟨.inr ⟨_, eD, he⟩, ?_⟩
      simp [hcu, hsh, cu_sheet, cu_number, cu_cell, cu_place, gtG, z, z', s1, u4, pa]
    | some x =>
      rw [he] at pa
      have ex := editOf_ok hp (rok _ eD) he
      obtain ⟨S1, F, L', tt, c1, hC, kk, ll⟩ := turned h hl ex (rto _ eD _ he)
      refine .inr ⟨_, x, mv S1 c n (rbT p t), L', eD, he, ex, ?_, hC, kk, ll⟩
      simp only [tt] at pa
      have pp := put_place n t (t.2.2 - 1)
      rw [eT]
      simp [hcu, hsh, cu_sheet, cu_number, cu_cell, cu_place, gtG, z, z', s1, u4, pa, c1, pp, f4, mv]
  · have z' : ¬ (0 : Int) < (t.2.2 : Int) := by omega
    by_cases z2 : 0 < t.2.1
    · have z2' : (0 : Int) < (t.2.1 : Int) := by omega
      have eD : rbD p t = some (.erase t.1 (t.2.1 - 1) (cellAt p t.1 (t.2.1 - 1)).length) := by unfold rbD; rw [if_neg z, if_pos z2]
      have eT : rbT p t = (t.1, t.2.1 - 1, (cellAt p t.1 (t.2.1 - 1)).length) := by unfold rbT; rw [if_neg z, if_pos z2]
      have pa := sh_erase_ok h.sh hp (k := t.1) (c := t.2.1 - 1) (e := (cellAt p t.1 (t.2.1 - 1)).length) (rok _ eD)
      have s1 : ∀ st, subG st (.int (t.2.1 : Int)) (.int 1) = .ok (.int ((t.2.1 - 1 : Nat) : Int), st) := fun st => by
        show R.ok (D.int ((t.2.1 : Int) - 1), st) = _
        congr 3; omega
      obtain ⟨rr, i1, i2, i3⟩ := ixC (Z := S) (d := .lst (encP p)) (w := []) rfl va.1 (c := t.2.1 - 1) (by have := va.2.1; omega)
      have mi : m_Cursor_mine [.ref c] S = .ok (rr, S) := by
        rw [m_Cursor_mine, funD, d_Cursor_mine]
        simp [hcu, hsh, cu_sheet, cu_number, sh_rows, i1, -ix_lst]
      unfold doneBy at pa
      cases he : editOf p (.erase t.1 (t.2.1 - 1) (cellAt p t.1 (t.2.1 - 1)).length) with
      | none =>
        rw [he] at pa
        refine .inl ⟨.inr ⟨_, eD, he⟩, ?_⟩
        simp [hcu, hsh, cu_sheet, cu_number, cu_cell, cu_place, cu_mine, gtG, z, z2, z', z2', mi, s1, i2, lenSt, u4, pa]
      | some x =>
        rw [he] at pa
        have ex := editOf_ok hp (rok _ eD) he
        obtain ⟨S1, F, L', tt, c1, hC, kk, ll⟩ := turned h hl ex (rto _ eD _ he)
        refine .inr ⟨_, x, mv S1 c n (rbT p t), L', eD, he, ex, ?_, hC, kk, ll⟩
        simp only [tt] at pa
        have g := go_raw c1 (rbT p t)
        rw [eT] at g ⊢
        simp only at g
        simp [hcu, hsh, cu_sheet, cu_number, cu_cell, cu_place, cu_mine, gtG, z, z2, z', z2', mi, s1, i2, lenSt, u4, pa, c1, cu_go, g]
    · have z2' : ¬ (0 : Int) < (t.2.1 : Int) := by omega
      rcases unite_c h hl with ⟨z3, e⟩ | ⟨z3, e⟩
      · have eD : rbD p t = none := by unfold rbD; rw [if_neg z, if_neg z2, if_pos z3]
        refine .inl ⟨.inl eD, ?_⟩
        simp [hcu, cu_place, cu_cell, cu_nunite, gtG, z, z2, z', z2', e]
      · have eD : rbD p t = some (.unite (t.1 - 1)) := by unfold rbD; rw [if_neg z, if_neg z2, if_neg (by omega)]
        have eT : rbT p t = (t.1 - 1, cellsIn p (t.1 - 1) - 1, (cellAt p (t.1 - 1) (cellsIn p (t.1 - 1) - 1)).length) := by unfold rbT; rw [if_neg z, if_neg z2]
        have hk1 : t.1 - 1 < p.length := by have := va.1; omega
        have pa := sh_unite_ok h.sh hp hk1
        rw [if_neg (by have := va.1; omega)] at pa
        unfold doneBy at pa
        cases he : editOf p (.unite (t.1 - 1)) with
        | none =>
          rw [he] at pa
          refine .inl ⟨.inr ⟨_, eD, he⟩, ?_⟩
          have un : m_Cursor_unite [.ref c] S = .exc 4 none S := by
            rcases e _ pa with ⟨k, e1, e2⟩ | ⟨F, S1, e1, _⟩ | ⟨e1, _⟩
            · cases e1; exact e2
            · cases e1
            · exact absurd rfl (e1 4)
          simp [hcu, cu_place, cu_cell, cu_nunite, gtG, z, z2, z', z2', un]
        | some x =>
          rw [he] at pa
          have ex := editOf_ok hp (rok _ eD) he
          obtain ⟨S1, F, L', tt, c1, hC, kk, ll⟩ := turned h hl ex (rto _ eD _ he)
          refine .inr ⟨_, x, mv S1 c n (rbT p t), L', eD, he, ex, ?_, hC, kk, ll⟩
          simp only [tt] at pa
          have un : m_Cursor_unite [.ref c] S = .ok (.non, mv S1 c n (rbT p t)) := by
            rcases e _ pa with ⟨k, e1, e2⟩ | ⟨F', S1', e1, e2⟩ | ⟨_, e1⟩
            · cases e1
            · cases e1; rw [eT]; exact e2 c1
            · exact absurd rfl (e1 F S1)
          simp [hcu, cu_place, cu_cell, cu_nunite, gtG, z, z2, z', z2', un]
end
end Dl
namespace Dl
open PySem L2
end Dl
namespace Dl
open PySem L2
end Dl
namespace Dl
open PySem L2
end Dl
namespace Dl
open PySem L2
section
variable {S : Store} {c n L Q : Nat} {p : Page} {y : Sty} {ps : List Page} {t : Pos3}
def m_Cursor_init : FV := funD 3 (d_Cursor_init m_Sheet_init)
theorem cnew_ok (hp : okPage p = true) (hy : y.ok) {d : D} {w : List (Nat × List D)} {st : Store} (hd : listOf st d = some (encP p, w)) :
    ∃ M L Q, m_Cursor_init [.ref st.length, d, y.enc] (st ++ [.ins 14 []]) = .ok (.non, st ++ .ins 14 (cuFs (st.length + 1) (0, 0, 0)) :: M) ∧ CuP (st ++ .ins 14 (cuFs (st.length + 1) (0, 0, 0)) :: M) st.length (st.length + 1) p y L Q [] (0, 0, 0) ∧ st.length + 1 < Q ∧ st.length + 1 < L := by
  rw [m_Cursor_init, funD, d_Cursor_init]
  have hd' : listOf (st ++ [.ins 14 []]) d = some (encP p, w) := listOf_stays (Stays.app _ _) hd
  obtain ⟨M, L, Q, si, la, pa, h1, h2⟩ := Sheet_init_ok hp hy hd'
  have sl : (st ++ [Ob.ins 14 []]).length = st.length + 1 := by simp
  rw [sl] at si h1
  obtain ⟨f1, hf1⟩ : ∃ f1, f1 = putD "sheet" (.ref (st.length + 1)) [] := ⟨_, rfl⟩
  obtain ⟨f2, hf2⟩ : ∃ f2, f2 = putD "number" (.int 0) f1 := ⟨_, rfl⟩
  obtain ⟨f3, hf3⟩ : ∃ f3, f3 = putD "cell" (.int 0) f2 := ⟨_, rfl⟩
  have hf4 : putD "place" (.int 0) f3 = cuFs (st.length + 1) (0, 0, 0) := by rw [hf3, hf2, hf1]; exact put_cu _ _ _ _
  have l1 : f1.length ≤ 1 := by rw [hf1]; exact put_len _ _ _
  have l2 : f2.length ≤ 2 := by rw [hf2]; exact Nat.le_trans (put_len _ _ _) (by omega)
  have l3 : f3.length ≤ 3 := by rw [hf3]; exact Nat.le_trans (put_len _ _ _) (by omega)
  have l1' : f1.length < 900 := by omega
  have l2' : f2.length < 900 := by omega
  have l3' : f3.length < 900 := by omega
  obtain ⟨N, hN⟩ : ∃ N, N = Ob.ins 13 (shFs p y L Q) :: M := ⟨_, rfl⟩
  have e0 : st ++ [Ob.ins 14 []] ++ N = st ++ .ins 14 [] :: N := by simp
  rw [← hN, e0] at si la pa
  have g0 := app_get st (.ins 14 []) N
  have g1 := app_get st (.ins 14 f1) N
  have g2 := app_get st (.ins 14 f2) N
  have g3 := app_get st (.ins 14 f3) N
  have s0 := app_set st (.ins 14 []) (.ins 14 f1) N
  have s1 := app_set st (.ins 14 f1) (.ins 14 f2) N
  have s2 := app_set st (.ins 14 f2) (.ins 14 f3) N
  have s3 := app_set st (.ins 14 f3) (.ins 14 (cuFs (st.length + 1) (0, 0, 0))) N
  have key : ∀ (i : Nat) (o : Ob), st.length < i → (st ++ .ins 14 [] :: N)[i]? = some o → (st ++ .ins 14 (cuFs (st.length + 1) (0, 0, 0)) :: N)[i]? = some o := fun i o hi e => by
    rw [List.getElem?_append_right (by omega)] at e ⊢
    obtain ⟨j, ej⟩ : ∃ j, i - st.length = j + 1 := ⟨i - st.length - 1, by omega⟩
    rw [ej] at e ⊢
    rw [List.getElem?_cons_succ] at e ⊢
    exact e
  have gsh : (st ++ Ob.ins 14 (cuFs (st.length + 1) (0, 0, 0)) :: N)[st.length + 1]? = some (.ins 13 (shFs p y L Q)) := by
    have : (st ++ Ob.ins 14 (cuFs (st.length + 1) (0, 0, 0)) :: N)[st.length + 1]? = N[0]? := by
      rw [List.getElem?_append_right (by omega), show st.length + 1 - st.length = 1 by omega]; rfl
    rw [this, hN]; rfl
  have lay : Lays (st ++ Ob.ins 14 (cuFs (st.length + 1) (0, 0, 0)) :: N) L p (bAt p y) := ⟨key _ _ (by omega) la.1, fun k hk => key _ _ (by omega) (la.2 k hk)⟩
  refine ⟨N, L, Q, ?_, ⟨⟨app_get _ _ _, gsh, lay, ⟨(okPage_parts hp).1, (cellsIn_le hp (okPage_parts hp).1).1, Nat.zero_le _⟩, by omega, by omega⟩, ⟨gsh, lay, key _ _ (by omega) pa, by omega, by omega, .inr h2⟩, hp⟩, by omega, by omega⟩
  have A : ∀ o : Ob, (st ++ [Ob.ins 14 []]) ++ [Ob.ins 13 []] = (st ++ [Ob.ins 14 []]) ++ [Ob.ins 13 []] := fun _ => rfl
  generalize hA : st ++ [Ob.ins 14 []] = AA at *
  generalize hB : st ++ Ob.ins 14 [] :: N = BB at *
  generalize hC : st ++ Ob.ins 14 f1 :: N = CC at *
  generalize hDD : st ++ Ob.ins 14 f2 :: N = DD at *
  generalize hE : st ++ Ob.ins 14 f3 :: N = EE at *
  generalize hF : st ++ Ob.ins 14 (cuFs (st.length + 1) (0, 0, 0)) :: N = FF at *
  simp [sl, si, g0, ← hf1, s0, g1, l1', ← hf2, s1, g2, l2', ← hf3, s2, g3, l3', hf4, s3]
theorem Sht.mv (h : Sht S n p y L Q ps) (hc : c < n) (t' : Pos3) : Sht (mv S c n t') n p y L Q ps :=
  have nQ := h.nQ
  have nL := h.nL
  ⟨set_keep (by omega) h.sh, h.la.set (by omega), set_keep (by omega) h.pa, h.nL, h.nQ, h.LQ⟩
theorem CuP.move (h : CuP S c n p y L Q ps t) {t' : Pos3} (v : Valid p t') : CuP (Dl.mv S c n t') c n p y L Q ps t' := ⟨h.cu.move v, h.sh.mv h.cu.cn t', h.okp⟩
end
end Dl
namespace Dl
open PySem L2
end Dl
namespace Dl
open PySem L2
end Dl
namespace Dl
open PySem L2
end Dl
namespace Dl
open PySem L2
end Dl
namespace Dl
open PySem L2
end Dl
namespace Dl
open PySem L2
end Dl
namespace Dl
open PySem L2
end Dl
namespace Dl
open PySem L2
end Dl
namespace Dl
open PySem L2
end Dl
namespace Dl
open PySem L2
end Dl
namespace Dl
open PySem L2
end Dl
namespace Dl
open PySem L2
end Dl
namespace Dl
open PySem L2
/-- a page in the store or not, and itself again: alike -/
theorem ne_page {p : Page} {d : D} {w : List (Nat × List D)} {st : Store} (h : listOf st d = some (encP p, w)) : eqG true st (.lst (encP p)) d = .ok (.bl false, st) := by
  unfold listOf at h
  split at h
  · cases h
    rw [eqG_pl (by simp) (by simp) (by have := dps_encP p; simp; omega) (by have := dps_encP p; simp; omega)]
    simp
  · split at h
    · rename_i e
      cases h
      rw [eqG_refR e, eqG_pl (by simp) (by simp) (by have := dps_encP p; simp; omega) (by have := dps_encP p; simp; omega)]
      simp
    · cases h
  · cases h
end Dl
namespace Dl
open PySem L2
def PgAt (Z : Store) (j : Nat) (d : D) (q : Page) : Prop := d = .lst (encP q) ∨ ∃ i, d = .ref (i + 2) ∧ i < j ∧ Z[i]? = some (.lst (encP q))
theorem PgAt.list {Z : Store} {j : Nat} {d : D} {q : Page} (h : PgAt Z j d q) (b : Box) : ∃ w, listOf (Bx b Z) d = some (encP q, w) := by
  rcases h with rfl | ⟨i, rfl, _, e⟩
  · exact ⟨[], rfl⟩
  · exact ⟨[(i + 2, encP q)], by simp only [listOf, Bx_get, e]⟩
end Dl
namespace Dl
open PySem L2
end Dl
namespace Dl
open PySem L2
end Dl
namespace Dl
open PySem L2
end Dl
namespace Dl
open PySem L2
end Dl
namespace Dl
open PySem L2
end Dl
namespace Dl
open PySem L2
end Dl
namespace Dl
open PySem L2
/-- law_parted: 6 slots, 3 parameters -/
def d_law_parted (m_Sheet_part : FV) (m_Sheet_strike_k10 : FV) (m_law_take : FV) : SV := sCons (sFor (iR1 (aCons (eOp subG (eB lenG (aCons (eV 2) (aNil))) (eC (.int 1))) (aNil))) (gN 3) (sExpr (eMeth 13 "part" 4 m_Sheet_part (eV 1) (aCons (eV 3) (aCons (eC (.int 0)) (aCons (eC (.int 0)) (aNil))))))) (sCons (sAsg (eOp subG (eB lenG (aCons (eV 2) (aNil))) (eC (.int 1))) (gN 4)) (sCons (sFor (iR1 (aCons (eB lenG (aCons (eV 2) (aNil))) (aNil))) (gN 3) (sFor (iR1 (aCons (eOp subG (eB lenG (aCons (eOp ixG (eV 2) (eV 3)) (aNil))) (eC (.int 1))) (aNil))) (gN 5) (sCons (sExpr (eMeth 13 "strike" 5 m_Sheet_strike_k10 (eV 1) (aCons (eV 3) (aCons (eCall 2 m_law_take (aCons (eV 0) (aCons (eOp (addG false) (eV 5) (eC (.int 1))) (aNil)))) (aCons (eC (.int 0)) (aCons (eC (.str [9])) (aNil))))))) (sAsg (eOp (addG false) (eV 4) (eC (.int 1))) (gN 4))))) (sRet (eV 4))))
/-- law_typed: 12 slots, 3 parameters -/
def d_law_typed (m_law_take : FV) (m_Sheet_strike_k10 : FV) : SV := sCons (sPar 3 4 (aCons (eLst true (aNil)) (aCons (eC (.int 0)) (aNil)))) (sCons (sFor (iR1 (aCons (eB lenG (aCons (eV 2) (aNil))) (aNil))) (gN 5) (sAsg (eOp (addG true) (eV 3) (eLc false (iR1 (aCons (eB lenG (aCons (eOp ixG (eV 2) (eV 5)) (aNil))) (aNil))) [6] (.one 6) (tYesD) (eTup (aCons (eV 5) (aCons (eV 6) (aNil)))))) (gN 3))) (sCons (whileGo (tv (eOp (eqG true) (eV 3) (eLst false (aNil)))) (sCons (sAsg (eMt "list" (popG) (eV 3) (aCons (eCall 2 m_law_take (aCons (eV 0) (aCons (eB lenG (aCons (eV 3) (aNil))) (aNil)))) (aNil))) (gTp 2 (gsCons (gN 5) (gsCons (gN 6) (gsNil))))) (sCons (sAsg (eOp ixG (eOp ixG (eV 2) (eV 5)) (eV 6)) (gN 7)) (sCons (sAsg (eOp ixG (eLst false (aCons (eLR false (eB lenG (aCons (eV 7) (aNil)))) (aCons (eRevL false (eLR false (eB lenG (aCons (eV 7) (aNil))))) (aNil)))) (eCall 2 m_law_take (aCons (eV 0) (aCons (eC (.int 2)) (aNil))))) (gN 8)) (sCons (sAsg (eLst true (aNil)) (gN 9)) (sFor (iSeq (eV 8)) (gN 10) (sCons (sExpr (eMeth 13 "strike" 5 m_Sheet_strike_k10 (eV 1) (aCons (eV 5) (aCons (eV 6) (aCons (eB lenG (aCons (eLc false (iSeq (eV 9)) [11] (.one 11) (tv (eOp ltG (eV 11) (eV 10))) (eV 11)) (aNil))) (aCons (eOp ixG (eV 7) (eV 10)) (aNil))))))) (sCons (sExpr (eMt "list" (appendG) (eV 9) (aCons (eV 10) (aNil)))) (sAsg (eOp (addG false) (eV 4) (eC (.int 1))) (gN 4))))))))) 100000) (sRet (eV 4))))
/-- law_k13: 13 slots, 1 parameters -/
def d_law_k13 (m_law_begun : FV) (m_law_page : FV) (m_law_style : FV) (m_law_parted : FV) (m_Sheet_page : FV) (m_law_typed : FV) (m_Sheet_begins : FV) (m_laid : FV) (m_Sheet_back : FV) (m_Cursor_right : FV) (m_Cursor_rub : FV) (m_Cursor_page : FV) (m_Cursor_at : FV) (m_Sheet_init : FV) (m_Cursor_init : FV) : SV := sCons (sAsg (eCall 1 m_law_begun (aCons (eV 0) (aNil))) (gN 1)) (sCons (sPar 2 3 (aCons (eCall 2 m_law_page (aCons (eV 1) (aCons (eC (.int 8)) (aNil)))) (aCons (eCall 1 m_law_style (aCons (eV 1) (aNil))) (aNil)))) (sCons (sAsg (eMake 13 3 m_Sheet_init (aCons (eLst false (aCons (eTup (aCons (eC (.str [])) (aNil))) (aNil))) (aCons (eV 3) (aNil)))) (gN 4)) (sCons (sAsg (eCall 3 m_law_parted (aCons (eV 1) (aCons (eV 4) (aCons (eV 2) (aNil))))) (gN 5)) (sCons (sAsg (eLc false (iSeq (eV 2)) [11] (.one 11) (tYesD) (eOp mulTG (eTup (aCons (eC (.str [])) (aNil))) (eB lenG (aCons (eV 11) (aNil))))) (gN 6)) (sCons (sIf (tv (eOp (eqG true) (eMeth 13 "page" 1 m_Sheet_page (eV 4) aNil) (eV 6))) (sRet (eC (.bl false))) (sNext)) (sCons (sAsg (eCall 3 m_law_typed (aCons (eV 1) (aCons (eV 4) (aCons (eV 2) (aNil))))) (gN 7)) (sCons (sIf (tOrD (tv (eOp (eqG true) (eMeth 13 "page" 1 m_Sheet_page (eV 4) aNil) (eV 2))) (tv (eOp (eqG true) (eMeth 13 "begins" 1 m_Sheet_begins (eV 4) aNil) (eCall 2 m_laid (aCons (eV 2) (aCons (eV 3) (aNil))))))) (sRet (eC (.bl false))) (sNext)) (sCons (sFor (iR1 (aCons (eV 7) (aNil))) (gN 8) (sIf (tv (eOp (isG true) (eMeth 13 "back" 1 m_Sheet_back (eV 4) aNil) (eC (.bl true)))) (sRet (eC (.bl false))) (sNext))) (sCons (sIf (tOrD (tv (eOp (eqG true) (eMeth 13 "page" 1 m_Sheet_page (eV 4) aNil) (eV 6))) (tv (eOp (eqG true) (eMeth 13 "begins" 1 m_Sheet_begins (eV 4) aNil) (eCall 2 m_laid (aCons (eV 6) (aCons (eV 3) (aNil))))))) (sRet (eC (.bl false))) (sNext)) (sCons (sFor (iR1 (aCons (eV 5) (aNil))) (gN 8) (sIf (tv (eOp (isG true) (eMeth 13 "back" 1 m_Sheet_back (eV 4) aNil) (eC (.bl true)))) (sRet (eC (.bl false))) (sNext))) (sCons (sIf (tOrD (tv (eOp (eqG true) (eMeth 13 "page" 1 m_Sheet_page (eV 4) aNil) (eLst false (aCons (eTup (aCons (eC (.str [])) (aNil))) (aNil))))) (tv (eOp (isG true) (eMeth 13 "back" 1 m_Sheet_back (eV 4) aNil) (eC (.bl false))))) (sRet (eC (.bl false))) (sNext)) (sCons (sAsg (eMake 14 3 m_Cursor_init (aCons (eV 2) (aCons (eV 3) (aNil)))) (gN 9)) (sCons (whileGo (tv (eMeth 14 "right" 1 m_Cursor_right (eV 9) aNil)) (sPass) 100000) (sCons (sAsg (eOp subG (eB sumG (aCons (eLc false (iSeq (eV 2)) [11] (.one 11) (tYesD) (eOp (addG false) (eOp subG (eOp (addG false) (eC (.int 1)) (eB lenG (aCons (eV 11) (aNil)))) (eC (.int 1))) (eB sumG (aCons (eLc false (iSeq (eV 11)) [12] (.one 12) (tYesD) (eB lenG (aCons (eV 12) (aNil)))) (aNil))))) (aNil))) (eC (.int 1))) (gN 10)) (sCons (sFor (iR1 (aCons (eV 10) (aNil))) (gN 8) (sExpr (eMeth 14 "rub" 1 m_Cursor_rub (eV 9) aNil))) (sRet (eAnd (eOp (eqG false) (eMeth 14 "page" 1 m_Cursor_page (eV 9) aNil) (eLst false (aCons (eTup (aCons (eC (.str [])) (aNil))) (aNil)))) (eOp (eqG false) (eMeth 14 "at" 1 m_Cursor_at (eV 9) aNil) (eTup (aCons (eC (.int 0)) (aCons (eC (.int 0)) (aCons (eC (.int 0)) (aNil)))))))))))))))))))))))
end Dl
namespace Dl
open PySem L2
theorem bx_of {S : Store} {b : Box} {Z : Store} (h0 : S[0]? = (Bx b Z)[0]?) (h1 : S[1]? = (Bx b Z)[1]?) : ∃ Z', S = Bx b Z' := by
  match S, h0, h1 with
  | [], h0, _ => simp [Bx] at h0
  | [_], _, h1 => simp [Bx] at h1
  | x :: y :: r, h0, h1 =>
    simp [Bx] at h0 h1
    exact ⟨r, by rw [h0, h1]; rfl⟩
/-- a page at hand, made ahead of a cursor -/
def PgC (S : Store) (c : Nat) (d : D) (p : Page) : Prop := d = .lst (encP p) ∨ ∃ i, d = .ref i ∧ i < c ∧ S[i]? = some (.lst (encP p))
theorem PgC.list {S : Store} {c : Nat} {d : D} {p : Page} (h : PgC S c d p) : ∃ w, listOf S d = some (encP p, w) := by
  rcases h with rfl | ⟨i, rfl, _, e⟩
  · exact ⟨[], rfl⟩
  · exact ⟨[(i, encP p)], by simp only [listOf, e]⟩
theorem CuP.app {S : Store} {c n L Q : Nat} {p : Page} {y : Sty} {ps : List Page} {t : Pos3} (h : CuP S c n p y L Q ps t) (M : Store) : CuP (S ++ M) c n p y L Q ps t := ⟨h.cu.pre (Pre.app S M), h.sh.app, h.okp⟩
theorem CuP.keepS {S S' : Store} {c n L Q : Nat} {p : Page} {y : Sty} {ps : List Page} {t : Pos3} (h : CuP S c n p y L Q ps t) (k : ∀ i ob, c ≤ i → S[i]? = some ob → S'[i]? = some ob) : CuP S' c n p y L Q ps t := by
  have cn := h.cu.cn
  have nL := h.sh.nL
  have nQ := h.sh.nQ
  have la : Lays S' L p (bAt p y) := ⟨k _ _ (by omega) h.sh.la.1, fun j hj => k _ _ (by omega) (h.sh.la.2 j hj)⟩
  exact ⟨⟨k _ _ (Nat.le_refl _) h.cu.cu, k _ _ (by omega) h.cu.sh, la, h.cu.va, cn, nL⟩, ⟨k _ _ (by omega) h.sh.sh, la, k _ _ (by omega) h.sh.pa, nL, nQ, h.sh.LQ⟩, h.okp⟩
theorem CuP.bx {b b' : Box} {Z : Store} {c n L Q : Nat} {p : Page} {y : Sty} {ps : List Page} {t : Pos3} (h : CuP (Bx b Z) c n p y L Q ps t) (hc : 2 ≤ c) : CuP (Bx b' Z) c n p y L Q ps t :=
  h.keepS fun i ob hi e => by
    obtain ⟨j, rfl⟩ : ∃ j, i = j + 2 := ⟨i - 2, by omega⟩
    rw [Bx_get] at e ⊢; exact e
end Dl
namespace Dl
open PySem L2
/-- a sheet in the store, its pages so far, the last one last; what lies at the told places is no part of it -/
def SpH (S : Store) (n : Nat) (y : Sty) (Q : Nat) (h : List Page) (F : List Nat) : Prop :=
  ∃ L ps q, h = ps ++ [q] ∧ Sht S n q y L Q ps ∧ (∀ x ∈ h, okPage x = true) ∧ 2 < n ∧ ∀ P ∈ F, P < S.length ∧ 2 ≤ P ∧ P ≠ n ∧ P ≠ Q ∧ (P < L ∨ L + q.length < P)
section
variable {S S' : Store} {n Q : Nat} {y : Sty} {h : List Page} {q : Page} {F : List Nat} {b b' : Box} {Z : Store}
theorem Sht.keepS {S S' : Store} {n L Q : Nat} {p : Page} {y : Sty} {ps : List Page} (h : Sht S n p y L Q ps) (k : ∀ i ob, n ≤ i → S[i]? = some ob → S'[i]? = some ob) : Sht S' n p y L Q ps := by
  have nL := h.nL
  have nQ := h.nQ
  exact ⟨k _ _ (Nat.le_refl _) h.sh, ⟨k _ _ (by omega) h.la.1, fun j hj => k _ _ (by omega) (h.la.2 j hj)⟩, k _ _ (by omega) h.pa, nL, nQ, h.LQ⟩
theorem SpH.bx (h1 : SpH (Bx b Z) n y Q h F) : SpH (Bx b' Z) n y Q h F := by
  obtain ⟨L, ps, q, e, sh, ok, n2, f⟩ := h1
  refine ⟨L, ps, q, e, sh.keepS fun i ob hi e => ?_, ok, n2, f⟩
  obtain ⟨j, rfl⟩ : ∃ j, i = j + 2 := ⟨i - 2, by omega⟩
  rw [Bx_get] at e ⊢; exact e
theorem SpH.app (h1 : SpH S n y Q h F) (M : Store) : SpH (S ++ M) n y Q h F := by
  obtain ⟨L, ps, q, e, sh, ok, n2, f⟩ := h1
  exact ⟨L, ps, q, e, sh.app, ok, n2, fun P hP => ⟨by have := (f P hP).1; rw [List.length_append]; omega, (f P hP).2⟩⟩
theorem SpH.less {F' : List Nat} (h1 : SpH S n y Q h F) (hF : ∀ P ∈ F', P ∈ F) : SpH S n y Q h F' := by
  obtain ⟨L, ps, q, e, sh, ok, n2, f⟩ := h1
  exact ⟨L, ps, q, e, sh, ok, n2, fun P hP => f P (hF P hP)⟩
theorem lays_lt {S : Store} {L : Nat} {p : Page} {f : Nat → Nat → Int} (hp : 1 ≤ p.length) (la : Lays S L p f) : L + p.length < S.length := by
  have := (List.getElem?_eq_some_iff.mp (la.2 (p.length - 1) (by omega))).1
  omega
theorem SpH.fresh (h1 : SpH S n y Q h F) (o : Ob) : SpH (S ++ [o]) n y Q h (S.length :: F) := by
  obtain ⟨L, ps, q, e, sh, ok, n2, f⟩ := h1
  have q1 := (okPage_parts (ok q (by rw [e]; simp))).1
  have ll := lays_lt q1 sh.la
  have nS := (List.getElem?_eq_some_iff.mp sh.sh).1
  have QS := (List.getElem?_eq_some_iff.mp sh.pa).1
  refine ⟨L, ps, q, e, sh.app, ok, n2, fun P hP => ?_⟩
  rcases List.mem_cons.mp hP with rfl | hP
  · exact ⟨by simp, by omega, by omega, by omega, by omega⟩
  · exact ⟨by have := (f P hP).1; simp; omega, (f P hP).2⟩
theorem SpH.set (h1 : SpH S n y Q h F) {P : Nat} (hP : P ∈ F) (o : Ob) : SpH (S.set P o) n y Q h F := by
  obtain ⟨L, ps, q, e, sh, ok, n2, f⟩ := h1
  obtain ⟨f1, f2, f3, f4, f5⟩ := f P hP
  exact ⟨L, ps, q, e, ⟨set_keep (by omega) sh.sh, ⟨set_keep (by omega) sh.la.1, fun k hk => set_keep (by omega) (sh.la.2 k hk)⟩, set_keep (by omega) sh.pa, sh.nL, sh.nQ, sh.LQ⟩, ok, n2, fun P hP => ⟨by rw [List.length_set]; exact (f P hP).1, (f P hP).2⟩⟩
theorem SpH.deed (h1 : SpH (Bx b Z) n y Q (h ++ [q]) F) (hl : h.length < 1000) {x : Nat × List Row × Nat} (ex : EditOk q x) :
    ∃ G Z', m_Sheet_turn_to [.ref n, .lst (encP (editD q x).1), .lst ((editD q x).2.map encO)] (Bx b Z) = .ok (.ref G, Bx b Z') ∧ SpH (Bx b Z') n y Q (h ++ [q] ++ [(editD q x).1]) F ∧ (∀ i ob, i ≠ n → i ≠ Q → (Bx b Z)[i]? = some ob → (Bx b Z')[i]? = some ob) ∧ Z.length ≤ Z'.length := by
  obtain ⟨L, ps, q', e, sh, ok, n2, f⟩ := h1
  obtain ⟨rfl, e2⟩ := List.append_inj' e rfl
  cases e2
  have hq := ok q (by simp)
  obtain ⟨o1, o2⟩ := edit_ok hq ex
  obtain ⟨S', L', G, t1, t2, _, _, _, _, _, t3, t4, t5⟩ := turn_to_ok sh hq o1 hl o2
  have nQ := sh.nQ
  obtain ⟨Z', rfl⟩ := bx_of (S := S') (b := b) (Z := Z) (by rw [t4 0 (.lst (b.ns.map .int)) (by omega) (by omega) rfl]; rfl) (by rw [t4 1 (.lst [.ref 0, .int b.s]) (by omega) (by omega) rfl]; rfl)
  simp only [Bx_len] at t5
  refine ⟨G, Z', t1, ⟨L', h ++ [q], _, rfl, t2, fun x hx => ?_, n2, fun P hP => ?_⟩, t4, by omega⟩
  · rcases List.mem_append.mp hx with hx | hx
    · exact ok x hx
    · rw [List.mem_singleton.mp hx]; exact o1
  · obtain ⟨f1, f2, f3, f4, f5⟩ := f P hP
    simp only [Bx_len] at f1 t3 ⊢
    exact ⟨by omega, f2, f3, f4, .inl (by omega)⟩
theorem SpH.back (h1 : SpH (Bx b Z) n y Q (h ++ [q]) F) (hh : h ≠ []) :
    ∃ Z', m_Sheet_back [.ref n] (Bx b Z) = .ok (.bl true, Bx b Z') ∧ SpH (Bx b Z') n y Q h F ∧ (∀ i ob, i ≠ n → i ≠ Q → (Bx b Z)[i]? = some ob → (Bx b Z')[i]? = some ob) ∧ Z.length ≤ Z'.length := by
  obtain ⟨L, ps, q', e, sh, ok, n2, f⟩ := h1
  obtain ⟨rfl, e2⟩ := List.append_inj' e rfl
  cases e2
  obtain ⟨ps', r, rfl⟩ : ∃ ps' r, h = ps' ++ [r] := by
    rcases List.eq_nil_or_concat h with rfl | ⟨h', q, rfl⟩
    · exact absurd rfl hh
    · exact ⟨h', q, by rw [List.concat_eq_append]⟩
  have hr := ok r (by simp)
  obtain ⟨S', L', t1, t2, t3, t4, t5⟩ := sh_back1 sh hr
  have nQ := sh.nQ
  obtain ⟨Z', rfl⟩ := bx_of (S := S') (b := b) (Z := Z) (by rw [t3 0 (.lst (b.ns.map .int)) (by omega) (by omega) rfl]; rfl) (by rw [t3 1 (.lst [.ref 0, .int b.s]) (by omega) (by omega) rfl]; rfl)
  simp only [Bx_len] at t5
  refine ⟨Z', t1, ⟨L', ps', r, rfl, t2, fun x hx => ok x (List.mem_append_left _ hx), n2, fun P hP => ?_⟩, t3, by omega⟩
  obtain ⟨f1, f2, f3, f4, f5⟩ := f P hP
  simp only [Bx_len] at f1 t4 ⊢
  exact ⟨by omega, f2, f3, f4, .inl (by omega)⟩
theorem SpH.back0 (h1 : SpH S n y Q [q] F) : m_Sheet_back [.ref n] S = .ok (.bl false, S) := by
  obtain ⟨L, ps, q', e, sh, ok, n2, f⟩ := h1
  have : ps = [] := by
    have := congrArg List.length e
    simpa using this
  subst this
  exact sh_back0 sh
theorem SpH.at (h1 : SpH S n y Q (h ++ [q]) F) : ∃ L, S[n]? = some (.ins 13 (shFs q y L Q)) ∧ Lays S L q (bAt q y) := by
  obtain ⟨L, ps, q', e, sh, ok, n2, f⟩ := h1
  obtain ⟨rfl, e2⟩ := List.append_inj' e rfl
  cases e2
  exact ⟨L, sh.sh, sh.la⟩
end
/-- rows of so many empty cells -/
def blR (n : Nat) : Row := List.replicate n []
def bl (ls : List Nat) : Page := ls.map blR
theorem set_spl {A : Type} {l : List A} {k : Nat} (a : A) (hk : k < l.length) : spl l k [a] (k + 1) = l.set k a := by
  unfold spl
  rw [List.set_eq_take_append_cons_drop, if_pos hk]; simp
theorem bl_row {ls : List Nat} {k n : Nat} (hk : ls[k]? = some n) : rowAt (bl ls) k = blR n ∧ cellsIn (bl ls) k = n := by
  have e : (bl ls)[k]? = some (blR n) := by unfold bl; rw [List.getElem?_map, hk]; rfl
  have e1 : rowAt (bl ls) k = blR n := by unfold rowAt; rw [List.getD_eq_getElem?_getD, e]; rfl
  refine ⟨e1, ?_⟩
  show (rowAt (bl ls) k).length = n
  rw [e1]; unfold blR; simp
theorem bl_cell {ls : List Nat} (k c : Nat) : cellAt (bl ls) k c = [] := by
  show ((bl ls).getD k []).getD c [] = []
  rw [List.getD_eq_getElem?_getD, List.getD_eq_getElem?_getD]
  unfold bl
  rw [List.getElem?_map]
  cases ls[k]? with
  | none => simp
  | some n =>
    unfold blR
    simp only [Option.map_some, Option.getD_some]
    rw [List.getElem?_replicate]
    split <;> rfl
theorem bl_part {i : Nat} (hi : i < 29) : ∃ x, editOf (bl (List.replicate (i + 1) 1)) (.part i 0 0) = some x ∧ (editD (bl (List.replicate (i + 1) 1)) x).1 = bl (List.replicate (i + 2) 1) := by
  have l : (bl (List.replicate (i + 1) 1)).length = i + 1 := by unfold bl; simp
  obtain ⟨e1, e2⟩ := bl_row (ls := List.replicate (i + 1) 1) (k := i) (n := 1) (by simp)
  refine ⟨(i, [[[]], [[]]], i + 1), ?_, ?_⟩
  · simp only [editOf]
    rw [if_neg (by omega), e1, bl_cell]
    rfl
  · show spl _ _ _ _ = _
    unfold spl bl
    simp only [List.map_replicate]
    rw [List.take_replicate, List.drop_replicate, Nat.min_eq_left (by omega), Nat.sub_self, List.replicate_zero, List.append_nil]
    have : ([[[]], [[]]] : List Row) = List.replicate 2 (blR 1) := rfl
    rw [this, List.replicate_append_replicate]
theorem bl_tab {ls : List Nat} {k n c : Nat} (hk : ls[k]? = some n) (hn : n < 6) (hc : c < n) : ∃ x, editOf (bl ls) (.strike k c 0 [9]) = some x ∧ (editD (bl ls) x).1 = bl (ls.set k (n + 1)) := by
  obtain ⟨e1, e2⟩ := bl_row hk
  have hl := (List.getElem?_eq_some_iff.mp hk).1
  refine ⟨(k, [spl (rowAt (bl ls) k) c [(cellAt (bl ls) k c).take 0, (cellAt (bl ls) k c).drop 0] (c + 1)], k + 1), ?_, ?_⟩
  · simp only [editOf, if_true]
    rw [if_neg (by omega)]
  · show spl _ _ _ _ = _
    rw [set_spl _ (by unfold bl; simpa using hl), e1, bl_cell]
    unfold bl
    rw [List.map_set]
    congr 1
    unfold spl blR
    rw [List.take_replicate, List.drop_replicate, Nat.min_eq_left (by omega)]
    have : ([([] : List Nat).take 0, ([] : List Nat).drop 0] : Row) = List.replicate 2 [] := rfl
    rw [this, List.replicate_append_replicate, List.replicate_append_replicate]
    congr 1; omega
end Dl
namespace Dl
open PySem L2
def m_law_parted : FV := funD 6 (d_law_parted m_Sheet_part m_Sheet_strike_k10 m_law_take)
def paS : SV := sExpr (eMeth 13 "part" 4 m_Sheet_part (eV 1) (aCons (eV 3) (aCons (eC (.int 0)) (aCons (eC (.int 0)) (aNil)))))
def tbS : SV := sCons (sExpr (eMeth 13 "strike" 5 m_Sheet_strike_k10 (eV 1) (aCons (eV 3) (aCons (eCall 2 m_law_take (aCons (eV 0) (aCons (eOp (addG false) (eV 5) (eC (.int 1))) (aNil)))) (aCons (eC (.int 0)) (aCons (eC (.str [9])) (aNil))))))) (sAsg (eOp (addG false) (eV 4) (eC (.int 1))) (gN 4))
theorem parted_eq : d_law_parted m_Sheet_part m_Sheet_strike_k10 m_law_take = sCons (sFor (iR1 (aCons (eOp subG (eB lenG (aCons (eV 2) (aNil))) (eC (.int 1))) (aNil))) (gN 3) paS) (sCons (sAsg (eOp subG (eB lenG (aCons (eV 2) (aNil))) (eC (.int 1))) (gN 4)) (sCons (sFor (iR1 (aCons (eB lenG (aCons (eV 2) (aNil))) (aNil))) (gN 3) (sFor (iR1 (aCons (eOp subG (eB lenG (aCons (eOp ixG (eV 2) (eV 3)) (aNil))) (eC (.int 1))) (aNil))) (gN 5) tbS)) (sRet (eV 4)))) := (rfl)
section
variable {n Q : Nat} {y : Sty} {F : List Nat} {b : Box} {Z : Store} {h : List Page} {p : Page}
theorem bl_valid {ls : List Nat} {k m c : Nat} (hk : ls[k]? = some m) (hc : c < m) : Valid (bl ls) (k, c, 0) := by
  obtain ⟨e1, e2⟩ := bl_row hk
  have hl := (List.getElem?_eq_some_iff.mp hk).1
  exact ⟨by show k < (bl ls).length; unfold bl; simpa using hl, by show c < cellsIn _ k; rw [e2]; exact hc, Nat.zero_le _⟩
theorem SpH.Qn {S : Store} (s : SpH S n y Q h F) : n < Q ∧ 2 < n ∧ ∀ x ∈ h, okPage x = true := by
  obtain ⟨L, ps, q, e, sh, ok, n2, f⟩ := s
  exact ⟨sh.nQ, n2, ok⟩
theorem SpH.sht {S : Store} {q : Page} (s : SpH S n y Q (h ++ [q]) F) : ∃ L, Sht S n q y L Q h ∧ okPage q = true := by
  obtain ⟨L, ps, q', e, sh, ok, n2, f⟩ := s
  obtain ⟨rfl, e2⟩ := List.append_inj' e rfl
  cases e2
  exact ⟨L, sh, ok q (by simp)⟩
theorem pa_ok {i : Nat} (s : SpH (Bx b Z) n y Q (h ++ [bl (List.replicate (i + 1) 1)]) F) (hl : h.length < 900) (hi : i < 29) (pg : (Bx b Z)[2]? = some (.lst (encP p))) (a0 a2 a4 a5 : Option D) :
    ∃ Z', paS [a0, some (.ref n), a2, some (.int i), a4, a5] (Bx b Z) = .nx [a0, some (.ref n), a2, some (.int i), a4, a5] (Bx b Z') ∧ SpH (Bx b Z') n y Q (h ++ [bl (List.replicate (i + 1) 1)] ++ [bl (List.replicate (i + 2) 1)]) F ∧ (Bx b Z')[2]? = some (.lst (encP p)) := by
  obtain ⟨L, sh, ok⟩ := s.sht
  obtain ⟨q1, q2, _⟩ := s.Qn
  obtain ⟨x, e1, e2⟩ := bl_part hi
  have v := bl_valid (ls := List.replicate (i + 1) 1) (k := i) (m := 1) (c := 0) (by simp) (by omega)
  have pa := sh_part_ok sh ok v
  unfold doneBy at pa
  rw [e1] at pa
  simp only at pa
  have ex := editOf_ok ok (d := .part i 0 0) v e1
  obtain ⟨G, Z', t1, t2, t3, t4⟩ := s.deed (by omega) ex
  rw [t1] at pa
  have pa' : m_Sheet_part [.ref n, .int (i : Nat), .int 0, .int 0] (Bx b Z) = .ok (.ref G, Bx b Z') := pa
  rw [e2] at t2
  refine ⟨Z', ?_, t2, t3 _ _ (by omega) (by omega) pg⟩
  obtain ⟨_, _, _, _, u5, _⟩ := sh_nam (bl (List.replicate (i + 1) 1)) y L Q
  have hs := sh.sh
  unfold paS
  generalize shFs (bl (List.replicate (i + 1) 1)) y L Q = FS at u5 hs
  generalize Bx b Z = S at *
  generalize Bx b Z' = S' at *
  simp [hs, u5, pa']
theorem tb_ok {ls : List Nat} {k m : Nat} (s : SpH (Bx b Z) n y Q (h ++ [bl ls]) F) (hl : h.length < 900) (hk : ls[k]? = some (m + 1)) (hm : m + 1 < 6) (pg : (Bx b Z)[2]? = some (.lst (encP p))) {c : Nat} (a2 : Option D) :
    ∃ b' Z', tbS [some (.ref 1), some (.ref n), a2, some (.int k), some (.int c), some (.int m)] (Bx b Z) = .nx [some (.ref 1), some (.ref n), a2, some (.int k), some (.int ((c + 1 : Nat) : Int)), some (.int m)] (Bx b' Z') ∧ SpH (Bx b' Z') n y Q (h ++ [bl ls] ++ [bl (ls.set k (m + 2))]) F ∧ (Bx b' Z')[2]? = some (.lst (encP p)) := by
  have t0 := take_eq b Z ((m : Int) + 1) (by omega) (by omega)
  have w0 := tk_lo b (n := (m : Int) + 1) (by omega)
  have w1 := tk_hi b (n := (m : Int) + 1) (by omega)
  generalize tk b ((m : Int) + 1) = pr at t0 w0 w1
  obtain ⟨w, b2⟩ := pr
  simp only at t0 w0 w1
  obtain ⟨w, rfl⟩ := Int.eq_ofNat_of_zero_le w0
  have s2 : SpH (Bx b2 Z) n y Q (h ++ [bl ls]) F := s.bx
  obtain ⟨L0, sh0, _⟩ := s.sht
  obtain ⟨L, sh, ok⟩ := s2.sht
  obtain ⟨q1, q2, _⟩ := s.Qn
  obtain ⟨x, e1, e2⟩ := bl_tab hk hm (c := w) (by omega)
  have v := bl_valid hk (c := w) (by omega)
  have pa := sh_strike_ok (s := [9]) sh ok v (.inl rfl)
  unfold doneBy at pa
  rw [e1] at pa
  simp only at pa
  have ex := editOf_ok ok (d := .strike k w 0 [9]) ⟨v, .inl rfl⟩ e1
  obtain ⟨G, Z', t1, t2, t3, t4⟩ := s2.deed (by omega) ex
  rw [t1] at pa
  have pa' : m_Sheet_strike_k10 [.ref n, .int (k : Nat), .int (w : Nat), .int 0, .str [9]] (Bx b2 Z) = .ok (.ref G, Bx b2 Z') := pa
  rw [e2] at t2
  refine ⟨b2, Z', ?_, t2, t3 _ _ (by omega) (by omega) pg⟩
  obtain ⟨_, _, u3, _, _, _⟩ := sh_nam (bl ls) y L0 Q
  have hs := sh0.sh
  have a1 : ∀ st, addG false st (.int (m : Int)) (.int 1) = .ok (.int ((m : Int) + 1), st) := fun _ => rfl
  have ac : ∀ st, addG false st (.int (c : Int)) (.int 1) = .ok (.int ((c + 1 : Nat) : Int), st) := fun _ => rfl
  unfold tbS
  generalize shFs (bl ls) y L0 Q = FS at u3 hs
  generalize Bx b Z = S at *
  generalize Bx b2 Z = S2 at *
  generalize Bx b2 Z' = S' at *
  simp [hs, u3, a1, t0, pa', ac]
theorem parted_ok (hp : okPage p = true) (h8 : p.length ≤ 8) (s : SpH (Bx b Z) n y Q [bl [1]] F) (pg : (Bx b Z)[2]? = some (.lst (encP p))) :
    ∃ b' Z' h, m_law_parted [.ref 1, .ref n, .ref 2] (Bx b Z) = .ok (.int (h.length : Nat), Bx b' Z') ∧ SpH (Bx b' Z') n y Q (h ++ [bl (p.map List.length)]) F ∧ h.length ≤ 47 ∧ (h ++ [bl (p.map List.length)])[0]? = some (bl [1]) ∧ (Bx b' Z')[2]? = some (.lst (encP p)) := by
  have p1 := (okPage_parts hp).1
  unfold m_law_parted funD
  rw [parted_eq]
  have hstart : (List.map some [D.ref 1, .ref n, .ref 2] ++ List.replicate (6 - [D.ref 1, .ref n, .ref 2].length) none : Env) = [some (.ref 1), some (.ref n), some (.ref 2), none, none, none] := rfl
  rw [hstart]
  have ln : ∀ {S : Store}, S[2]? = some (.lst (encP p)) → lenG S [.ref 2] = .ok (.int (p.length : Nat), S) := fun {S} e => by
    have := len_list (show listOf S (.ref 2) = some (encP p, [(2, encP p)]) by simp only [listOf, e])
    rw [encP_len] at this; exact this
  have l0 := ln pg
  have sb : ∀ st, subG st (.int (p.length : Int)) (.int 1) = .ok (.int ((p.length - 1 : Nat) : Int), st) := fun st => by
    show R.ok (D.int ((p.length : Int) - 1), st) = _
    congr 3; omega
  have r1 : -1000000 ≤ ((p.length - 1 : Nat) : Int) ∧ ((p.length - 1 : Nat) : Int) ≤ 1000000 := by omega
  obtain ⟨Z1, h1, c3, s1, hl1, hh1, pg1, el⟩ : ∃ Z1 h1 c3, SpH (Bx b Z1) n y Q (h1 ++ [bl (List.replicate p.length 1)]) F ∧ h1.length = p.length - 1 ∧ (h1 ++ [bl (List.replicate p.length 1)])[0]? = some (bl [1]) ∧ (Bx b Z1)[2]? = some (.lst (encP p)) ∧ sFor (iR1 (aCons (eOp subG (eB lenG (aCons (eV 2) (aNil))) (eC (.int 1))) (aNil))) (gN 3) paS [some (.ref 1), some (.ref n), some (.ref 2), none, none, none] (Bx b Z) = .nx [some (.ref 1), some (.ref n), some (.ref 2), c3, none, none] (Bx b Z1) := by
    have eF : sFor (iR1 (aCons (eOp subG (eB lenG (aCons (eV 2) (aNil))) (eC (.int 1))) (aNil))) (gN 3) paS [some (.ref 1), some (.ref n), some (.ref 2), none, none, none] (Bx b Z) = forGo [] (gN 3) paS (intsD 0 (p.length - 1)) [some (.ref 1), some (.ref n), some (.ref 2), none, none, none] (Bx b Z) := by
      generalize paS = body
      generalize Bx b Z = S at l0 ⊢
      simp [l0, sb, r1]
    rw [eF]
    generalize hf : forGo _ _ _ _ _ _ = r
    obtain ⟨e, s', rfl, Z1, h1, rfl, j1, j2, j3, j4, c3, rfl⟩ := for_at hf (fun i env st' => ∃ Z1 h1, st' = Bx b Z1 ∧ SpH (Bx b Z1) n y Q (h1 ++ [bl (List.replicate (i + 1) 1)]) F ∧ h1.length = i ∧ (h1 ++ [bl (List.replicate (i + 1) 1)])[0]? = some (bl [1]) ∧ (Bx b Z1)[2]? = some (.lst (encP p)) ∧ ∃ c3, env = [some (.ref 1), some (.ref n), some (.ref 2), c3, none, none])
      ⟨Z, [], rfl, s, rfl, rfl, pg, _, rfl⟩ (fun _ _ _ _ _ => rfl) (fun i x env st' hi ⟨Z1, h1, e1, j1, j2, j3, j4, c3, e2⟩ => by
        subst e1 e2
        obtain ⟨hi', rfl⟩ := ints_get hi
        rw [r_gN]
        simp only [sOf_m, List.set_cons_succ, List.set_cons_zero]
        obtain ⟨Z', t1, t2, t3⟩ := pa_ok j1 (by omega) (by omega) j4 (some (.ref 1)) (some (.ref 2)) none none
        refine turn_eq (by simpa using t1) ⟨Z', _, rfl, t2, by simp [j2], ?_, t3, _, rfl⟩
        rw [List.getElem?_append_left (by simp)]; exact j3)
    have e1 : (intsD 0 (p.length - 1)).length + 1 = p.length := by rw [intsD_len]; omega
    rw [e1] at j1 j3
    exact ⟨Z1, h1, c3, j1, by omega, j3, j4, rfl⟩
  rw [sCons_nx el]
  have l1 := ln pg1
  rw [sCons_nx (sAsgN_at (x := .int ((p.length - 1 : Nat) : Int)) (sx := Bx b Z1) (by generalize Bx b Z1 = S at l1 ⊢; simp [l1, sb]))]
  simp only [List.set_cons_succ, List.set_cons_zero]
  have rN : -1000000 ≤ ((p.length : Nat) : Int) ∧ ((p.length : Nat) : Int) ≤ 1000000 := by omega
  obtain ⟨b2, Z2, h2, c3', c5', s2, hl2, hh2, pg2, el2⟩ : ∃ b2 Z2 h2 c3' c5', SpH (Bx b2 Z2) n y Q (h2 ++ [bl (p.map List.length)]) F ∧ h2.length ≤ 47 ∧ (h2 ++ [bl (p.map List.length)])[0]? = some (bl [1]) ∧ (Bx b2 Z2)[2]? = some (.lst (encP p)) ∧ sFor (iR1 (aCons (eB lenG (aCons (eV 2) (aNil))) (aNil))) (gN 3) (sFor (iR1 (aCons (eOp subG (eB lenG (aCons (eOp ixG (eV 2) (eV 3)) (aNil))) (eC (.int 1))) (aNil))) (gN 5) tbS) [some (.ref 1), some (.ref n), some (.ref 2), c3, some (.int ((p.length - 1 : Nat) : Int)), none] (Bx b Z1) = .nx [some (.ref 1), some (.ref n), some (.ref 2), c3', some (.int (h2.length : Nat)), c5'] (Bx b2 Z2) := by
    have eF : ∀ body, sFor (iR1 (aCons (eB lenG (aCons (eV 2) (aNil))) (aNil))) (gN 3) body [some (.ref 1), some (.ref n), some (.ref 2), c3, some (.int ((p.length - 1 : Nat) : Int)), none] (Bx b Z1) = forGo [] (gN 3) body (intsD 0 p.length) [some (.ref 1), some (.ref n), some (.ref 2), c3, some (.int ((p.length - 1 : Nat) : Int)), none] (Bx b Z1) := fun body => by
      generalize Bx b Z1 = S at l1 ⊢
      simp [l1, rN]
    rw [eF]
    generalize hf : forGo _ _ _ _ _ _ = r
    obtain ⟨e, s', rfl, b2, Z2, h2, rfl, j1, j2, j3, j4, c3', c5', rfl⟩ := for_at hf (fun i env st' => ∃ b2 Z2 h2, st' = Bx b2 Z2 ∧ SpH (Bx b2 Z2) n y Q (h2 ++ [bl ((p.map List.length).take i ++ List.replicate (p.length - i) 1)]) F ∧ h2.length ≤ 7 + 5 * i ∧ (h2 ++ [bl ((p.map List.length).take i ++ List.replicate (p.length - i) 1)])[0]? = some (bl [1]) ∧ (Bx b2 Z2)[2]? = some (.lst (encP p)) ∧ ∃ c3 c5, env = [some (.ref 1), some (.ref n), some (.ref 2), c3, some (.int (h2.length : Nat)), c5])
      ⟨b, Z1, h1, rfl, by simpa using s1, by omega, by simpa using hh1, pg1, c3, none, by rw [hl1]⟩ (fun _ _ _ _ _ => rfl) (fun i x env st' hi ⟨b2, Z2, h2, e1, j1, j2, j3, j4, c3', c5', e2⟩ => by
        subst e1 e2
        obtain ⟨hi', rfl⟩ := ints_get hi
        rw [r_gN]
        simp only [sOf_m, List.set_cons_succ, List.set_cons_zero]
        have cl := cellsIn_le hp hi'
        have ra := rowAt_ok hp hi'
        have ix := lix_row (S := Bx b2 Z2) (d := .ref 2) (p := p) (w := [(2, encP p)]) (by simp only [listOf, j4]) hi'
        have lr : ∀ st, lenG st [encR (rowAt p i)] = .ok (.int (cellsIn p i), st) := fun st => by
          show R.ok (D.int (((rowAt p i).map D.str).length : Nat), st) = _
          rw [List.length_map, ra.2.1]
        have sc : ∀ st, subG st (.int (cellsIn p i : Int)) (.int 1) = .ok (.int ((cellsIn p i - 1 : Nat) : Int), st) := fun st => by
          show R.ok (D.int ((cellsIn p i : Int) - 1), st) = _
          congr 3; omega
        have rc : -1000000 ≤ ((cellsIn p i - 1 : Nat) : Int) ∧ ((cellsIn p i - 1 : Nat) : Int) ≤ 1000000 := by omega
        have eG : ∀ body, sFor (iR1 (aCons (eOp subG (eB lenG (aCons (eOp ixG (eV 2) (eV 3)) (aNil))) (eC (.int 1))) (aNil))) (gN 5) body [some (.ref 1), some (.ref n), some (.ref 2), some (.int (i : Nat)), some (.int (h2.length : Nat)), c5'] (Bx b2 Z2) = forGo [] (gN 5) body (intsD 0 (cellsIn p i - 1)) [some (.ref 1), some (.ref n), some (.ref 2), some (.int (i : Nat)), some (.int (h2.length : Nat)), c5'] (Bx b2 Z2) := fun body => by
          generalize rowAt p i = rr at ix lr
          generalize Bx b2 Z2 = S at ix ⊢
          simp [ix, lr, sc, rc, -ix_lst]
        rw [eG tbS]
        generalize hg : forGo _ _ _ _ _ _ = rg
        obtain ⟨e, s', rfl, b3, Z3, h3, rfl, k1, k2, k3, k4, c5, rfl⟩ := for_at hg (fun j env st' => ∃ b3 Z3 h3, st' = Bx b3 Z3 ∧ SpH (Bx b3 Z3) n y Q (h3 ++ [bl ((p.map List.length).take i ++ (j + 1) :: List.replicate (p.length - i - 1) 1)]) F ∧ h3.length = h2.length + j ∧ (h3 ++ [bl ((p.map List.length).take i ++ (j + 1) :: List.replicate (p.length - i - 1) 1)])[0]? = some (bl [1]) ∧ (Bx b3 Z3)[2]? = some (.lst (encP p)) ∧ ∃ c5, env = [some (.ref 1), some (.ref n), some (.ref 2), some (.int (i : Nat)), some (.int (h3.length : Nat)), c5])
          ⟨b2, Z2, h2, rfl, by
            have : List.replicate (p.length - i) 1 = 1 :: List.replicate (p.length - i - 1) 1 := by rw [← List.replicate_succ]; congr 1; omega
            rw [this] at j1; exact j1, rfl, by
            have : List.replicate (p.length - i) 1 = 1 :: List.replicate (p.length - i - 1) 1 := by rw [← List.replicate_succ]; congr 1; omega
            rw [this] at j3; exact j3, j4, c5', rfl⟩ (fun _ _ _ _ _ => rfl) (fun j x env st' hj ⟨b3, Z3, h3, e1, k1, k2, k3, k4, c5, e2⟩ => by
            subst e1 e2
            obtain ⟨hj', rfl⟩ := ints_get hj
            rw [r_gN]
            simp only [sOf_m, List.set_cons_succ, List.set_cons_zero]
            have lt : ((p.map List.length).take i).length = i := by rw [List.length_take, List.length_map]; omega
            obtain ⟨b', Z', t1, t2, t3⟩ := tb_ok (k := i) (m := j) (c := h3.length) k1 (by omega) (by rw [List.getElem?_append_right (by omega), lt, Nat.sub_self]; rfl) (by omega) k4 (some (.ref 2))
            refine turn_eq t1 ⟨b', Z', h3 ++ [bl ((p.map List.length).take i ++ (j + 1) :: List.replicate (p.length - i - 1) 1)], rfl, ?_, by rw [List.length_append, List.length_singleton]; omega, ?_, t3, some (.int j), by rw [List.length_append, List.length_singleton]⟩
            · rw [List.set_append_right _ _ (by omega), lt, Nat.sub_self] at t2
              exact t2
            · rw [List.getElem?_append_left (by simp)]; exact k3)
        rw [intsD_len] at k1 k2 k3
        have e1 : cellsIn p i - 1 + 1 = cellsIn p i := by omega
        have e2 : (p.map List.length).take i ++ (cellsIn p i - 1 + 1) :: List.replicate (p.length - i - 1) 1 = (p.map List.length).take (i + 1) ++ List.replicate (p.length - (i + 1)) 1 := by
          have : (p.map List.length)[i]? = some (cellsIn p i) := by
            rw [List.getElem?_map, List.getElem?_eq_getElem hi']
            show some (p[i].length) = some ((p.getD i []).length)
            rw [List.getD_eq_getElem?_getD, List.getElem?_eq_getElem hi']; rfl
          rw [List.take_add_one, this, e1, show p.length - (i + 1) = p.length - i - 1 by omega]; simp
        rw [e2] at k1 k3
        exact ⟨b3, Z3, h3, rfl, k1, by omega, k3, k4, _, _, rfl⟩)
    rw [intsD_len] at j1 j2 j3
    have e1 : (p.map List.length).take p.length ++ List.replicate (p.length - p.length) 1 = p.map List.length := by
      rw [Nat.sub_self, List.replicate_zero, List.append_nil, List.take_of_length_le (by simp)]
    rw [e1] at j1 j3
    exact ⟨b2, Z2, h2, c3', c5', j1, by omega, j3, j4, rfl⟩
  rw [sCons_nx el2]
  exact ⟨b2, Z2, h2, by simp, s2, hl2, hh2, pg2⟩
end
end Dl
namespace Dl
open PySem L2
/-- a page of the form of p, its cells told -/
def pgf (p : Page) (g : Nat → Nat → List Nat) : Page := (List.range p.length).map fun k => (List.range (cellsIn p k)).map fun c => g k c
def upc (g : Nat → Nat → List Nat) (k c : Nat) (s : List Nat) : Nat → Nat → List Nat := fun i j => if i = k ∧ j = c then s else g i j
section
variable {p : Page} {g : Nat → Nat → List Nat}
theorem pgf_len : (pgf p g).length = p.length := by unfold pgf; simp
theorem pgf_row {k : Nat} (hk : k < p.length) : rowAt (pgf p g) k = (List.range (cellsIn p k)).map (fun c => g k c) ∧ cellsIn (pgf p g) k = cellsIn p k := by
  have e : (pgf p g)[k]? = some ((List.range (cellsIn p k)).map (fun c => g k c)) := by unfold pgf; rw [List.getElem?_map, List.getElem?_range hk]; rfl
  have e1 : rowAt (pgf p g) k = (List.range (cellsIn p k)).map (fun c => g k c) := by unfold rowAt; rw [List.getD_eq_getElem?_getD, e]; rfl
  refine ⟨e1, ?_⟩
  show (rowAt (pgf p g) k).length = _
  rw [e1]; simp
theorem pgf_cell {k c : Nat} (hk : k < p.length) (hc : c < cellsIn p k) : cellAt (pgf p g) k c = g k c := by
  show (rowAt (pgf p g) k).getD c [] = _
  rw [(pgf_row hk).1, List.getD_eq_getElem?_getD, List.getElem?_map, List.getElem?_range hc]; rfl
theorem pgf_ext {g' : Nat → Nat → List Nat} (h : ∀ k c, k < p.length → c < cellsIn p k → g k c = g' k c) : pgf p g = pgf p g' := by
  unfold pgf
  refine List.map_congr_left fun k hk => List.map_congr_left fun c hc => h k c (List.mem_range.mp hk) (List.mem_range.mp hc)
theorem pgf_self : pgf p (cellAt p) = p := by
  refine List.ext_getElem? fun k => ?_
  unfold pgf
  rw [List.getElem?_map]
  by_cases hk : k < p.length
  · rw [List.getElem?_range hk, List.getElem?_eq_getElem hk]
    have e : p.getD k [] = p[k] := by rw [List.getD_eq_getElem?_getD, List.getElem?_eq_getElem hk]; rfl
    simp only [Option.map_some, Option.some.injEq]
    refine List.ext_getElem? fun c => ?_
    rw [List.getElem?_map]
    show Option.map (fun c => (p.getD k []).getD c []) (List.range (p.getD k []).length)[c]? = _
    rw [e]
    by_cases hc : c < p[k].length
    · rw [List.getElem?_range hc, List.getElem?_eq_getElem hc]; simp [hc]
    · rw [List.getElem?_eq_none (by simp; omega), List.getElem?_eq_none (by omega)]; rfl
  · rw [List.getElem?_eq_none (by simp; omega), List.getElem?_eq_none (by omega)]; rfl
theorem pgf_nil : pgf p (fun _ _ => []) = bl (p.map List.length) := by
  unfold pgf bl blR
  refine List.ext_getElem? fun k => ?_
  rw [List.getElem?_map, List.getElem?_map, List.getElem?_map]
  by_cases hk : k < p.length
  · have e : p.getD k [] = p[k] := by rw [List.getD_eq_getElem?_getD, List.getElem?_eq_getElem hk]; rfl
    rw [List.getElem?_range hk, List.getElem?_eq_getElem hk]
    show some ((List.range (p.getD k []).length).map fun _ => ([] : List Nat)) = _
    rw [e, List.map_const', List.length_range]; rfl
  · rw [List.getElem?_eq_none (by simp; omega), List.getElem?_eq_none (by omega)]; rfl
theorem pgf_set {k c : Nat} (s : List Nat) (hk : k < p.length) (hc : c < cellsIn p k) : (pgf p g).set k ((rowAt (pgf p g) k).set c s) = pgf p (upc g k c s) := by
  rw [(pgf_row hk).1]
  refine List.ext_getElem? fun i => ?_
  rw [List.getElem?_set, pgf_len]
  unfold pgf
  rw [List.getElem?_map, List.getElem?_map]
  by_cases e : k = i
  · subst e
    rw [if_pos rfl, if_pos hk, List.getElem?_range hk]
    simp only [Option.map_some, Option.some.injEq]
    refine List.ext_getElem? fun j => ?_
    rw [List.getElem?_set, List.length_map, List.length_range, List.getElem?_map, List.getElem?_map]
    by_cases e2 : c = j
    · subst e2
      rw [if_pos rfl, if_pos hc, List.getElem?_range hc]
      simp [upc]
    · rw [if_neg e2]
      by_cases hj : j < cellsIn p k
      · rw [List.getElem?_range hj]
        simp only [Option.map_some, upc]
        rw [if_neg (by omega)]
      · rw [List.getElem?_eq_none (by simp; omega)]; rfl
  · rw [if_neg e]
    by_cases hi : i < p.length
    · rw [List.getElem?_range hi]
      simp only [Option.map_some, Option.some.injEq]
      refine List.map_congr_left fun c' _ => ?_
      unfold upc
      rw [if_neg (by omega)]
    · rw [List.getElem?_eq_none (by simp; omega)]; rfl
theorem pgf_strike {k c e x : Nat} (hk : k < p.length) (hc : c < cellsIn p k) (hx : okSign x = true) (hl : (g k c).length < 10) :
    ∃ z, editOf (pgf p g) (.strike k c e [x]) = some z ∧ (editD (pgf p g) z).1 = pgf p (upc g k c ((g k c).take e ++ [x] ++ (g k c).drop e)) := by
  have n9 : ¬ [x] = [9] := fun q => by cases q; exact absurd hx (by decide)
  refine ⟨(k, [spl (rowAt (pgf p g) k) c [(cellAt (pgf p g) k c).take e ++ [x] ++ (cellAt (pgf p g) k c).drop e] (c + 1)], k + 1), ?_, ?_⟩
  · simp only [editOf]
    rw [if_neg n9, pgf_cell hk hc, if_neg (by omega)]
  · show spl _ _ _ _ = _
    rw [set_spl _ (by rw [pgf_len]; exact hk), set_spl _ (by rw [(pgf_row hk).1]; simpa using hc), pgf_set _ hk hc, pgf_cell hk hc]
end
/-- where the j-th sign stands, and what is there ahead of it -/
def plJ (asc : Bool) (m j : Nat) : Nat := if asc = true then j else m - 1 - j
def ctJ (asc : Bool) (s : List Nat) (j : Nat) : List Nat := if asc = true then s.take j else s.drop (s.length - j)
def ejJ (asc : Bool) (j : Nat) : Nat := if asc = true then j else 0
theorem ct_step {asc : Bool} {s : List Nat} {j x : Nat} (hj : j < s.length) (hx : s[plJ asc s.length j]? = some x) : ctJ asc s (j + 1) = (ctJ asc s j).take (ejJ asc j) ++ [x] ++ (ctJ asc s j).drop (ejJ asc j) := by
  cases asc with
  | true =>
    simp only [plJ, ctJ, ejJ, if_true] at *
    rw [List.take_add_one, hx, List.take_take, Nat.min_self, List.drop_of_length_le (by simp; omega)]; simp
  | false =>
    simp only [plJ, ctJ, ejJ, Bool.false_eq_true, if_false] at *
    rw [List.take_zero, List.drop_zero, List.nil_append, show s.length - j = s.length - 1 - j + 1 by omega, show s.length - (j + 1) = s.length - 1 - j by omega]
    obtain ⟨h1, h2⟩ := List.getElem?_eq_some_iff.mp hx
    rw [List.drop_eq_getElem_cons h1, h2]; rfl
theorem ct_le {asc : Bool} {s : List Nat} {j : Nat} (hj : j ≤ s.length) : (ctJ asc s j).length = j := by
  cases asc <;> simp [ctJ] <;> omega
theorem lt_filter {asc : Bool} {m j : Nat} (hj : j < m) : (((List.range j).map (plJ asc m)).filter fun k => decide (k < plJ asc m j)).length = ejJ asc j := by
  cases asc with
  | true =>
    simp only [plJ, ejJ, if_true]
    rw [List.filter_eq_self.mpr fun k hk => by simp [plJ] at hk ⊢; exact hk]; simp
  | false =>
    simp only [plJ, ejJ, Bool.false_eq_true, if_false]
    rw [List.filter_eq_nil_iff.mpr fun k hk => by
      obtain ⟨i, hi, rfl⟩ := List.mem_map.mp hk
      simp [plJ] at hi ⊢; omega]
    rfl
end Dl
namespace Dl
open PySem L2
def m_law_typed : FV := funD 12 (d_law_typed m_law_take m_Sheet_strike_k10)
def ltE : EV := eB lenG (aCons (eLc false (iSeq (eV 9)) [11] (.one 11) (tv (eOp ltG (eV 11) (eV 10))) (eV 11)) (aNil))
def sgS : SV := sCons (sExpr (eMeth 13 "strike" 5 m_Sheet_strike_k10 (eV 1) (aCons (eV 5) (aCons (eV 6) (aCons ltE (aCons (eOp ixG (eV 7) (eV 10)) (aNil))))))) (sCons (sExpr (eMt "list" (appendG) (eV 9) (aCons (eV 10) (aNil)))) (sAsg (eOp (addG false) (eV 4) (eC (.int 1))) (gN 4)))
def ceS : SV := sCons (sAsg (eMt "list" (popG) (eV 3) (aCons (eCall 2 m_law_take (aCons (eV 0) (aCons (eB lenG (aCons (eV 3) (aNil))) (aNil)))) (aNil))) (gTp 2 (gsCons (gN 5) (gsCons (gN 6) (gsNil))))) (sCons (sAsg (eOp ixG (eOp ixG (eV 2) (eV 5)) (eV 6)) (gN 7)) (sCons (sAsg (eOp ixG (eLst false (aCons (eLR false (eB lenG (aCons (eV 7) (aNil)))) (aCons (eRevL false (eLR false (eB lenG (aCons (eV 7) (aNil))))) (aNil)))) (eCall 2 m_law_take (aCons (eV 0) (aCons (eC (.int 2)) (aNil))))) (gN 8)) (sCons (sAsg (eLst true (aNil)) (gN 9)) (sFor (iSeq (eV 8)) (gN 10) sgS))))
theorem typed_eq : d_law_typed m_law_take m_Sheet_strike_k10 = sCons (sPar 3 4 (aCons (eLst true (aNil)) (aCons (eC (.int 0)) (aNil)))) (sCons (sFor (iR1 (aCons (eB lenG (aCons (eV 2) (aNil))) (aNil))) (gN 5) (sAsg (eOp (addG true) (eV 3) (eLc false (iR1 (aCons (eB lenG (aCons (eOp ixG (eV 2) (eV 5)) (aNil))) (aNil))) [6] (.one 6) (tYesD) (eTup (aCons (eV 5) (aCons (eV 6) (aNil)))))) (gN 3))) (sCons (whileGo (tv (eOp (eqG true) (eV 3) (eLst false (aNil)))) ceS 100000) (sRet (eV 4)))) := (rfl)
def intsL (l : List Nat) : List D := l.map fun k => D.int (k : Nat)
section
variable {n Q : Nat} {y : Sty} {F : List Nat} {b : Box} {Z : Store} {h : List Page} {p : Page} {g : Nat → Nat → List Nat}
theorem lt_lc {S : Store} {T : Nat} (l : List Nat) (x : Nat) (hT : S[T]? = some (.lst (intsL l))) (hl : l.length ≤ 100) (a0 a1 a2 a3 a4 a5 a6 a7 a8 a11 : Option D) : ltE [a0, a1, a2, a3, a4, a5, a6, a7, a8, some (.ref T), some (.int x), a11] S = .ok (.int ((l.filter fun k => decide (k < x)).length : Nat), S) := by
  have e : lcGo [(T, intsL l)] (.one 11) (tv (eOp ltG (eV 11) (eV 10))) (eV 11) [a0, a1, a2, a3, a4, a5, a6, a7, a8, some (.ref T), some (.int x), none] (intsL l) [] S = .ok (intsL (l.filter fun k => decide (k < x)), S) := by
    rw [lc_keep (still_one hT) (fun d => match d with | .int k => decide (k < (x : Int)) | _ => false) _ (fun d hd => ?_) (by simp)]
    · unfold intsL
      rw [List.filter_map]
      congr 3
      refine List.filter_congr fun k _ => ?_
      show decide ((k : Int) < (x : Int)) = decide (k < x)
      by_cases q : k < x
      · rw [decide_eq_true q, decide_eq_true (by omega)]
      · rw [decide_eq_false q, decide_eq_false (by omega)]
    · obtain ⟨k, _, rfl⟩ := List.mem_map.mp hd
      simp [ltG]
  unfold ltE
  have li : l.length ≤ LIM := le_LIM (by omega)
  have ll : ∀ m : List Nat, (intsL m).length = m.length := fun m => by unfold intsL; simp
  generalize (l.filter fun k => decide (k < x)) = m at e ⊢
  simp [itemsOf, listOf, hT, e, wipeD, newL, lenL, li, ll]
theorem sg_ok {txt : List Nat} {asc : Bool} {j k c T cnt : Nat} (s : SpH (Bx b Z) n y Q (h ++ [pgf p g]) F) (hT : T ∈ F) (gT : (Bx b Z)[T]? = some (.lst (intsL ((List.range j).map (plJ asc txt.length))))) (hg : g k c = ctJ asc txt j)
    (hj : j < txt.length) (ho : okCell txt = true) (hk : k < p.length) (hc : c < cellsIn p k) (hl : h.length < 900) (a0 a2 a3 a8 a11 : Option D) :
    ∃ Z', sgS [a0, some (.ref n), a2, a3, some (.int cnt), some (.int k), some (.int c), some (.str txt), a8, some (.ref T), some (.int (plJ asc txt.length j)), a11] (Bx b Z) = .nx [a0, some (.ref n), a2, a3, some (.int ((cnt + 1 : Nat) : Int)), some (.int k), some (.int c), some (.str txt), a8, some (.ref T), some (.int (plJ asc txt.length j)), a11] (Bx b Z') ∧
      SpH (Bx b Z') n y Q (h ++ [pgf p g] ++ [pgf p (upc g k c (ctJ asc txt (j + 1)))]) F ∧ (Bx b Z')[T]? = some (.lst (intsL ((List.range (j + 1)).map (plJ asc txt.length)))) ∧ (∀ i ob, i ≠ n → i ≠ Q → i ≠ T → (Bx b Z)[i]? = some ob → (Bx b Z')[i]? = some ob) := by
  obtain ⟨L, sh, ok⟩ := s.sht
  obtain ⟨q1, q2, _⟩ := s.Qn
  obtain ⟨o1, o2⟩ := okCell_un ho
  have hpl : plJ asc txt.length j < txt.length := by cases asc <;> simp [plJ] <;> omega
  obtain ⟨x, hx⟩ : ∃ x, txt[plJ asc txt.length j]? = some x := ⟨_, List.getElem?_eq_getElem hpl⟩
  have xo : okSign x = true := o2 x (List.mem_of_getElem? hx)
  have st := ct_step hj hx
  have cl : (g k c).length = j := by rw [hg]; exact ct_le (by omega)
  obtain ⟨z, e1, e2⟩ := pgf_strike (p := p) (g := g) (e := ejJ asc j) hk hc xo (by omega)
  rw [hg, ← st] at e2
  have v : Valid (pgf p g) (k, c, ejJ asc j) := ⟨by show k < (pgf p g).length; rw [pgf_len]; exact hk, by show c < cellsIn _ k; rw [(pgf_row hk).2]; exact hc, by show _ ≤ (cellAt _ k c).length; rw [pgf_cell hk hc, cl]; cases asc <;> simp [ejJ]⟩
  have pa := sh_strike_ok (s := [x]) sh ok v (.inr ⟨x, rfl, xo⟩)
  unfold doneBy at pa
  rw [e1] at pa
  simp only at pa
  have ex := editOf_ok ok (d := .strike k c (ejJ asc j) [x]) ⟨v, .inr ⟨x, rfl, xo⟩⟩ e1
  obtain ⟨G, Z1, t1, t2, t3, t4⟩ := s.deed (by omega) ex
  rw [t1] at pa
  rw [e2] at t2
  obtain ⟨L', ps', q', eh, sh2, _, _, ff⟩ := s
  obtain ⟨f1, f2, f3, f4, f5⟩ := ff T hT
  have gT1 := t3 T _ f3 f4 gT
  have s2 := t2.set hT (.lst (intsL ((List.range (j + 1)).map (plJ asc txt.length))))
  obtain ⟨T, rfl⟩ : ∃ T', T = T' + 2 := ⟨T - 2, by omega⟩
  rw [Bx_set] at s2
  have il : (intsL ((List.range j).map (plJ asc txt.length))).length < LIM := lt_LIM (by unfold intsL; simp; omega)
  have isn : intsL ((List.range (j + 1)).map (plJ asc txt.length)) = intsL ((List.range j).map (plJ asc txt.length)) ++ [.int (plJ asc txt.length j)] := by unfold intsL; rw [List.range_succ]; simp
  have ap : appendG (Bx b Z1) (.ref (T + 2)) [.int (plJ asc txt.length j)] = .ok (.non, Bx b (Z1.set T (.lst (intsL ((List.range (j + 1)).map (plJ asc txt.length)))))) := by
    simp only [appendG, gT1, il, if_true]
    rw [Bx_set, isn]
  have ty : tyM (Bx b Z1) (.ref (T + 2)) = some "list" := by simp only [tyM, gT1]
  have lc := lt_lc _ (plJ asc txt.length j) gT (by simp; omega) a0 (some (.ref n)) a2 a3 (some (.int cnt)) (some (.int k)) (some (.int c)) (some (.str txt)) a8 a11
  rw [lt_filter hj] at lc
  refine ⟨Z1.set T (.lst (intsL ((List.range (j + 1)).map (plJ asc txt.length)))), ?_, s2, ?_, fun i ob h1 h2 h3 e => by rw [← Bx_set]; exact set_keep h3 (t3 i ob h1 h2 e)⟩
  · obtain ⟨_, _, u3, _, _, _⟩ := sh_nam (pgf p g) y L Q
    have hs := sh.sh
    have ix : ∀ st, ixG st (.str txt) (.int (plJ asc txt.length j)) = .ok (.str [x], st) := fun st => by
      have ea : atI txt ((plJ asc txt.length j : Nat) : Int) = some x := by rw [atI_nat]; exact hx
      simp [ixG, ea]
    have ac : ∀ st, addG false st (.int (cnt : Int)) (.int 1) = .ok (.int ((cnt + 1 : Nat) : Int), st) := fun _ => rfl
    unfold sgS
    generalize ltE = le at lc
    generalize shFs (pgf p g) y L Q = FS at u3 hs
    generalize Bx b Z = S at *
    generalize Bx b Z1 = S1 at *
    generalize Bx b (Z1.set T _) = S2 at *
    simp [hs, u3, lc, ix, pa, ty, ap, ac]
  · rw [← Bx_set]; exact set_self gT1
end
end Dl
namespace Dl
open PySem L2
def encK (x : Nat × Nat) : D := .tup [.int (x.1 : Nat), .int (x.2 : Nat)]
def gl (p : Page) (left : List (Nat × Nat)) : Nat → Nat → List Nat := fun k c => if (k, c) ∈ left then [] else cellAt p k c
theorem upc_upc (g : Nat → Nat → List Nat) (k c : Nat) (s t : List Nat) : upc (upc g k c s) k c t = upc g k c t := by
  funext i j
  unfold upc
  by_cases e : i = k ∧ j = c
  · rw [if_pos e, if_pos e]
  · rw [if_neg e, if_neg e, if_neg e]
theorem upc_same {p : Page} {g : Nat → Nat → List Nat} {k c : Nat} {s : List Nat} (h : g k c = s) : pgf p (upc g k c s) = pgf p g := pgf_ext fun i j _ _ => by
  unfold upc
  by_cases e : i = k ∧ j = c
  · rw [if_pos e, e.1, e.2, h]
  · rw [if_neg e]
theorem ctJ_0 (asc : Bool) (s : List Nat) : ctJ asc s 0 = [] := by cases asc <;> simp [ctJ]
theorem ctJ_all (asc : Bool) (s : List Nat) : ctJ asc s s.length = s := by cases asc <;> simp [ctJ]
theorem erase_split {A : Type} {l : List A} {w : Nat} {x : A} (h : l[w]? = some x) : l = l.take w ++ x :: l.drop (w + 1) ∧ l.eraseIdx w = l.take w ++ l.drop (w + 1) := by
  obtain ⟨h1, h2⟩ := List.getElem?_eq_some_iff.mp h
  refine ⟨?_, List.eraseIdx_eq_take_drop_succ _ _⟩
  rw [← h2, ← List.drop_eq_getElem_cons h1, List.take_append_drop]
theorem gl_erase {p : Page} {left : List (Nat × Nat)} {w k c : Nat} (nd : left.Nodup) (h : left[w]? = some (k, c)) : pgf p (upc (gl p left) k c (cellAt p k c)) = pgf p (gl p (left.eraseIdx w)) := by
  obtain ⟨e1, e2⟩ := erase_split h
  have nd' := nd
  rw [e1, List.nodup_append] at nd'
  obtain ⟨n1, n2, n3⟩ := nd'
  have n4 := (List.nodup_cons.mp n2).1
  refine pgf_ext fun i j _ _ => ?_
  unfold upc gl
  by_cases q : i = k ∧ j = c
  · obtain ⟨rfl, rfl⟩ := q
    rw [if_pos ⟨rfl, rfl⟩, if_neg]
    rw [e2]
    intro hm
    rcases List.mem_append.mp hm with hm | hm
    · exact n3 _ hm _ (by simp) rfl
    · exact n4 hm
  · rw [if_neg q]
    have ne : (i, j) ≠ (k, c) := fun z => q ⟨congrArg Prod.fst z, congrArg Prod.snd z⟩
    have : (i, j) ∈ left ↔ (i, j) ∈ left.eraseIdx w := by
      rw [e2]
      constructor
      · intro hm
        rw [e1] at hm
        rcases List.mem_append.mp hm with hm | hm
        · exact List.mem_append_left _ hm
        · rcases List.mem_cons.mp hm with hm | hm
          · exact absurd hm ne
          · exact List.mem_append_right _ hm
      · intro hm
        rw [e1]
        rcases List.mem_append.mp hm with hm | hm
        · exact List.mem_append_left _ hm
        · exact List.mem_append_right _ (List.mem_cons_of_mem _ hm)
    by_cases m : (i, j) ∈ left
    · rw [if_pos m, if_pos (this.mp m)]
    · rw [if_neg m, if_neg fun z => m (this.mpr z)]
section
variable {n Q P cnt : Nat} {y : Sty} {b : Box} {Z : Store} {p : Page} {H0 : List Page} {left : List (Nat × Nat)}
/-- cells left to be typed -/
structure W13 (b : Box) (Z : Store) (n : Nat) (y : Sty) (Q P : Nat) (p : Page) (H0 : List Page) (cnt : Nat) (left : List (Nat × Nat)) : Prop where
  sp : ∃ h, SpH (Bx b Z) n y Q (h ++ [pgf p (gl p left)]) [P] ∧ ∃ ext, h ++ [pgf p (gl p left)] = H0 ++ ext ∧ ext.length = cnt
  lf : (Bx b Z)[P]? = some (.lst (left.map encK))
  pg : (Bx b Z)[2]? = some (.lst (encP p))
  nd : left.Nodup
  al : ∀ x ∈ left, x.1 < p.length ∧ x.2 < cellsIn p x.1
  P2 : 2 < P
theorem ce_ok (hp : okPage p = true) (W : W13 b Z n y Q P p H0 cnt left) (hne : left ≠ []) (hl : H0.length + cnt < 800) (hl2 : left.length ≤ 100) (a5 a6 a7 a8 a9 a10 a11 : Option D) :
    ∃ (b' : Box) (Z' : Store) (cnt' : Nat) (left' : List (Nat × Nat)) (a5' a6' a7' a8' a9' a10' : Option D), ceS [some (.ref 1), some (.ref n), some (.ref 2), some (.ref P), some (.int cnt), a5, a6, a7, a8, a9, a10, a11] (Bx b Z) = .nx [some (.ref 1), some (.ref n), some (.ref 2), some (.ref P), some (.int cnt'), a5', a6', a7', a8', a9', a10', a11] (Bx b' Z') ∧
      W13 b' Z' n y Q P p H0 cnt' left' ∧ left'.length + 1 = left.length ∧ cnt' ≤ cnt + 10 := by
  have lp : 0 < left.length := List.length_pos_iff.mpr hne
  have ln : lenG (Bx b Z) [.ref P] = .ok (.int (left.length : Nat), Bx b Z) := by
    simp [lenG, lstOf, W.lf]
  have t0 := take_eq b Z (left.length : Nat) (by omega) (by omega)
  have w0 := tk_lo b (n := (left.length : Int)) (by omega)
  have w1 := tk_hi b (n := (left.length : Int)) (by omega)
  generalize tk b (left.length : Int) = pr at t0 w0 w1
  obtain ⟨w, b2⟩ := pr
  simp only at t0 w0 w1
  obtain ⟨w, rfl⟩ := Int.eq_ofNat_of_zero_le w0
  have hw : w < left.length := by omega
  obtain ⟨⟨k, c⟩, hx⟩ : ∃ x, left[w]? = some x := ⟨_, List.getElem?_eq_getElem hw⟩
  obtain ⟨hk, hc⟩ := W.al _ (List.mem_of_getElem? hx)
  simp only at hk hc
  have P2 := W.P2
  obtain ⟨P, rfl⟩ : ∃ P', P = P' + 2 := ⟨P - 2, by omega⟩
  obtain ⟨Z1, hZ1⟩ : ∃ Z1, Z1 = Z.set P (.lst ((left.eraseIdx w).map encK)) := ⟨_, rfl⟩
  have lf2 : (Bx b2 Z)[P + 2]? = some (.lst (left.map encK)) := by have := W.lf; rw [Bx_get] at this ⊢; exact this
  have pp : popG (Bx b2 Z) (.ref (P + 2)) [.int (w : Nat)] = .ok (encK (k, c), Bx b2 Z1) := by
    have e1 : ixN (left.map encK).length (w : Int) = some w := by unfold ixN; simp; omega
    have e2 : (left.map encK)[w]? = some (encK (k, c)) := by rw [List.getElem?_map, hx]; rfl
    have e3 : -1000000 ≤ (w : Int) ∧ (w : Int) ≤ 1000000 := by omega
    have e4 : (left.map encK).eraseIdx w = (left.eraseIdx w).map encK := by
      rw [List.eraseIdx_eq_take_drop_succ, List.eraseIdx_eq_take_drop_succ]; simp
    simp only [popG, lf2, e1, e2, if_pos e3, e4]
    rw [Bx_set, ← hZ1]
  have ty : tyM (Bx b Z) (.ref (P + 2)) = some "list" := by simp only [tyM, W.lf]
  obtain ⟨h, s, ext, he, hel⟩ := W.sp
  have s1 : SpH (Bx b2 Z1) n y Q (h ++ [pgf p (gl p left)]) [P + 2] := by
    have := (s.bx (b' := b2)).set (P := P + 2) (by simp) (.lst ((left.eraseIdx w).map encK))
    rwa [Bx_set, ← hZ1] at this
  have lf1 : (Bx b2 Z1)[P + 2]? = some (.lst ((left.eraseIdx w).map encK)) := by rw [hZ1, ← Bx_set]; exact set_self lf2
  have pg1 : (Bx b2 Z1)[2]? = some (.lst (encP p)) := by rw [hZ1, ← Bx_set]; exact set_keep (by omega) W.pg
  -- the text
  obtain ⟨txt, ht⟩ : ∃ txt, txt = cellAt p k c := ⟨_, rfl⟩
  have to := cellAt_ok hp hk hc
  rw [← ht] at to
  have tl := (okCell_un to).1
  have r1 := lix_row (S := Bx b2 Z1) (d := .ref 2) (p := p) (w := [(2, encP p)]) (by simp only [listOf, pg1]) hk
  have r2 : ∀ S, ixG S (encR (rowAt p k)) (.int c) = .ok (.str txt, S) := fun S => by
    have := cellIx (S := S) (r := rowAt p k) (c := c) (by rw [(rowAt_ok hp hk).2.1]; exact hc)
    rw [this, ht]; rfl
  unfold ceS
  rw [sCons_nx (e := [some (.ref 1), some (.ref n), some (.ref 2), some (.ref (P + 2)), some (.int cnt), some (.int k), some (.int c), a7, a8, a9, a10, a11]) (s := Bx b2 Z1) (by
    generalize Bx b Z = S at *
    generalize Bx b2 Z = S' at *
    generalize Bx b2 Z1 = S'' at *
    have tyS : tyM S' (.ref (P + 2)) = some "list" := by simp only [tyM, lf2]
    simp [ln, t0, ty, tyS, pp, encK])]
  rw [sCons_nx (sAsgN_at (x := .str txt) (sx := Bx b2 Z1) (by
    generalize Bx b2 Z1 = S'' at *
    generalize rowAt p k = rr at r1 r2
    simp [r1, r2, -ix_lst]))]
  simp only [List.set_cons_succ, List.set_cons_zero]
  -- the order
  have t2 := take_eq b2 Z1 2 (by decide) (by decide)
  have v0 := tk_lo b2 (n := 2) (by decide)
  have v1 := tk_hi b2 (n := 2) (by decide)
  generalize tk b2 2 = pr at t2 v0 v1
  obtain ⟨v, b3⟩ := pr
  simp only at t2 v0 v1
  have oD : ∃ asc : Bool, ∀ S, ixG S (.lst [.lst (intsD 0 txt.length), .lst (intsD 0 txt.length).reverse]) (.int v) = .ok (.lst (intsL ((List.range txt.length).map (plJ asc txt.length))), S) := by
    have e0 : intsD 0 txt.length = intsL (List.range txt.length) := by
      rw [ints_every]; unfold everyN intsL; rw [List.map_map]; rfl
    have : v = 0 ∨ v = 1 := by omega
    rcases this with rfl | rfl
    · refine ⟨true, fun S => ?_⟩
      have : (List.range txt.length).map (plJ true txt.length) = List.range txt.length := by
        have : plJ true txt.length = id := by funext j; simp [plJ]
        rw [this, List.map_id]
      rw [this, ← e0]
      simp [ixG, lstOf]
    · refine ⟨false, fun S => ?_⟩
      have : (List.range txt.length).map (plJ false txt.length) = (List.range txt.length).reverse := by
        rw [List.range_eq_range', List.reverse_range', List.range_eq_range'.symm]
        refine List.map_congr_left fun j _ => ?_
        simp [plJ]
      rw [this, e0]
      simp [ixG, lstOf, intsL]
  obtain ⟨asc, oD⟩ := oD
  have lt : ∀ S, lenG S [.str txt] = .ok (.int (txt.length : Nat), S) := fun S => rfl
  have rt : -1000000 ≤ (txt.length : Int) ∧ (txt.length : Int) ≤ 1000000 := by omega
  rw [sCons_nx (sAsgN_at (x := .lst (intsL ((List.range txt.length).map (plJ asc txt.length)))) (sx := Bx b3 Z1) (by
    have lm : (intsD 0 txt.length).length ≤ LIM := le_LIM (by rw [intsD_len]; omega)
    have two : (2 : Nat) ≤ LIM := by decide
    generalize Bx b2 Z1 = S1 at *
    generalize Bx b3 Z1 = S2 at *
    generalize hI : intsD 0 txt.length = I at *
    simp [lt, rt, hI, lm, newL, eLR, eRevL, lstOf, two, t2, oD]))]
  simp only [List.set_cons_succ, List.set_cons_zero]
  have s2 : SpH (Bx b3 Z1) n y Q (h ++ [pgf p (gl p left)]) [P + 2] := s1.bx
  have s3 := s2.fresh (.lst [])
  obtain ⟨T, hT⟩ : ∃ T, T = (Bx b3 Z1).length := ⟨_, rfl⟩
  rw [← hT, Bx_app] at s3
  have lf3 : (Bx b3 (Z1 ++ [.lst []]))[P + 2]? = some (.lst ((left.eraseIdx w).map encK)) := by
    rw [← Bx_app]; exact get_app (by have := lf1; rw [Bx_get] at this ⊢; exact this)
  have pg3 : (Bx b3 (Z1 ++ [.lst []]))[2]? = some (.lst (encP p)) := by
    rw [← Bx_app]; exact get_app pg1
  have gT : (Bx b3 (Z1 ++ [.lst []]))[T]? = some (.lst (intsL [])) := by rw [← Bx_app, hT]; simp [intsL]
  have PT : P + 2 < T := by rw [hT]; exact (List.getElem?_eq_some_iff.mp lf1).1
  rw [sCons_nx (sAsgN_at (x := .ref T) (sx := Bx b3 (Z1 ++ [.lst []])) (by rw [hT]; simp [newL]))]
  simp only [List.set_cons_succ, List.set_cons_zero]
  generalize Z1 ++ [Ob.lst []] = Z3 at *
  -- the signs
  have g0 : gl p left k c = [] := by unfold gl; rw [if_pos (List.mem_of_getElem? hx)]
  have eF : sFor (iSeq (eV 8)) (gN 10) sgS [some (.ref 1), some (.ref n), some (.ref 2), some (.ref (P + 2)), some (.int cnt), some (.int k), some (.int c), some (.str txt), some (.lst (intsL ((List.range txt.length).map (plJ asc txt.length)))), some (.ref T), a10, a11] (Bx b3 Z3) = forGo [] (gN 10) sgS (intsL ((List.range txt.length).map (plJ asc txt.length))) [some (.ref 1), some (.ref n), some (.ref 2), some (.ref (P + 2)), some (.int cnt), some (.int k), some (.int c), some (.str txt), some (.lst (intsL ((List.range txt.length).map (plJ asc txt.length)))), some (.ref T), a10, a11] (Bx b3 Z3) := by
    generalize sgS = body
    simp [itemsOf]
  rw [eF]
  obtain ⟨q1, q2, _⟩ := s3.Qn
  have q3 : P + 2 ≠ n ∧ P + 2 ≠ Q := by
    obtain ⟨_, _, _, _, _, _, _, ff⟩ := s3
    obtain ⟨_, _, f3, f4, _⟩ := ff (P + 2) (by simp)
    exact ⟨f3, f4⟩
  generalize hf : forGo _ _ _ _ _ _ = r
  obtain ⟨e, s', rfl, Z4, h4, rfl, j1, j2, ext4, j3, j4, j5, j6, a10', rfl⟩ := for_at hf (fun j env st' => ∃ Z4 h4, st' = Bx b3 Z4 ∧ SpH (Bx b3 Z4) n y Q (h4 ++ [pgf p (upc (gl p left) k c (ctJ asc txt j))]) [T, P + 2] ∧ (Bx b3 Z4)[T]? = some (.lst (intsL ((List.range j).map (plJ asc txt.length)))) ∧ ∃ ext4, h4 ++ [pgf p (upc (gl p left) k c (ctJ asc txt j))] = H0 ++ ext4 ∧ ext4.length = cnt + j ∧
      (Bx b3 Z4)[P + 2]? = some (.lst ((left.eraseIdx w).map encK)) ∧ (Bx b3 Z4)[2]? = some (.lst (encP p)) ∧ ∃ a10, env = [some (.ref 1), some (.ref n), some (.ref 2), some (.ref (P + 2)), some (.int ((cnt + j : Nat) : Int)), some (.int k), some (.int c), some (.str txt), some (.lst (intsL ((List.range txt.length).map (plJ asc txt.length)))), some (.ref T), a10, a11])
    ⟨Z3, h, rfl, by rw [ctJ_0, upc_same g0]; exact s3, gT, ext, by rw [ctJ_0, upc_same g0]; exact he, hel, lf3, pg3, a10, rfl⟩ (fun _ _ _ _ _ => rfl) (fun j x env st' hj ⟨Z4, h4, e1, j1, j2, ext4, j3, j4, j5, j6, a10', e2⟩ => by
      subst e1 e2
      have hj' : j < txt.length := by
        have := (List.getElem?_eq_some_iff.mp hj).1
        unfold intsL at this; simpa using this
      have ex : x = .int (plJ asc txt.length j : Nat) := by
        unfold intsL at hj
        rw [List.getElem?_map, List.getElem?_map, List.getElem?_range hj'] at hj
        simpa using hj.symm
      subst ex
      rw [r_gN]
      simp only [sOf_m, List.set_cons_succ, List.set_cons_zero]
      have hll : h4.length < 900 := by
        have := congrArg List.length j3
        simp at this; omega
      obtain ⟨Z', k1, k2, k3, k4⟩ := sg_ok (cnt := cnt + j) (T := T) (k := k) (c := c) j1 (by simp) j2 (by unfold upc; simp) hj' to hk hc hll (some (.ref 1)) (some (.ref 2)) (some (.ref (P + 2))) (some (.lst (intsL ((List.range txt.length).map (plJ asc txt.length))))) a11
      rw [upc_upc] at k2
      refine turn_eq k1 ⟨Z', _, rfl, k2, k3, ext4 ++ [pgf p (upc (gl p left) k c (ctJ asc txt (j + 1)))], by rw [j3, List.append_assoc], by simp; omega, k4 _ _ q3.1 q3.2 (by omega) j5, k4 _ _ (by omega) (by omega) (by omega) j6, _, rfl⟩)
  have ll : (intsL ((List.range txt.length).map (plJ asc txt.length))).length = txt.length := by unfold intsL; simp
  rw [ll] at j1 j3 j4
  rw [ctJ_all, ht, gl_erase W.nd hx] at j1 j3
  obtain ⟨e1, e2⟩ := erase_split hx
  have nd : (left.eraseIdx w).Nodup := W.nd.sublist (List.eraseIdx_sublist _ _)
  refine ⟨b3, Z4, cnt + txt.length, left.eraseIdx w, some (.int k), some (.int c), some (.str txt), some (.lst (intsL ((List.range txt.length).map (plJ asc txt.length)))), some (.ref T), a10', by rw [ll], ⟨⟨h4, j1.less (by simp), ext4, j3, j4⟩, j5, j6, nd, fun x hx => W.al x ((List.eraseIdx_sublist left w).subset hx), P2⟩, ?_, by omega⟩
  rw [List.length_eraseIdx, if_pos hw]; omega
end
end Dl
namespace Dl
open PySem L2
theorem while_yes' {t : TV} {b : SV} {env e : Env} {st st1 s : Store} {P : Env → Store → Prop} {Q : Store → Prop} (h1 : t env st = .ok (true, st1)) (h2 : b env st1 = .nx e s) (h3 : P e s) : (t env st).to fun c st1 => if c = true then (b env st1).turn P else Q st1 := by
  rw [h1]
  simp only [to_ok, if_true]
  exact turn_eq h2 h3
theorem while_no' {t : TV} {b : SV} {env : Env} {st st1 : Store} {P : Env → Store → Prop} {Q : Store → Prop} (h1 : t env st = .ok (false, st1)) (h3 : Q st1) : (t env st).to fun c st1 => if c = true then (b env st1).turn P else Q st1 := by
  rw [h1]
  simpa using h3
def posR (p : Page) (k : Nat) : List (Nat × Nat) := (List.range (cellsIn p k)).map fun c => (k, c)
def posL (p : Page) : Nat → List (Nat × Nat)
  | 0 => []
  | i + 1 => posL p i ++ posR p i
section
variable {p : Page}
theorem posL_mem {x : Nat × Nat} : ∀ {i : Nat}, x ∈ posL p i ↔ x.1 < i ∧ x.2 < cellsIn p x.1
  | 0 => by simp [posL]
  | i + 1 => by
    unfold posL
    rw [List.mem_append, posL_mem (i := i)]
    unfold posR
    rw [List.mem_map]
    constructor
    · rintro (⟨h1, h2⟩ | ⟨c, hc, rfl⟩)
      · exact ⟨by omega, h2⟩
      · exact ⟨by simp, by simpa using hc⟩
    · rintro ⟨h1, h2⟩
      by_cases e : x.1 = i
      · exact .inr ⟨x.2, by rw [← e]; simpa using h2, by rw [← e]⟩
      · exact .inl ⟨by omega, h2⟩
theorem posR_nd (k : Nat) : (posR p k).Nodup := by
  unfold posR List.Nodup
  rw [List.pairwise_map]
  exact (List.nodup_range (n := cellsIn p k)).imp fun h e => h (congrArg Prod.snd e)
theorem posL_nd : ∀ i, (posL p i).Nodup
  | 0 => by simp [posL]
  | i + 1 => by
    unfold posL
    rw [List.nodup_append]
    refine ⟨posL_nd i, posR_nd i, fun a ha b hb e => ?_⟩
    subst e
    have h1 := (posL_mem.mp ha).1
    unfold posR at hb
    obtain ⟨c, _, rfl⟩ := List.mem_map.mp hb
    simp at h1
theorem posL_len (hp : okPage p = true) : ∀ i, i ≤ p.length → (posL p i).length ≤ 6 * i
  | 0, _ => by simp [posL]
  | i + 1, h => by
    have := posL_len hp i (by omega)
    have c := (cellsIn_le hp (k := i) (by omega)).2
    unfold posL posR
    simp; omega
theorem posL_gl : pgf p (gl p (posL p p.length)) = bl (p.map List.length) := by
  rw [← pgf_nil]
  refine pgf_ext fun k c hk hc => ?_
  unfold gl
  rw [if_pos (posL_mem.mpr ⟨hk, hc⟩)]
theorem gl_nil : pgf p (gl p []) = p := by
  have : gl p [] = cellAt p := by funext k c; simp [gl]
  rw [this, pgf_self]
theorem encK_pl : ∀ l : List (Nat × Nat), D.pl (.lst (l.map encK)) = true ∧ D.dp (.lst (l.map encK)) ≤ 5
  | [] => ⟨rfl, by simp⟩
  | x :: l => by
    obtain ⟨h1, h2⟩ := encK_pl l
    refine ⟨by show (D.pl (encK x) && D.pls (l.map encK)) = true; rw [show D.pls (l.map encK) = true from h1]; rfl, ?_⟩
    rw [dp_lst] at h2 ⊢
    have e : D.dps ((x :: l).map encK) = max (D.dp (encK x)) (D.dps (l.map encK)) := rfl
    have e2 : D.dp (encK x) ≤ 3 := by unfold encK; simp
    omega
section
variable {n Q : Nat} {y : Sty} {b : Box} {Z : Store} {h : List Page}
theorem typed_ok (hp : okPage p = true) (h8 : p.length ≤ 8) (s : SpH (Bx b Z) n y Q (h ++ [bl (p.map List.length)]) []) (pg : (Bx b Z)[2]? = some (.lst (encP p))) (hl : h.length ≤ 47) :
    ∃ b' Z' ext h', m_law_typed [.ref 1, .ref n, .ref 2] (Bx b Z) = .ok (.int (ext.length : Nat), Bx b' Z') ∧ SpH (Bx b' Z') n y Q (h' ++ [p]) [] ∧ h' ++ [p] = h ++ [bl (p.map List.length)] ++ ext ∧ ext.length ≤ 480 ∧ (Bx b' Z')[2]? = some (.lst (encP p)) := by
  have p1 := (okPage_parts hp).1
  unfold m_law_typed funD
  rw [typed_eq]
  have hstart : (List.map some [D.ref 1, .ref n, .ref 2] ++ List.replicate (12 - [D.ref 1, .ref n, .ref 2].length) none : Env) = [some (.ref 1), some (.ref n), some (.ref 2), none, none, none, none, none, none, none, none, none] := rfl
  rw [hstart]
  obtain ⟨P, hP⟩ : ∃ P, P = (Bx b Z).length := ⟨_, rfl⟩
  have a1 : sPar 3 4 (aCons (eLst true (aNil)) (aCons (eC (.int 0)) (aNil))) [some (.ref 1), some (.ref n), some (.ref 2), none, none, none, none, none, none, none, none, none] (Bx b Z) = .nx [some (.ref 1), some (.ref n), some (.ref 2), some (.ref P), some (.int 0), none, none, none, none, none, none, none] (Bx b (Z ++ [.lst []])) := by
    rw [hP]; simp [newL]
  rw [sCons_nx a1]
  have s1 := s.fresh (.lst [])
  rw [← hP, Bx_app] at s1
  have pg1 : (Bx b (Z ++ [.lst []]))[2]? = some (.lst (encP p)) := by rw [← Bx_app]; exact get_app pg
  have lf1 : (Bx b (Z ++ [.lst []]))[P]? = some (.lst ((posL p 0).map encK)) := by rw [← Bx_app, hP]; simp [posL]
  have P2 : 2 < P := by rw [hP]; exact (List.getElem?_eq_some_iff.mp pg).1
  generalize Z ++ [Ob.lst []] = Z0 at s1 pg1 lf1
  clear a1 hP
  have ln : ∀ {S : Store}, S[2]? = some (.lst (encP p)) → lenG S [.ref 2] = .ok (.int (p.length : Nat), S) := fun {S} e => by
    have := len_list (show listOf S (.ref 2) = some (encP p, [(2, encP p)]) by simp only [listOf, e])
    rw [encP_len] at this; exact this
  have l0 := ln pg1
  have r1 : -1000000 ≤ ((p.length : Nat) : Int) ∧ ((p.length : Nat) : Int) ≤ 1000000 := by omega
  obtain ⟨Z1, P1, c5, s2, lf2, pg2, P3, el⟩ : ∃ Z1 P1 c5, SpH (Bx b Z1) n y Q (h ++ [bl (p.map List.length)]) [P1] ∧ (Bx b Z1)[P1]? = some (.lst ((posL p p.length).map encK)) ∧ (Bx b Z1)[2]? = some (.lst (encP p)) ∧ 2 < P1 ∧ sFor (iR1 (aCons (eB lenG (aCons (eV 2) (aNil))) (aNil))) (gN 5) (sAsg (eOp (addG true) (eV 3) (eLc false (iR1 (aCons (eB lenG (aCons (eOp ixG (eV 2) (eV 5)) (aNil))) (aNil))) [6] (.one 6) (tYesD) (eTup (aCons (eV 5) (aCons (eV 6) (aNil)))))) (gN 3)) [some (.ref 1), some (.ref n), some (.ref 2), some (.ref P), some (.int 0), none, none, none, none, none, none, none] (Bx b Z0) = .nx [some (.ref 1), some (.ref n), some (.ref 2), some (.ref P1), some (.int 0), c5, none, none, none, none, none, none] (Bx b Z1) := by
    have eF : ∀ body, sFor (iR1 (aCons (eB lenG (aCons (eV 2) (aNil))) (aNil))) (gN 5) body [some (.ref 1), some (.ref n), some (.ref 2), some (.ref P), some (.int 0), none, none, none, none, none, none, none] (Bx b Z0) = forGo [] (gN 5) body (intsD 0 p.length) [some (.ref 1), some (.ref n), some (.ref 2), some (.ref P), some (.int 0), none, none, none, none, none, none, none] (Bx b Z0) := fun body => by
      generalize Bx b Z0 = S at l0 ⊢
      simp [l0, r1]
    rw [eF]
    generalize hf : forGo _ _ _ _ _ _ = r
    obtain ⟨e, s', rfl, Z1, P1, rfl, j1, j2, j3, j4, c5, rfl⟩ := for_at hf (fun i env st' => ∃ Z1 P1, st' = Bx b Z1 ∧ SpH (Bx b Z1) n y Q (h ++ [bl (p.map List.length)]) [P1] ∧ (Bx b Z1)[P1]? = some (.lst ((posL p i).map encK)) ∧ (Bx b Z1)[2]? = some (.lst (encP p)) ∧ 2 < P1 ∧ ∃ c5, env = [some (.ref 1), some (.ref n), some (.ref 2), some (.ref P1), some (.int 0), c5, none, none, none, none, none, none])
      ⟨Z0, P, rfl, s1, lf1, pg1, P2, none, rfl⟩ (fun _ _ _ _ _ => rfl) (fun i x env st' hi ⟨Z1, P1, e1, j1, j2, j3, j4, c5, e2⟩ => by
        subst e1 e2
        obtain ⟨hi', rfl⟩ := ints_get hi
        rw [r_gN]
        simp only [sOf_m, List.set_cons_succ, List.set_cons_zero]
        have cl := cellsIn_le hp hi'
        have ix := lix_row (S := Bx b Z1) (d := .ref 2) (p := p) (w := [(2, encP p)]) (by simp only [listOf, j3]) hi'
        have lr : ∀ st, lenG st [encR (rowAt p i)] = .ok (.int (cellsIn p i), st) := fun st => by
          show R.ok (D.int (((rowAt p i).map D.str).length : Nat), st) = _
          rw [List.length_map, (rowAt_ok hp hi').2.1]
        have rc : -1000000 ≤ ((cellsIn p i : Nat) : Int) ∧ ((cellsIn p i : Nat) : Int) ≤ 1000000 := by omega
        have lc : lcGo [] (.one 6) tYesD (eTup (aCons (eV 5) (aCons (eV 6) (aNil)))) [some (.ref 1), some (.ref n), some (.ref 2), some (.ref P1), some (.int 0), some (.int (i : Nat)), none, none, none, none, none, none] (intsD 0 (cellsIn p i)) [] (Bx b Z1) = .ok ((posR p i).map encK, Bx b Z1) := by
          have := lc_pure (t := .one 6) (te := eTup (aCons (eV 5) (aCons (eV 6) (aNil)))) (env := [some (.ref 1), some (.ref n), some (.ref 2), some (.ref P1), some (.int 0), some (.int (i : Nat)), none, none, none, none, none, none]) (tt := tYesD) (still_nil (Bx b Z1)) (fun _ => true) (fun d => .tup [.int (i : Nat), d]) (intsD 0 (cellsIn p i)) [] fun d hd => ⟨_, rfl, by simp, fun _ => by simp⟩
          have ft : ∀ l : List D, l.filter (fun _ => true) = l := fun l => List.filter_eq_self.mpr (by simp)
          rw [this, ft, ints_every]; unfold posR everyN encK
          simp [Function.comp_def, encO]
        have ll := posL_len hp i (by omega)
        have lrr : (posR p i).length = cellsIn p i := by unfold posR; simp
        have lim : (posL p i).length + (posR p i).length ≤ LIM := le_LIM (by omega)
        have lim2 : cellsIn p i ≤ LIM := le_LIM (by omega)
        have ad : addG true (Bx b Z1) (.ref P1) (.lst ((posR p i).map encK)) = .ok (.ref (Bx b Z1).length, Bx b Z1 ++ [.lst ((posL p (i + 1)).map encK)]) := by
          rw [addL (by simp) (by simp) (by simp)]
          simp [lstOf, j2, lim, newL, posL]
        have s' := j1.fresh (.lst ((posL p (i + 1)).map encK))
        have g2 : (Bx b Z1 ++ [.lst ((posL p (i + 1)).map encK)])[2]? = some (.lst (encP p)) := get_app j3
        have gP : (Bx b Z1 ++ [.lst ((posL p (i + 1)).map encK)])[(Bx b Z1).length]? = some (.lst ((posL p (i + 1)).map encK)) := by simp
        have lgt : 2 < (Bx b Z1).length := (List.getElem?_eq_some_iff.mp j3).1
        obtain ⟨P4, hP4⟩ : ∃ P4, P4 = (Bx b Z1).length := ⟨_, rfl⟩
        rw [← hP4] at ad s' gP lgt
        rw [Bx_app] at ad s' g2 gP
        generalize Z1 ++ [Ob.lst ((posL p (i + 1)).map encK)] = Z5 at ad s' g2 gP
        have sa : sAsg (eOp (addG true) (eV 3) (eLc false (iR1 (aCons (eB lenG (aCons (eOp ixG (eV 2) (eV 5)) (aNil))) (aNil))) [6] (.one 6) (tYesD) (eTup (aCons (eV 5) (aCons (eV 6) (aNil)))))) (gN 3) [some (.ref 1), some (.ref n), some (.ref 2), some (.ref P1), some (.int 0), some (.int (i : Nat)), none, none, none, none, none, none] (Bx b Z1) = .nx [some (.ref 1), some (.ref n), some (.ref 2), some (.ref P4), some (.int 0), some (.int (i : Nat)), none, none, none, none, none, none] (Bx b Z5) := by
          refine sAsgN_at ?_
          generalize rowAt p i = rr at ix lr
          generalize Bx b Z1 = S at *
          generalize Bx b Z5 = S5 at *
          simp [ix, lr, rc, lc, newL, lim2, wipeD, ad, -ix_lst]
        exact turn_eq sa ⟨Z5, P4, rfl, s'.less (by simp), gP, g2, lgt, _, rfl⟩)
    rw [intsD_len] at j2
    exact ⟨Z1, P1, c5, j1, j2, j3, j4, rfl⟩
  rw [sCons_nx el]
  clear el
  have lL := posL_len hp p.length (Nat.le_refl _)
  have W0 : W13 b Z1 n y Q P1 p (h ++ [bl (p.map List.length)]) 0 (posL p p.length) := ⟨⟨h, by rw [posL_gl]; exact s2, [], by rw [posL_gl]; simp, rfl⟩, lf2, pg2, posL_nd _, fun x hx => posL_mem.mp hx, P3⟩
  have hfu : (posL p p.length).length < 100000 := by omega
  obtain ⟨e, s', hwe, b', Z', cnt, W, hb, c5', c6', c7', c8', c9', c10', rfl, rfl⟩ := while_go (t := tv (eOp (eqG true) (eV 3) (eLst false (aNil)))) (b := ceS) (fuel := 100000) (env := [some (.ref 1), some (.ref n), some (.ref 2), some (.ref P1), some (.int 0), c5, none, none, none, none, none, none]) (st := Bx b Z1) rfl (fun m env st => ∃ b' Z' cnt left, W13 b' Z' n y Q P1 p (h ++ [bl (p.map List.length)]) cnt left ∧ m = left.length ∧ cnt + 10 * left.length ≤ 480 ∧ ∃ c5 c6 c7 c8 c9 c10, st = Bx b' Z' ∧ env = [some (.ref 1), some (.ref n), some (.ref 2), some (.ref P1), some (.int (cnt : Nat)), c5, c6, c7, c8, c9, c10, none])
    (fun env st => ∃ b' Z' cnt, W13 b' Z' n y Q P1 p (h ++ [bl (p.map List.length)]) cnt [] ∧ cnt ≤ 480 ∧ ∃ c5 c6 c7 c8 c9 c10, st = Bx b' Z' ∧ env = [some (.ref 1), some (.ref n), some (.ref 2), some (.ref P1), some (.int (cnt : Nat)), c5, c6, c7, c8, c9, c10, none])
    (n := (posL p p.length).length) hfu ⟨b, Z1, 0, _, W0, rfl, by omega, c5, none, none, none, none, none, rfl, rfl⟩ (fun m env st ⟨b', Z', cnt, left, W, hm, hb, c5, c6, c7, c8, c9, c10, e1, e2⟩ => by
      subst e1 e2
      obtain ⟨k1, k2⟩ := encK_pl left
      have te : eqG true (Bx b' Z') (.ref P1) (.lst []) = .ok (.bl (!decide (left = [])), Bx b' Z') := by
        rw [eqG_refL W.lf, eqG_pl k1 rfl (by omega) (by simp)]
        simp
      by_cases hne : left = []
      · subst hne
        refine while_no' (st1 := Bx b' Z') ?_ ⟨b', Z', cnt, W, by simpa using hb, _, _, _, _, _, _, rfl, rfl⟩
        generalize Bx b' Z' = S at te ⊢
        simp [te, newL]
      · obtain ⟨b2, Z2, cnt2, left2, a5, a6, a7, a8, a9, a10, e, W2, hl2, hc2⟩ := ce_ok hp W hne (by simp; omega) (by omega) c5 c6 c7 c8 c9 c10 none
        refine while_yes' (st1 := Bx b' Z') ?_ e ⟨left2.length, by omega, b2, Z2, cnt2, left2, W2, rfl, by omega, _, _, _, _, _, _, rfl, rfl⟩
        generalize Bx b' Z' = S at te ⊢
        simp [te, hne, newL])
  rw [sCons_nx hwe]
  obtain ⟨h', sp, ext, he, hel⟩ := W.sp
  rw [gl_nil] at sp he
  refine ⟨b', Z', ext, h', by rw [hel]; simp, sp.less (by simp), he, by omega, W.pg⟩
end
end
end Dl
namespace Dl
open PySem L2
def nR (r : Row) : Nat := r.length + (r.map List.length).sum
def nP (p : Page) : Nat := (p.map nR).sum
def endP (p : Page) : Pos3 := (p.length - 1, cellsIn p (p.length - 1) - 1, (cellAt p (p.length - 1) (cellsIn p (p.length - 1) - 1)).length)
theorem last_row (ps : Page) (r : Row) : rowAt (ps ++ [r]) ps.length = r := by unfold rowAt; rw [List.getD_eq_getElem?_getD]; simp
theorem last_in (ps : Page) (r : Row) : cellsIn (ps ++ [r]) ps.length = r.length := by
  show (rowAt (ps ++ [r]) ps.length).length = _
  rw [last_row]
theorem last_cell (ps : Page) (cs : Row) (s : List Nat) : cellAt (ps ++ [cs ++ [s]]) ps.length cs.length = s := by
  show (rowAt (ps ++ [cs ++ [s]]) ps.length).getD cs.length [] = s
  rw [last_row, List.getD_eq_getElem?_getD]; simp
theorem endP_eq (ps : Page) (cs : Row) (s : List Nat) : endP (ps ++ [cs ++ [s]]) = (ps.length, cs.length, s.length) := by
  unfold endP
  have e : (ps ++ [cs ++ [s]]).length - 1 = ps.length := by simp
  rw [e, last_in]
  have e2 : (cs ++ [s]).length - 1 = cs.length := by simp
  rw [e2, last_cell]
theorem nP_snoc (ps : Page) (r : Row) : nP (ps ++ [r]) = nP ps + nR r := by unfold nP; simp
theorem nR_snoc (cs : Row) (s : List Nat) : nR (cs ++ [s]) = nR cs + 1 + s.length := by unfold nR; simp; omega
theorem spl_last {A : Type} (l : List A) (a b : A) : spl (l ++ [a]) l.length [b] (l.length + 1) = l ++ [b] := by
  unfold spl
  rw [List.drop_of_length_le (by simp)]; simp
theorem spl_last2 {A : Type} (l : List A) (a a' b : A) : spl (l ++ [a] ++ [a']) l.length [b] (l.length + 2) = l ++ [b] := by
  unfold spl
  rw [List.drop_of_length_le (by simp)]; simp
theorem snoc_of {A : Type} {l : List A} (h : l ≠ []) : ∃ l' a, l = l' ++ [a] := ⟨l.dropLast, l.getLast h, (List.dropLast_concat_getLast h).symm⟩
theorem page_snoc {p : Page} (hp : okPage p = true) : ∃ ps cs s, p = ps ++ [cs ++ [s]] := by
  obtain ⟨p1, p2, p3⟩ := okPage_parts hp
  obtain ⟨ps, r, rfl⟩ := snoc_of (l := p) (fun e => by rw [e] at p1; simp at p1)
  have hk := cellsIn_le hp (k := ps.length) (by simp)
  rw [last_in] at hk
  obtain ⟨cs, s, rfl⟩ := snoc_of (l := r) (fun e => by rw [e] at hk; simp at hk)
  exact ⟨ps, cs, s, rfl⟩
theorem rub_end {p : Page} (hp : okPage p = true) (hn : 1 < nP p) : ∃ d x, rbD p (endP p) = some d ∧ editOf p d = some x ∧ nP (editD p x).1 + 1 = nP p ∧ rbT p (endP p) = endP (editD p x).1 := by
  obtain ⟨ps, cs, s, rfl⟩ := page_snoc hp
  rw [endP_eq]
  have li := last_in ps (cs ++ [s])
  have lr := last_row ps (cs ++ [s])
  have lc := last_cell ps cs s
  have cl : (cs ++ [s]).length = cs.length + 1 := by simp
  by_cases hs : s = []
  · subst hs
    by_cases hc : cs = []
    · subst hc
      by_cases hps : ps = []
      · subst hps; exact absurd hn (by decide)
      · obtain ⟨ps', r0, rfl⟩ := snoc_of hps
        have hp' : okPage ((ps' ++ [r0]) ++ [[] ++ [[]]]) = true := hp
        have hk : ps'.length < ((ps' ++ [r0]) ++ [([] : Row) ++ [[]]]).length := by simp
        have ci := cellsIn_le hp hk
        have e0 : rowAt ((ps' ++ [r0]) ++ [([] : Row) ++ [[]]]) ps'.length = r0 := by unfold rowAt; rw [List.getD_eq_getElem?_getD]; simp
        have e1 : cellsIn ((ps' ++ [r0]) ++ [([] : Row) ++ [[]]]) ps'.length = r0.length := by
          show (rowAt _ _).length = _
          rw [e0]
        rw [e1] at ci
        obtain ⟨c0, u, rfl⟩ := snoc_of (l := r0) (fun e => by rw [e] at ci; simp at ci)
        have e2 : cellAt ((ps' ++ [c0 ++ [u]]) ++ [([] : Row) ++ [[]]]) ps'.length c0.length = u := by
          show (rowAt _ _).getD c0.length [] = u
          rw [e0, List.getD_eq_getElem?_getD]; simp
        have uo := cellAt_ok hp hk (c := c0.length) (by rw [e1]; simp)
        rw [e2] at uo
        have ul := (okCell_un uo).1
        have lk : (ps' ++ [c0 ++ [u]]).length = ps'.length + 1 := by simp
        simp only [List.length_nil] at lc li ⊢
        rw [lk] at li lr lc ⊢
        have m1 : (c0 ++ [u]).length - 1 = c0.length := by simp
        refine ⟨.unite ps'.length, (ps'.length, [(c0 ++ [u]).dropLast ++ [u ++ []] ++ ([] ++ [[]] : Row).drop 1], ps'.length + 2), ?_, ?_, ?_, ?_⟩
        · simp [rbD]
        · simp only [editOf]
          rw [e0, e1, li, lr, lc, m1, e2, if_neg (by simp), if_neg (by simp; simp at ci; omega)]
        · show nP (spl _ _ _ _) + 1 = _
          rw [spl_last2, nP_snoc, nP_snoc, nP_snoc]
          simp [nR]
        · show rbT _ _ = endP (spl _ _ _ _)
          rw [spl_last2]
          have : (c0 ++ [u]).dropLast ++ [u ++ []] ++ ([] ++ [[]] : Row).drop 1 = c0 ++ [u] := by simp
          rw [this, endP_eq]
          simp only [rbT]
          rw [if_neg (by omega), if_neg (by omega), Nat.add_sub_cancel, e1, m1, e2]
    · obtain ⟨cs', t, rfl⟩ := snoc_of hc
      have hk : ps.length < (ps ++ [(cs' ++ [t]) ++ [[]]]).length := by simp
      have e2 : cellAt (ps ++ [(cs' ++ [t]) ++ [[]]]) ps.length cs'.length = t := by
        show (rowAt _ _).getD cs'.length [] = t
        rw [lr, List.getD_eq_getElem?_getD]; simp
      have e3 : cellAt (ps ++ [(cs' ++ [t]) ++ [[]]]) ps.length (cs'.length + 1) = [] := by
        have := lc
        rwa [show (cs' ++ [t]).length = cs'.length + 1 by simp] at this
      have uo := cellAt_ok hp hk (c := cs'.length) (by rw [li]; simp)
      rw [e2] at uo
      have ul := (okCell_un uo).1
      have lk : (cs' ++ [t]).length = cs'.length + 1 := by simp
      have li' : cellsIn (ps ++ [(cs' ++ [t]) ++ [[]]]) ps.length = cs'.length + 2 := by rw [li]; simp
      simp only [List.length_nil]
      rw [lk]
      refine ⟨.erase ps.length cs'.length t.length, (ps.length, [spl ((cs' ++ [t]) ++ [[]]) cs'.length [t ++ []] (cs'.length + 2)], ps.length + 1), ?_, ?_, ?_, ?_⟩
      · simp only [rbD]
        rw [if_neg (by omega), if_pos (by omega), Nat.add_sub_cancel, e2]
      · simp only [editOf]
        rw [e2, e3, li', lr, if_neg (by omega), if_neg (by omega), if_neg (by simp; omega)]
      · show nP (spl _ _ _ _) + 1 = _
        rw [spl_last, spl_last2, nP_snoc, nP_snoc, nR_snoc, nR_snoc, nR_snoc]
        simp; omega
      · show rbT _ _ = endP (spl _ _ _ _)
        rw [spl_last, spl_last2, List.append_nil, endP_eq]
        simp only [rbT]
        rw [if_neg (by omega), if_pos (by omega), Nat.add_sub_cancel, e2]
  · obtain ⟨s', x, rfl⟩ := snoc_of hs
    have lk : (s' ++ [x]).length = s'.length + 1 := by simp
    rw [lk]
    refine ⟨.erase ps.length cs.length s'.length, (ps.length, [spl (cs ++ [s' ++ [x]]) cs.length [(s' ++ [x]).take s'.length ++ (s' ++ [x]).drop (s'.length + 1)] (cs.length + 1)], ps.length + 1), ?_, ?_, ?_, ?_⟩
    · simp [rbD]
    · simp only [editOf]
      rw [lc, lr, if_pos (by omega)]
    · show nP (spl _ _ _ _) + 1 = _
      rw [spl_last, spl_last, nP_snoc, nP_snoc, nR_snoc, nR_snoc]
      simp; omega
    · show rbT _ _ = endP (spl _ _ _ _)
      rw [spl_last, spl_last, endP_eq]
      simp only [rbT]
      rw [if_pos (by omega)]
      simp
theorem nP_one {p : Page} (hp : okPage p = true) (h : nP p = 1) : p = [[[]]] := by
  obtain ⟨p1, p2, p3⟩ := okPage_parts hp
  obtain ⟨ps, cs, s, rfl⟩ := page_snoc hp
  rw [nP_snoc, nR_snoc] at h
  have hs : s = [] := List.length_eq_zero_iff.mp (by omega)
  have hc : cs = [] := List.length_eq_zero_iff.mp (by unfold nR at h; omega)
  subst hs hc
  have h0 : nP ps = 0 := by omega
  match ps, h0, hp with
  | [], _, _ => rfl
  | r :: ps, h0, hp =>
    have hk := cellsIn_le hp (k := 0) (by simp)
    have : cellsIn (r :: ps ++ [([] : Row) ++ [[]]]) 0 = r.length := rfl
    rw [this] at hk
    have : nP (r :: ps) = nR r + nP ps := by unfold nP; simp
    unfold nR at this
    omega
theorem nP_pos {p : Page} (hp : okPage p = true) : 1 ≤ nP p := by
  obtain ⟨ps, cs, s, rfl⟩ := page_snoc hp
  rw [nP_snoc, nR_snoc]; omega
/-- at the end there is no going on -/
theorem goR_end {p : Page} (hp : okPage p = true) {t : Pos3} (v : Valid p t) (h : goR p t = t) : t = endP p := by
  obtain ⟨k, c, e⟩ := t
  obtain ⟨v1, v2, v3⟩ := v
  simp only at v1 v2 v3
  rw [goR_mk] at h
  split at h
  · have := congrArg (fun z => z.2.2) h; simp at this
  · split at h
    · have := congrArg (fun z => z.2.1) h; simp at this
    · split at h
      · have := congrArg (fun z => z.1) h; simp at this
      · rename_i h1 h2 h3
        have e1 : k = p.length - 1 := by omega
        have e2 : c = cellsIn p k - 1 := by omega
        have e3 : e = (cellAt p k c).length := by omega
        unfold endP
        rw [← e1, ← e2, ← e3]
def mR (t : Pos3) : Nat := (30 - t.1) * 1000 + (7 - t.2.1) * 20 + (11 - t.2.2)
theorem goR_less {p : Page} (hp : okPage p = true) {t : Pos3} (v : Valid p t) (h : goR p t ≠ t) : mR (goR p t) < mR t := by
  obtain ⟨k, c, e⟩ := t
  obtain ⟨v1, v2, v3⟩ := v
  simp only at v1 v2 v3
  have p2 := (okPage_parts hp).2.1
  have cl := (cellsIn_le hp v1).2
  have ce := (okCell_un (cellAt_ok hp v1 v2)).1
  rw [goR_mk] at h ⊢
  split
  · simp only [mR]; omega
  · split
    · simp only [mR]; omega
    · split
      · simp only [mR]; omega
      · rename_i h1 h2 h3
        rw [if_neg h1, if_neg h2, if_neg h3] at h
        exact absurd rfl h
end Dl
namespace Dl
open PySem L2
section
variable {n Q : Nat} {y : Sty} {F : List Nat} {b : Box} {Z : Store} {h : List Page} {q : Page} {d : D} {w : List (Nat × List D)}
theorem pgs_ok (s : SpH (Bx b Z) n y Q (h ++ [q]) F) (hd : ∀ M, listOf (Bx b (Z ++ M)) d = some (encP q, w)) :
    ∃ FS P, (Bx b Z)[n]? = some (.ins 13 FS) ∧ FS.lookup ("page" : Str) = none ∧ m_Sheet_page [.ref n] (Bx b Z) = .ok (.ref P, Bx b (Z ++ [.lst (encP q)])) ∧ eqG true (Bx b (Z ++ [.lst (encP q)])) (.ref P) d = .ok (.bl false, Bx b (Z ++ [.lst (encP q)])) := by
  obtain ⟨L, sh, ok⟩ := s.sht
  have pg := sh_page_ok sh.sh
  rw [Bx_app] at pg
  have g : (Bx b (Z ++ [.lst (encP q)]))[(Bx b Z).length]? = some (.lst (encP q)) := by rw [← Bx_app]; simp
  refine ⟨_, _, sh.sh, sh_page _ _ _ _, pg, ?_⟩
  rw [eqG_refL g]
  exact ne_page (hd _)
theorem bgs_ok (s : SpH (Bx b Z) n y Q (h ++ [q]) F) (hy : y.ok) (hd : ∀ M, listOf (Bx b (Z ++ M)) d = some (encP q, w)) :
    ∃ FS r k M1 M2, (Bx b Z)[n]? = some (.ins 13 FS) ∧ FS.lookup ("begins" : Str) = none ∧ m_Sheet_begins [.ref n] (Bx b Z) = .ok (.ref r, Bx b (Z ++ M1)) ∧ m_laid [d, y.enc] (Bx b (Z ++ M1)) = .ok (.ref k, Bx b (Z ++ M1 ++ M2)) ∧ eqG true (Bx b (Z ++ M1 ++ M2)) (.ref r) (.ref k) = .ok (.bl false, Bx b (Z ++ M1 ++ M2)) := by
  obtain ⟨L, sh, hp⟩ := s.sht
  have bg := sh_begins_ok hp sh.sh sh.la
  obtain ⟨S, hS⟩ : ∃ S, S = Bx b Z := ⟨_, rfl⟩
  obtain ⟨M1, hM1⟩ : ∃ M1, M1 = gridS q (bAt q y) ++ [.lst (refs S.length q.length)] := ⟨_, rfl⟩
  rw [← hS, ← hM1] at bg
  have hd1 : listOf (S ++ M1) d = some (encP q, w) := by rw [hS, Bx_app]; exact hd M1
  obtain ⟨k, M2, lo, _, la⟩ := laid_rd hp hy hd1
  have gR : ∀ k, k < q.length → (S ++ M1 ++ M2)[S.length + k]? = some (.lst (rowI q (bAt q y) k)) := fun k hk => by
    refine get_app ?_
    rw [hM1, List.getElem?_append_right (by omega), show S.length + k - S.length = k by omega, List.getElem?_append_left (by rw [gridS_len]; exact hk)]
    exact gridS_at _ hk
  have gL : (S ++ M1 ++ M2)[S.length + q.length]? = some (.lst (refs S.length q.length)) := by
    refine get_app ?_
    rw [hM1, List.getElem?_append_right (by omega), show S.length + q.length - S.length = q.length by omega, List.getElem?_append_right (by rw [gridS_len]; omega), gridS_len]
    simp
  have rd3 : Rd (S ++ M1 ++ M2) (.ref (S.length + q.length)) (.lst (rowsD q (bAt q y))) := ⟨refs S.length q.length, [(S.length + q.length, refs S.length q.length)], by simp only [listOf, gL], rds_rows (by simp) fun i x hx => by
    have hi : i < q.length := by
      have := (List.getElem?_eq_some_iff.mp hx).1
      rwa [refs_len] at this
    rw [refs_get hi] at hx
    cases hx
    exact ⟨_, _, rfl, gR i hi, rowsD_at hi, rowI_pks _ _ _⟩⟩
  have e := eq_rows rd3 (rd_lays la)
  rw [hS] at bg lo e
  simp only [Bx_app] at bg lo e
  exact ⟨_, _, k, M1, M2, sh.sh, sh_nbeg _ _ _ _, bg, lo, e⟩
theorem chk_ok (s : SpH (Bx b Z) n y Q (h ++ [q]) F) (hy : y.ok) (hd : ∀ M, listOf (Bx b (Z ++ M)) d = some (encP q, w)) {env : Env} {i : Nat} (h4 : env[4]? = some (some (.ref n))) (h3 : env[3]? = some (some y.enc)) (hi : env[i]? = some (some d)) :
    ∃ M, tOrD (tv (eOp (eqG true) (eMeth 13 "page" 1 m_Sheet_page (eV 4) aNil) (eV i))) (tv (eOp (eqG true) (eMeth 13 "begins" 1 m_Sheet_begins (eV 4) aNil) (eCall 2 m_laid (aCons (eV i) (aCons (eV 3) (aNil)))))) env (Bx b Z) = .ok (false, Bx b (Z ++ M)) := by
  obtain ⟨FS, P, f1, f2, f3, f4⟩ := pgs_ok s hd
  have s2 := s.app [.lst (encP q)]
  rw [Bx_app] at s2
  obtain ⟨FS2, r, k, M1, M2, e1, e2, e3, e4, e5⟩ := bgs_ok s2 hy (d := d) (w := w) (fun M => by rw [List.append_assoc]; exact hd _)
  refine ⟨[.lst (encP q)] ++ M1 ++ M2, ?_⟩
  rw [← List.append_assoc, ← List.append_assoc]
  generalize Bx b (Z ++ [Ob.lst (encP q)] ++ M1 ++ M2) = S3 at *
  generalize Bx b (Z ++ [Ob.lst (encP q)] ++ M1) = S2 at *
  generalize Bx b (Z ++ [Ob.lst (encP q)]) = S1 at *
  generalize Bx b Z = S0 at *
  generalize y.enc = Y at *
  simp [h4, h3, hi, f1, f2, f3, f4, e1, e2, e3, e4, e5]
def bkS : SV := sIf (tv (eOp (isG true) (eMeth 13 "back" 1 m_Sheet_back (eV 4) aNil) (eC (.bl true)))) (sRet (eC (.bl false))) (sNext)
theorem backs_ok {p : Page} {H : List Page} {m : Nat} (s : SpH (Bx b Z) n y Q H F) (hm : m < H.length) (hm2 : m ≤ 1000) (pg : (Bx b Z)[2]? = some (.lst (encP p))) {j : Nat} (a0 a1 a2 a3 a5 a6 a7 a8 a9 a10 a11 a12 : Option D) (hj : ([a0, a1, a2, a3, some (.ref n), a5, a6, a7, a8, a9, a10, a11, a12] : Env)[j]? = some (some (.int m))) :
    ∃ Z' a8', sFor (iR1 (aCons (eV j) (aNil))) (gN 8) bkS [a0, a1, a2, a3, some (.ref n), a5, a6, a7, a8, a9, a10, a11, a12] (Bx b Z) = .nx [a0, a1, a2, a3, some (.ref n), a5, a6, a7, a8', a9, a10, a11, a12] (Bx b Z') ∧ SpH (Bx b Z') n y Q (H.take (H.length - m)) F ∧ (Bx b Z')[2]? = some (.lst (encP p)) := by
  have rN : -1000000 ≤ (m : Int) ∧ (m : Int) ≤ 1000000 := by omega
  have eF : sFor (iR1 (aCons (eV j) (aNil))) (gN 8) bkS [a0, a1, a2, a3, some (.ref n), a5, a6, a7, a8, a9, a10, a11, a12] (Bx b Z) = forGo [] (gN 8) bkS (intsD 0 m) [a0, a1, a2, a3, some (.ref n), a5, a6, a7, a8, a9, a10, a11, a12] (Bx b Z) := by
    generalize bkS = body
    generalize ([a0, a1, a2, a3, some (.ref n), a5, a6, a7, a8, a9, a10, a11, a12] : Env) = env at hj ⊢
    simp [hj, rN]
  rw [eF]
  generalize hf : forGo _ _ _ _ _ _ = r
  obtain ⟨e, s', rfl, Z', rfl, j1, j2, a8', rfl⟩ := for_at hf (fun i env st' => ∃ Z', st' = Bx b Z' ∧ SpH (Bx b Z') n y Q (H.take (H.length - i)) F ∧ (Bx b Z')[2]? = some (.lst (encP p)) ∧ ∃ a8, env = [a0, a1, a2, a3, some (.ref n), a5, a6, a7, a8, a9, a10, a11, a12])
    ⟨Z, rfl, by simpa using s, pg, a8, rfl⟩ (fun _ _ _ _ _ => rfl) (fun i x env st' hi ⟨Z', e1, j1, j2, a8', e2⟩ => by
      subst e1 e2
      obtain ⟨hi', rfl⟩ := ints_get hi
      rw [r_gN]
      simp only [sOf_m, List.set_cons_succ, List.set_cons_zero]
      have e3 : H.take (H.length - i) = H.take (H.length - (i + 1)) ++ [H[H.length - (i + 1)]'(by omega)] := by
        have : H.length - i = H.length - (i + 1) + 1 := by omega
        rw [this, List.take_add_one, List.getElem?_eq_getElem (by omega)]; rfl
      rw [e3] at j1
      obtain ⟨q1, q2, _⟩ := j1.Qn
      obtain ⟨L, sh, _⟩ := j1.sht
      obtain ⟨Z2, t1, t2, t3, _⟩ := j1.back (fun e => by
        have := congrArg List.length e
        simp at this
        omega)
      refine turn_eq (e := [a0, a1, a2, a3, some (.ref n), a5, a6, a7, some (.int i), a9, a10, a11, a12]) (s := Bx b Z2) ?_ ⟨Z2, rfl, t2, t3 _ _ (by omega) (by omega) j2, _, rfl⟩
      have hs := sh.sh
      have nb := sh_back (H[H.length - (i + 1)]'(by omega)) y L Q
      unfold bkS
      generalize shFs (H[H.length - (i + 1)]'(by omega)) y L Q = FS at hs nb
      generalize Bx b Z' = S1 at *
      generalize Bx b Z2 = S2 at *
      simp [hs, nb, t1, isG])
  rw [intsD_len] at j1
  exact ⟨Z', a8', rfl, j1, j2⟩
end
end Dl
namespace Dl
open PySem L2
def slen : D → Int
  | .str s => (s.length : Nat)
  | _ => 0
def nRD : D → D
  | .tup l => .int ((l.length : Nat) + (l.map slen).sum)
  | d => d
theorem slen_sum (r : Row) : ((r.map D.str).map slen).sum = ((r.map List.length).sum : Nat) := by
  induction r with
  | nil => rfl
  | cons s r ih =>
    simp only [List.map_cons, List.sum_cons]
    rw [ih]
    show ((s.length : Nat) : Int) + _ = _
    omega
theorem nRD_row (r : Row) : nRD (encR r) = .int (nR r : Nat) := by
  show D.int (((r.map D.str).length : Nat) + ((r.map D.str).map slen).sum) = _
  rw [slen_sum, List.length_map]
  unfold nR
  congr 1
theorem nP_sum (p : Page) : (p.map fun r => ((nR r : Nat) : Int)).sum = (nP p : Nat) := by
  unfold nP
  induction p with
  | nil => rfl
  | cons r p ih =>
    simp only [List.map_cons, List.sum_cons]
    rw [ih]; omega
def inE : EV := eOp (addG false) (eOp subG (eOp (addG false) (eC (.int 1)) (eB lenG (aCons (eV 11) (aNil)))) (eC (.int 1))) (eB sumG (aCons (eLc false (iSeq (eV 11)) [12] (.one 12) (tYesD) (eB lenG (aCons (eV 12) (aNil)))) (aNil)))
theorem in_ok {S : Store} {r : Row} (hr : r.length ≤ 6) (a0 a1 a2 a3 a4 a5 a6 a7 a8 a9 a10 a12 : Option D) : inE [a0, a1, a2, a3, a4, a5, a6, a7, a8, a9, a10, some (encR r), a12] S = .ok (.int (nR r : Nat), S) := by
  have lc : lcGo [] (.one 12) tYesD (eB lenG (aCons (eV 12) (aNil))) [a0, a1, a2, a3, a4, a5, a6, a7, a8, a9, a10, some (encR r), none] (r.map D.str) [] S = .ok ((r.map fun s => ((s.length : Nat) : Int)).map D.int, S) := by
    rw [lc_pure (still_nil S) (fun _ => true) (fun d => .int (slen d)) _ _ (fun d hd => ⟨_, rfl, by simp, fun _ => ?_⟩)]
    · have ft : ∀ l : List D, l.filter (fun _ => true) = l := fun l => List.filter_eq_self.mpr (by simp)
      rw [ft]
      simp [slen, Function.comp_def]
    · obtain ⟨s, _, rfl⟩ := List.mem_map.mp hd
      simp [lenG, slen]
  have lim : r.length ≤ LIM := le_LIM (by omega)
  have it : itemsOf S (encR r) = some (r.map D.str, []) := rfl
  have ln : lenG S [encR r] = .ok (.int (r.length : Nat), S) := by
    show R.ok (D.int (((r.map D.str).length : Nat)), S) = _
    rw [List.length_map]
  have sm : ((r.map fun s => ((s.length : Nat) : Int))).sum = ((r.map List.length).sum : Nat) := by
    have := slen_sum r
    rw [List.map_map] at this
    rw [← this]; rfl
  have ar : (1 : Int) + (r.length : Nat) - 1 + ((r.map List.length).sum : Nat) = (nR r : Nat) := by unfold nR; omega
  have a1 : ∀ i j : Int, addG false S (.int i) (.int j) = .ok (.int (i + j), S) := fun _ _ => rfl
  have s1 : ∀ i j : Int, subG S (.int i) (.int j) = .ok (.int (i - j), S) := fun _ _ => rfl
  have su : sumG S [.lst ((r.map fun s => ((s.length : Nat) : Int)).map D.int)] = .ok (.int ((r.map List.length).sum : Nat), S) := by
    simp only [sumG, lstOf, Option.bind_some, intsOf_map, sm]
  have lk : (((r.map fun s => ((s.length : Nat) : Int)).map D.int)).length = r.length := by simp
  unfold inE
  generalize ((r.map fun s => ((s.length : Nat) : Int)).map D.int) = l at lc su lk
  generalize encR r = X at *
  simp [ln, a1, s1, it, lc, wipeD, newL, lim, su, ar]
def smE : EV := eOp subG (eB sumG (aCons (eLc false (iSeq (eV 2)) [11] (.one 11) (tYesD) inE) (aNil))) (eC (.int 1))
theorem sm_ok {S : Store} {p : Page} (hp : okPage p = true) (pg : S[2]? = some (.lst (encP p))) (a0 a1 a3 a4 a5 a6 a7 a8 a9 a10 a11 a12 : Option D) : smE [a0, a1, some (.ref 2), a3, a4, a5, a6, a7, a8, a9, a10, a11, a12] S = .ok (.int ((nP p - 1 : Nat) : Int), S) := by
  obtain ⟨p1, p2, p3⟩ := okPage_parts hp
  have lc : lcGo [(2, encP p)] (.one 11) tYesD inE [a0, a1, some (.ref 2), a3, a4, a5, a6, a7, a8, a9, a10, none, a12] (encP p) [] S = .ok ((p.map fun r => ((nR r : Nat) : Int)).map D.int, S) := by
    rw [lc_pure (still_one pg) (fun _ => true) nRD _ _ (fun d hd => ⟨_, rfl, by simp, fun _ => ?_⟩)]
    · have ft : ∀ l : List D, l.filter (fun _ => true) = l := fun l => List.filter_eq_self.mpr (by simp)
      rw [ft, List.nil_append]
      unfold encP
      rw [List.map_map, List.map_map]
      congr 2
      exact List.map_congr_left fun r _ => nRD_row r
    · obtain ⟨r, hr, rfl⟩ := List.mem_map.mp hd
      have ro := p3 r hr
      unfold okRow at ro
      simp only [Bool.and_eq_true, decide_eq_true_eq] at ro
      simp only [List.set_cons_succ, List.set_cons_zero]
      rw [nRD_row]
      exact in_ok ro.1.2 _ _ _ _ _ _ _ _ _ _ _ _
  have lim : p.length ≤ LIM := le_LIM (by omega)
  have it : itemsOf S (.ref 2) = some (encP p, [(2, encP p)]) := by simp only [itemsOf, pg]
  have su : sumG S [.lst ((p.map fun r => ((nR r : Nat) : Int)).map D.int)] = .ok (.int (nP p : Nat), S) := by
    simp only [sumG, lstOf, Option.bind_some, intsOf_map, nP_sum]
  have n1 := nP_pos hp
  have s1 : subG S (.int (nP p : Nat)) (.int 1) = .ok (.int ((nP p - 1 : Nat) : Int), S) := by
    show R.ok (D.int ((nP p : Int) - 1), S) = _
    congr 3; omega
  have el := encP_len p
  unfold smE
  generalize inE = body at lc
  generalize ((p.map fun r => ((nR r : Nat) : Int)).map D.int) = l at lc su
  generalize encP p = X at *
  simp [it, lc, wipeD, newL, el, lim, su, s1]
section
variable {S : Store} {c n L Q : Nat} {p : Page} {y : Sty}
theorem to_end (hc : 2 < c) (h : CuP S c n p y L Q [] (0, 0, 0)) (pg : S[2]? = some (.lst (encP p))) (a0 a1 a2 a3 a4 a5 a6 a7 a8 a10 a11 a12 : Option D) :
    ∃ S', whileGo (tv (eMeth 14 "right" 1 m_Cursor_right (eV 9) aNil)) sPass 100000 [a0, a1, a2, a3, a4, a5, a6, a7, a8, some (.ref c), a10, a11, a12] S = .nx [a0, a1, a2, a3, a4, a5, a6, a7, a8, some (.ref c), a10, a11, a12] S' ∧ CuP S' c n p y L Q [] (endP p) ∧ S'[2]? = some (.lst (encP p)) := by
  obtain ⟨e, s', hw, rfl, h1, h2⟩ := while_go (t := tv (eMeth 14 "right" 1 m_Cursor_right (eV 9) aNil)) (b := sPass) (fuel := 100000) (env := [a0, a1, a2, a3, a4, a5, a6, a7, a8, some (.ref c), a10, a11, a12]) (st := S) rfl (fun m env st => ∃ t, CuP st c n p y L Q [] t ∧ st[2]? = some (.lst (encP p)) ∧ env = [a0, a1, a2, a3, a4, a5, a6, a7, a8, some (.ref c), a10, a11, a12] ∧ m = mR t)
    (fun env st => env = [a0, a1, a2, a3, a4, a5, a6, a7, a8, some (.ref c), a10, a11, a12] ∧ CuP st c n p y L Q [] (endP p) ∧ st[2]? = some (.lst (encP p))) (n := mR (0, 0, 0)) (by decide) ⟨_, h, pg, rfl, rfl⟩ (fun m env st ⟨t, h1, h2, e1, e2⟩ => by
      subst e1 e2
      have r := C2.right_ok h1.okp h1.cu
      have v := h1.cu.va
      have h3 := h1.move (goR_valid h1.okp v)
      have k2 : (mv st c n (goR p t))[2]? = some (.lst (encP p)) := by unfold mv; exact set_keep (by omega) h2
      have hcu := h1.cu.cu
      have nr := cu_right n t
      by_cases e : goR p t = t
      · have te := goR_end h1.okp v e
        have h4 : CuP (mv st c n (goR p t)) c n p y L Q [] (endP p) := by
          rw [show goR p t = endP p from e.trans te] at h3 ⊢; exact h3
        refine while_no' (st1 := mv st c n (goR p t)) ?_ ⟨rfl, h4, k2⟩
        generalize mv st c n (goR p t) = S1 at *
        generalize cuFs n t = FS at *
        simp [hcu, nr, r, e]
      · refine while_yes' (st1 := mv st c n (goR p t)) (s := mv st c n (goR p t)) ?_ rfl ⟨mR (goR p t), goR_less h1.okp v e, _, h3, k2, rfl, rfl⟩
        generalize mv st c n (goR p t) = S1 at *
        generalize cuFs n t = FS at *
        simp [hcu, nr, r, e])
  exact ⟨s', hw, h1, h2⟩
def rbS : SV := sExpr (eMeth 14 "rub" 1 m_Cursor_rub (eV 9) aNil)
theorem rubs_ok {p0 : Page} (hc : 2 < c) (h : CuP S c n p y L Q [] (endP p)) (pg : S[2]? = some (.lst (encP p0))) (hN : nP p ≤ 900) (a0 a1 a2 a3 a4 a5 a6 a7 a8 a11 a12 : Option D) :
    ∃ S' a8' L' ps, sFor (iR1 (aCons (eV 10) (aNil))) (gN 8) rbS [a0, a1, a2, a3, a4, a5, a6, a7, a8, some (.ref c), some (.int ((nP p - 1 : Nat) : Int)), a11, a12] S = .nx [a0, a1, a2, a3, a4, a5, a6, a7, a8', some (.ref c), some (.int ((nP p - 1 : Nat) : Int)), a11, a12] S' ∧ CuP S' c n [[[]]] y L' Q ps (0, 0, 0) := by
  have n1 := nP_pos h.okp
  have rN : -1000000 ≤ ((nP p - 1 : Nat) : Int) ∧ ((nP p - 1 : Nat) : Int) ≤ 1000000 := by omega
  have eF : sFor (iR1 (aCons (eV 10) (aNil))) (gN 8) rbS [a0, a1, a2, a3, a4, a5, a6, a7, a8, some (.ref c), some (.int ((nP p - 1 : Nat) : Int)), a11, a12] S = forGo [] (gN 8) rbS (intsD 0 (nP p - 1)) [a0, a1, a2, a3, a4, a5, a6, a7, a8, some (.ref c), some (.int ((nP p - 1 : Nat) : Int)), a11, a12] S := by
    generalize rbS = body
    simp [rN]
  rw [eF]
  generalize hf : forGo _ _ _ _ _ _ = r
  obtain ⟨e, s', rfl, q, L', ps, j1, j2, j3, a8', rfl⟩ := for_at hf (fun i env st' => ∃ q L' ps, CuP st' c n q y L' Q ps (endP q) ∧ nP q + i = nP p ∧ ps.length = i ∧ ∃ a8, env = [a0, a1, a2, a3, a4, a5, a6, a7, a8, some (.ref c), some (.int ((nP p - 1 : Nat) : Int)), a11, a12])
    ⟨p, L, [], h, rfl, rfl, a8, rfl⟩ (fun _ _ _ _ _ => rfl) (fun i x env st' hi ⟨q, L', ps, j1, j2, j3, a8', e2⟩ => by
      subst e2
      obtain ⟨hi', rfl⟩ := ints_get hi
      rw [r_gN]
      simp only [sOf_m, List.set_cons_succ, List.set_cons_zero]
      obtain ⟨d, x, r1, r2, r3, r4⟩ := rub_end j1.okp (by omega)
      rcases rub_ok j1 (by omega) with ⟨e1 | ⟨d2, e1, e2⟩, _⟩ | ⟨d2, x2, S1, La, e1, e2, ex, e3, hA, kA, llA, lLA⟩
      · rw [r1] at e1; cases e1
      · rw [r1] at e1; cases e1; rw [r2] at e2; cases e2
      rw [r1] at e1
      cases e1
      rw [r2] at e2
      cases e2
      rw [r4] at hA
      refine turn_eq (e := [a0, a1, a2, a3, a4, a5, a6, a7, some (.int i), some (.ref c), some (.int ((nP p - 1 : Nat) : Int)), a11, a12]) (s := S1) ?_ ⟨_, La, _, hA, by omega, by simp [j3], _, rfl⟩
      have hcu := j1.cu.cu
      have nr := cu_nrub n (endP q)
      unfold rbS
      generalize cuFs n (endP q) = FS at hcu nr
      simp [hcu, nr, e3])
  rw [intsD_len] at j2
  have hq := nP_one j1.okp (by omega)
  subst hq
  exact ⟨s', a8', L', ps, rfl, j1⟩
end
end Dl
namespace Dl
open PySem L2
def m_law_k13 : FV := funD 13 (d_law_k13 m_law_begun m_law_page m_law_style m_law_parted m_Sheet_page m_law_typed m_Sheet_begins m_laid m_Sheet_back m_Cursor_right m_Cursor_rub m_Cursor_page m_Cursor_at m_Sheet_init m_Cursor_init)
def ck (i : Nat) : SV := sIf (tOrD (tv (eOp (eqG true) (eMeth 13 "page" 1 m_Sheet_page (eV 4) aNil) (eV i))) (tv (eOp (eqG true) (eMeth 13 "begins" 1 m_Sheet_begins (eV 4) aNil) (eCall 2 m_laid (aCons (eV i) (aCons (eV 3) (aNil))))))) (sRet (eC (.bl false))) (sNext)
def blE : EV := eLc false (iSeq (eV 2)) [11] (.one 11) (tYesD) (eOp mulTG (eTup (aCons (eC (.str [])) (aNil))) (eB lenG (aCons (eV 11) (aNil))))
def oneE : EV := eLst false (aCons (eTup (aCons (eC (.str [])) (aNil))) (aNil))
theorem law13_eq : d_law_k13 m_law_begun m_law_page m_law_style m_law_parted m_Sheet_page m_law_typed m_Sheet_begins m_laid m_Sheet_back m_Cursor_right m_Cursor_rub m_Cursor_page m_Cursor_at m_Sheet_init m_Cursor_init =
  sCons (sAsg (eCall 1 m_law_begun (aCons (eV 0) (aNil))) (gN 1)) (sCons (sPar 2 3 (aCons (eCall 2 m_law_page (aCons (eV 1) (aCons (eC (.int 8)) (aNil)))) (aCons (eCall 1 m_law_style (aCons (eV 1) (aNil))) (aNil)))) (sCons (sAsg (eMake 13 3 m_Sheet_init (aCons oneE (aCons (eV 3) (aNil)))) (gN 4)) (sCons (sAsg (eCall 3 m_law_parted (aCons (eV 1) (aCons (eV 4) (aCons (eV 2) (aNil))))) (gN 5)) (sCons (sAsg blE (gN 6)) (sCons (sIf (tv (eOp (eqG true) (eMeth 13 "page" 1 m_Sheet_page (eV 4) aNil) (eV 6))) (sRet (eC (.bl false))) (sNext)) (sCons (sAsg (eCall 3 m_law_typed (aCons (eV 1) (aCons (eV 4) (aCons (eV 2) (aNil))))) (gN 7)) (sCons (ck 2) (sCons (sFor (iR1 (aCons (eV 7) (aNil))) (gN 8) bkS) (sCons (ck 6) (sCons (sFor (iR1 (aCons (eV 5) (aNil))) (gN 8) bkS)
  (sCons (sIf (tOrD (tv (eOp (eqG true) (eMeth 13 "page" 1 m_Sheet_page (eV 4) aNil) oneE)) (tv (eOp (isG true) (eMeth 13 "back" 1 m_Sheet_back (eV 4) aNil) (eC (.bl false))))) (sRet (eC (.bl false))) (sNext)) (sCons (sAsg (eMake 14 3 m_Cursor_init (aCons (eV 2) (aCons (eV 3) (aNil)))) (gN 9)) (sCons (whileGo (tv (eMeth 14 "right" 1 m_Cursor_right (eV 9) aNil)) (sPass) 100000) (sCons (sAsg smE (gN 10)) (sCons (sFor (iR1 (aCons (eV 10) (aNil))) (gN 8) rbS) (sRet (eAnd (eOp (eqG false) (eMeth 14 "page" 1 m_Cursor_page (eV 9) aNil) oneE) (eOp (eqG false) (eMeth 14 "at" 1 m_Cursor_at (eV 9) aNil) (eTup (aCons (eC (.int 0)) (aCons (eC (.int 0)) (aCons (eC (.int 0)) (aNil))))))))))))))))))))))) := (rfl)
theorem sum_le10 : ∀ (r : List (List Nat)), (∀ x ∈ r, okCell x = true) → (r.map List.length).sum ≤ 10 * r.length
  | [], _ => by simp
  | s :: r, h => by
    have k1 := (okCell_un (h s (by simp))).1
    have k2 := sum_le10 r fun x hx => h x (List.mem_cons_of_mem _ hx)
    rw [List.map_cons, List.sum_cons, List.length_cons]; omega
theorem nP_le {p : Page} (hp : okPage p = true) : nP p ≤ 66 * p.length := by
  obtain ⟨p1, p2, p3⟩ := okPage_parts hp
  clear p1 p2 hp
  induction p with
  | nil => simp [nP]
  | cons r p ih =>
    have h1 := ih fun x hx => p3 x (List.mem_cons_of_mem _ hx)
    have h2 := p3 r (by simp)
    have e : nP (r :: p) = nR r + nP p := by unfold nP; simp
    have hr : nR r ≤ 66 := by
      unfold okRow at h2
      simp only [Bool.and_eq_true, decide_eq_true_eq, List.all_eq_true] at h2
      obtain ⟨⟨_, h6⟩, ha⟩ := h2
      have := sum_le10 r ha
      unfold nR; omega
    rw [e]; simp; omega
theorem one_ok (S : Store) (env : Env) : oneE env S = .ok (.lst (encP [[[]]]), S) := by
  have one : (1 : Nat) ≤ LIM := by decide
  unfold oneE
  simp [newL, one, encP, encR]
theorem bl_ok {S : Store} {p : Page} (hp : okPage p = true) (pg : S[2]? = some (.lst (encP p))) (a0 a1 a3 a4 a5 a6 a7 a8 a9 a10 a11 a12 : Option D) : blE [a0, a1, some (.ref 2), a3, a4, a5, a6, a7, a8, a9, a10, a11, a12] S = .ok (.lst (encP (bl (p.map List.length))), S) := by
  obtain ⟨p1, p2, p3⟩ := okPage_parts hp
  have lc : lcGo [(2, encP p)] (.one 11) tYesD (eOp mulTG (eTup (aCons (eC (.str [])) (aNil))) (eB lenG (aCons (eV 11) (aNil)))) [a0, a1, some (.ref 2), a3, a4, a5, a6, a7, a8, a9, a10, none, a12] (encP p) [] S = .ok (encP (bl (p.map List.length)), S) := by
    rw [lc_pure (still_one pg) (fun _ => true) (fun d => match d with | .tup l => .tup (List.replicate l.length (.str [])) | d => d) _ _ (fun d hd => ⟨_, rfl, by simp, fun _ => ?_⟩)]
    · have ft : ∀ l : List D, l.filter (fun _ => true) = l := fun l => List.filter_eq_self.mpr (by simp)
      rw [ft, List.nil_append]
      unfold encP bl
      rw [List.map_map, List.map_map, List.map_map]
      congr 2
      refine List.map_congr_left fun r _ => ?_
      show D.tup (List.replicate (r.map D.str).length (.str [])) = encR (blR r.length)
      unfold encR blR
      rw [List.length_map, List.map_replicate]
    · obtain ⟨r, hr, rfl⟩ := List.mem_map.mp hd
      have ro := p3 r hr
      unfold okRow at ro
      simp only [Bool.and_eq_true, decide_eq_true_eq] at ro
      have ln : lenG S [encR r] = .ok (.int (r.length : Nat), S) := by
        show R.ok (D.int (((r.map D.str).length : Nat)), S) = _
        rw [List.length_map]
      have mu : mulTG S (.tup [.str []]) (.int (r.length : Nat)) = .ok (.tup (List.replicate r.length (.str [])), S) := by
        simp only [mulTG]
        rw [if_pos ⟨by simp, by omega, by omega, by simp⟩]
        simp
      have ll : (r.map D.str).length = r.length := by simp
      show _ = R.ok (D.tup (List.replicate (r.map D.str).length (.str [])), S)
      rw [ll]
      generalize encR r = X at *
      have one : (1 : Nat) ≤ LIM := by decide
      simp [ln, mu, one]
  have lim : p.length ≤ LIM := le_LIM (by omega)
  have it : itemsOf S (.ref 2) = some (encP p, [(2, encP p)]) := by simp only [itemsOf, pg]
  have el := encP_len p
  unfold blE
  generalize encP (bl (p.map List.length)) = l at lc
  generalize encP p = X at *
  simp [it, lc, wipeD, newL, el, lim]
theorem law_k13_true (ns : List Int) (_ : ns.length ≤ 63) : ∃ st, m_law_k13 [.scr ns] [] = .ok (.bl true, st) := by
  unfold m_law_k13 funD
  rw [law13_eq]
  obtain ⟨b, hb⟩ := begun_ok ns
  have hstart : (List.map some [D.scr ns] ++ List.replicate (13 - [D.scr ns].length) none : Env) = [some (.scr ns), none, none, none, none, none, none, none, none, none, none, none, none] := rfl
  rw [hstart]
  rw [sCons_nx (sAsgN_at (x := .ref 1) (sx := Bx b []) (by simp [hb]))]
  simp only [List.set_cons_succ, List.set_cons_zero]
  obtain ⟨p, b2, hp, hpn, ep⟩ := page_ok b [] 8 (by decide) (by decide)
  obtain ⟨y, b3, hy, es⟩ := style_ok b2 [.lst (encP p)]
  simp only [List.nil_append, List.length_nil, Nat.zero_add] at ep
  have h8 : p.length ≤ 8 := by omega
  have a1 : sPar 2 3 (aCons (eCall 2 m_law_page (aCons (eV 1) (aCons (eC (.int 8)) (aNil)))) (aCons (eCall 1 m_law_style (aCons (eV 1) (aNil))) (aNil))) [some (.scr ns), some (.ref 1), none, none, none, none, none, none, none, none, none, none, none] (Bx b []) = .nx [some (.scr ns), some (.ref 1), some (.ref 2), some y.enc, none, none, none, none, none, none, none, none, none] (Bx b3 [.lst (encP p)]) := by
    simp [ep, es]
  rw [sCons_nx a1]
  -- the sheet
  have h1 : okPage ([[[]]] : Page) = true := by decide
  obtain ⟨S0, hS0⟩ : ∃ S0, S0 = Bx b3 [Ob.lst (encP p)] := ⟨_, rfl⟩
  have g2 : S0[2]? = some (.lst (encP p)) := by rw [hS0]; rfl
  have len0 : S0.length = 3 := by rw [hS0]; rfl
  obtain ⟨M1, L1, Q, si, la, pa, l1, l2⟩ := Sheet_init_ok h1 hy (d := .lst (encP [[[]]])) (w := []) (st := S0) rfl
  rw [len0] at si l1
  obtain ⟨Z1, hZ1⟩ : ∃ Z1, S0 ++ Ob.ins 13 (shFs [[[]]] y L1 Q) :: M1 = Bx b3 Z1 := ⟨_, by rw [hS0, Bx_app]⟩
  have gs : (Bx b3 Z1)[3]? = some (.ins 13 (shFs [[[]]] y L1 Q)) := by
    have := app_get S0 (Ob.ins 13 (shFs [[[]]] y L1 Q)) M1
    rw [len0, hZ1] at this; exact this
  have pg1 : (Bx b3 Z1)[2]? = some (.lst (encP p)) := by rw [← hZ1]; exact get_app g2
  rw [hZ1] at si la pa
  have s1 : SpH (Bx b3 Z1) 3 y Q [bl [1]] [] := ⟨L1, [], [[[]]], rfl, ⟨gs, la, pa, l1, by omega, .inr l2⟩, fun x hx => by rw [List.mem_singleton.mp hx]; exact h1, by omega, fun P hP => by simp at hP⟩
  have a2 : sAsg (eMake 13 3 m_Sheet_init (aCons oneE (aCons (eV 3) (aNil)))) (gN 4) [some (.scr ns), some (.ref 1), some (.ref 2), some y.enc, none, none, none, none, none, none, none, none, none] S0 = .nx [some (.scr ns), some (.ref 1), some (.ref 2), some y.enc, some (.ref 3), none, none, none, none, none, none, none, none] (Bx b3 Z1) := by
    have o1 := fun env => one_ok S0 env
    generalize oneE = oe at o1
    generalize Bx b3 Z1 = S1 at *
    generalize encP [[[]]] = X at *
    generalize y.enc = Y at *
    simp [o1, len0, si]
  rw [← hS0, sCons_nx a2]
  clear a1 a2 si la pa
  -- parted
  obtain ⟨b4, Z2, h, pe, s2, hl, hh, pg2⟩ := parted_ok hp h8 s1 pg1
  rw [sCons_nx (sAsgN_at (x := .int (h.length : Nat)) (sx := Bx b4 Z2) (by
    generalize Bx b3 Z1 = S1 at *
    generalize Bx b4 Z2 = S2 at *
    simp [pe]))]
  simp only [List.set_cons_succ, List.set_cons_zero]
  obtain ⟨B, hB⟩ : ∃ B, B = bl (p.map List.length) := ⟨_, rfl⟩
  have be := bl_ok hp pg2 (some (.scr ns)) (some (.ref 1)) (some y.enc) (some (.ref 3)) (some (.int (h.length : Nat))) none none none none none none none
  rw [sCons_nx (sAsgN_at be)]
  simp only [List.set_cons_succ, List.set_cons_zero]
  rw [← hB] at s2 hh ⊢
  have okB : okPage B = true := (s2.Qn).2.2 B (by simp)
  obtain ⟨FS, P, f1, f2, f3, f4⟩ := pgs_ok s2 (d := .lst (encP B)) (w := []) (fun _ => rfl)
  rw [sCons_nx (e := [some (.scr ns), some (.ref 1), some (.ref 2), some y.enc, some (.ref 3), some (.int (h.length : Nat)), some (.lst (encP B)), none, none, none, none, none, none]) (s := Bx b4 (Z2 ++ [.lst (encP B)])) (by
    generalize Bx b4 (Z2 ++ [.lst (encP B)]) = S3 at *
    generalize Bx b4 Z2 = S2 at *
    generalize encP B = X at *
    simp [f1, f2, f3, f4])]
  have s3 := s2.app [.lst (encP B)]
  have pg3 : (Bx b4 (Z2 ++ [.lst (encP B)]))[2]? = some (.lst (encP p)) := by rw [← Bx_app]; exact get_app pg2
  rw [Bx_app] at s3
  generalize Z2 ++ [Ob.lst (encP B)] = Z3 at s3 pg3
  -- typed
  obtain ⟨b5, Z4, ext, h', te, s4, he, hel, pg4⟩ := typed_ok hp h8 (by rw [← hB]; exact s3) pg3 hl
  rw [← hB] at he
  rw [sCons_nx (sAsgN_at (x := .int (ext.length : Nat)) (sx := Bx b5 Z4) (by
    generalize Bx b4 Z3 = S1 at *
    generalize Bx b5 Z4 = S2 at *
    generalize encP B = X at *
    simp [te]))]
  simp only [List.set_cons_succ, List.set_cons_zero]
  have hdp : ∀ (bb : Box) (Z : Store), (Bx bb Z)[2]? = some (.lst (encP p)) → ∀ M, listOf (Bx bb (Z ++ M)) (.ref 2) = some (encP p, [(2, encP p)]) := fun bb Z e M => by
    have : (Bx bb (Z ++ M))[2]? = some (.lst (encP p)) := by rw [← Bx_app]; exact get_app e
    simp only [listOf, this]
  obtain ⟨M5, ce⟩ := chk_ok s4 hy (hdp _ _ pg4) (env := [some (.scr ns), some (.ref 1), some (.ref 2), some y.enc, some (.ref 3), some (.int (h.length : Nat)), some (.lst (encP B)), some (.int (ext.length : Nat)), none, none, none, none, none]) (i := 2) rfl rfl rfl
  have c2 : ck 2 [some (.scr ns), some (.ref 1), some (.ref 2), some y.enc, some (.ref 3), some (.int (h.length : Nat)), some (.lst (encP B)), some (.int (ext.length : Nat)), none, none, none, none, none] (Bx b5 Z4) = .nx [some (.scr ns), some (.ref 1), some (.ref 2), some y.enc, some (.ref 3), some (.int (h.length : Nat)), some (.lst (encP B)), some (.int (ext.length : Nat)), none, none, none, none, none] (Bx b5 (Z4 ++ M5)) := by
    unfold ck
    rw [sIf_at (b := false) (sx := Bx b5 (Z4 ++ M5)) ce, if_neg (by decide), r_sNext]
  rw [sCons_nx c2]
  have s5 := s4.app M5
  have pg5 : (Bx b5 (Z4 ++ M5))[2]? = some (.lst (encP p)) := by rw [← Bx_app]; exact get_app pg4
  rw [Bx_app, he] at s5
  generalize Z4 ++ M5 = Z5 at s5 pg5
  -- taken back
  obtain ⟨Z6, c8, e6, s6, pg6⟩ := backs_ok (m := ext.length) (j := 7) s5 (by simp; omega) (by omega) pg5 (some (.scr ns)) (some (.ref 1)) (some (.ref 2)) (some y.enc) (some (.int (h.length : Nat))) (some (.lst (encP B))) (some (.int (ext.length : Nat))) none none none none none rfl
  rw [sCons_nx e6]
  have t6 : (h ++ [B] ++ ext).take ((h ++ [B] ++ ext).length - ext.length) = h ++ [B] := by
    have : (h ++ [B] ++ ext).length - ext.length = (h ++ [B]).length := by simp; omega
    rw [this, List.take_left]
  rw [t6] at s6
  obtain ⟨M7, ce7⟩ := chk_ok s6 hy (d := .lst (encP B)) (w := []) (fun _ => rfl) (env := [some (.scr ns), some (.ref 1), some (.ref 2), some y.enc, some (.ref 3), some (.int (h.length : Nat)), some (.lst (encP B)), some (.int (ext.length : Nat)), c8, none, none, none, none]) (i := 6) rfl rfl rfl
  have c7 : ck 6 [some (.scr ns), some (.ref 1), some (.ref 2), some y.enc, some (.ref 3), some (.int (h.length : Nat)), some (.lst (encP B)), some (.int (ext.length : Nat)), c8, none, none, none, none] (Bx b5 Z6) = .nx [some (.scr ns), some (.ref 1), some (.ref 2), some y.enc, some (.ref 3), some (.int (h.length : Nat)), some (.lst (encP B)), some (.int (ext.length : Nat)), c8, none, none, none, none] (Bx b5 (Z6 ++ M7)) := by
    unfold ck
    rw [sIf_at (b := false) (sx := Bx b5 (Z6 ++ M7)) ce7, if_neg (by decide), r_sNext]
  rw [sCons_nx c7]
  have s7 := s6.app M7
  have pg7 : (Bx b5 (Z6 ++ M7))[2]? = some (.lst (encP p)) := by rw [← Bx_app]; exact get_app pg6
  rw [Bx_app] at s7
  generalize Z6 ++ M7 = Z7 at s7 pg7
  obtain ⟨Z8, c8', e8, s8, pg8⟩ := backs_ok (m := h.length) (j := 5) s7 (by simp) (by omega) pg7 (some (.scr ns)) (some (.ref 1)) (some (.ref 2)) (some y.enc) (some (.int (h.length : Nat))) (some (.lst (encP B))) (some (.int (ext.length : Nat))) c8 none none none none rfl
  rw [sCons_nx e8]
  have t8 : (h ++ [B]).take ((h ++ [B]).length - h.length) = [[[[]]]] := by
    have : (h ++ [B]).length - h.length = 1 := by simp
    rw [this]
    cases hq : h ++ [B] with
    | nil => simp at hq
    | cons q r =>
      rw [hq] at hh
      simp only [List.getElem?_cons_zero, Option.some.injEq] at hh
      rw [hh]; rfl
  rw [t8] at s8
  -- the first page again
  obtain ⟨FS9, P9, f1', f2', f3', f4'⟩ := pgs_ok (h := []) s8 (d := .lst (encP [[[]]])) (w := []) (fun _ => rfl)
  have s9 := s8.app [.lst (encP [[[]]])]
  have pg9 : (Bx b5 (Z8 ++ [.lst (encP [[[]]])]))[2]? = some (.lst (encP p)) := by rw [← Bx_app]; exact get_app pg8
  rw [Bx_app] at s9
  have bk := s9.back0
  obtain ⟨L9, sh9, _⟩ := SpH.sht (h := []) s9
  have hs9 := sh9.sh
  have nb9 := sh_back [[[]]] y L9 Q
  have c9 : sIf (tOrD (tv (eOp (eqG true) (eMeth 13 "page" 1 m_Sheet_page (eV 4) aNil) oneE)) (tv (eOp (isG true) (eMeth 13 "back" 1 m_Sheet_back (eV 4) aNil) (eC (.bl false))))) (sRet (eC (.bl false))) (sNext) [some (.scr ns), some (.ref 1), some (.ref 2), some y.enc, some (.ref 3), some (.int (h.length : Nat)), some (.lst (encP B)), some (.int (ext.length : Nat)), c8', none, none, none, none] (Bx b5 Z8) = .nx [some (.scr ns), some (.ref 1), some (.ref 2), some y.enc, some (.ref 3), some (.int (h.length : Nat)), some (.lst (encP B)), some (.int (ext.length : Nat)), c8', none, none, none, none] (Bx b5 (Z8 ++ [.lst (encP [[[]]])])) := by
    have o1 := fun S env => one_ok S env
    generalize oneE = oe at o1
    generalize Bx b5 (Z8 ++ [.lst (encP [[[]]])]) = S3 at *
    generalize Bx b5 Z8 = S2 at *
    generalize shFs [[[]]] y L9 Q = FS at *
    generalize encP [[[]]] = X at *
    generalize encP B = X2 at *
    simp [f1', f2', f3', o1, f4', hs9, nb9, bk, isG]
  rw [sCons_nx c9]
  generalize Z8 ++ [Ob.lst (encP [[[]]])] = Z9 at pg9
  -- the cursor
  obtain ⟨S9, hS9⟩ : ∃ S9, S9 = Bx b5 Z9 := ⟨_, rfl⟩
  rw [← hS9] at pg9 ⊢
  have l2 : listOf S9 (.ref 2) = some (encP p, [(2, encP p)]) := by simp only [listOf, pg9]
  have len9 : 2 < S9.length := (List.getElem?_eq_some_iff.mp pg9).1
  obtain ⟨M, Lc, Qc, ci, cu, _, _⟩ := cnew_ok hp hy l2
  obtain ⟨c, hc⟩ : ∃ c, c = S9.length := ⟨_, rfl⟩
  have pgc : (S9 ++ Ob.ins 14 (cuFs (S9.length + 1) (0, 0, 0)) :: M)[2]? = some (.lst (encP p)) := get_app pg9
  have a10 : sAsg (eMake 14 3 m_Cursor_init (aCons (eV 2) (aCons (eV 3) (aNil)))) (gN 9) [some (.scr ns), some (.ref 1), some (.ref 2), some y.enc, some (.ref 3), some (.int (h.length : Nat)), some (.lst (encP B)), some (.int (ext.length : Nat)), c8', none, none, none, none] S9 = .nx [some (.scr ns), some (.ref 1), some (.ref 2), some y.enc, some (.ref 3), some (.int (h.length : Nat)), some (.lst (encP B)), some (.int (ext.length : Nat)), c8', some (.ref c), none, none, none] (S9 ++ Ob.ins 14 (cuFs (S9.length + 1) (0, 0, 0)) :: M) := by
    rw [hc]
    generalize encP B = X at *
    simp [ci]
  rw [sCons_nx a10]
  rw [← hc] at cu pgc len9 ⊢
  obtain ⟨S10, e10, cu10, pg10⟩ := to_end len9 cu pgc (some (.scr ns)) (some (.ref 1)) (some (.ref 2)) (some y.enc) (some (.ref 3)) (some (.int (h.length : Nat))) (some (.lst (encP B))) (some (.int (ext.length : Nat))) c8' none none none
  rw [sCons_nx e10]
  have se := sm_ok hp pg10 (some (.scr ns)) (some (.ref 1)) (some y.enc) (some (.ref 3)) (some (.int (h.length : Nat))) (some (.lst (encP B))) (some (.int (ext.length : Nat))) c8' (some (.ref c)) none none none
  rw [sCons_nx (sAsgN_at se)]
  simp only [List.set_cons_succ, List.set_cons_zero]
  have nl := nP_le hp
  obtain ⟨S11, c8'', L11, ps11, e11, cu11⟩ := rubs_ok len9 cu10 pg10 (by omega) (some (.scr ns)) (some (.ref 1)) (some (.ref 2)) (some y.enc) (some (.ref 3)) (some (.int (h.length : Nat))) (some (.lst (encP B))) (some (.int (ext.length : Nat))) c8' none none
  rw [sCons_nx e11]
  -- the end
  have pg := C2.page_c_ok cu11.cu
  obtain ⟨a, ha⟩ : ∃ a, a = S11.length := ⟨_, rfl⟩
  rw [← ha] at pg
  have cu12 := cu11.app [.lst (encP [[[]]])]
  have ga : (S11 ++ [.lst (encP [[[]]])])[a]? = some (.lst (encP [[[]]])) := by rw [ha]; simp
  have at12 := C2.at_ok cu12.cu
  have eq1 : eqG false (S11 ++ [.lst (encP [[[]]])]) (.ref a) (.lst (encP [[[]]])) = .ok (.bl true, S11 ++ [.lst (encP [[[]]])]) := by
    rw [eqG_refL ga, eqG_pl rfl rfl (by decide) (by decide)]
    simp
  have eq2 : ∀ S, eqG false S (encT (0, 0, 0)) (.tup [.int 0, .int 0, .int 0]) = .ok (.bl true, S) := fun S => by
    rw [eqG_pl rfl rfl (by decide) (by decide)]
    simp [encT]
  have hcu := cu11.cu.cu
  have np := cu_page (c + 1) (0, 0, 0)
  have hcu2 := cu12.cu.cu
  have nat := cu_at (c + 1) (0, 0, 0)
  have o1 := fun S env => one_ok S env
  refine ⟨S11 ++ [.lst (encP [[[]]])], ?_⟩
  generalize oneE = oe at o1 ⊢
  generalize S11 ++ [Ob.lst (encP [[[]]])] = S12 at *
  generalize cuFs (c + 1) (0, 0, 0) = FS at *
  generalize encP [[[]]] = X at *
  generalize encT (0, 0, 0) = T at *
  generalize encP B = X2 at *
  simp [hcu, np, pg, o1, eq1, hcu2, nat, at12, eq2]
end Dl
set_option maxHeartbeats 1000000
namespace W13
open PySem L2 Dl
def top (i : Nat) : Stmt := PySem.Challenge.pw_tabgrow_k13_whole_in_whatever_order_it_i.main.body.getD i (.Pass ⟨0, 0, 0, 0⟩)
abbrev s_law_begun : Stmt := top 39
abbrev s_law_take : Stmt := top 40
abbrev s_law_sign : Stmt := top 42
abbrev s_law_cell : Stmt := top 43
abbrev s_law_row : Stmt := top 44
abbrev s_law_page : Stmt := top 45
abbrev s_law_style : Stmt := top 46
abbrev s_is_number : Stmt := top 17
abbrev s_Sheet_need_number : Stmt := inClass (top 35) 3
abbrev s_Sheet_need_place : Stmt := inClass (top 35) 8
abbrev s_Stretch_width : Stmt := inClass (top 26) 1
abbrev s_stops_by : Stmt := top 30
abbrev s_is_figures : Stmt := top 24
abbrev s_Stretch_is_right : Stmt := inClass (top 26) 2
abbrev s_begins_by : Stmt := top 31
abbrev s_Stretch_init : Stmt := inClass (top 26) 0
abbrev s_stretches_of : Stmt := top 27
abbrev s_all_stretches : Stmt := top 28
abbrev s_Sheet_turn_to : Stmt := inClass (top 35) 4
abbrev s_Sheet_part : Stmt := inClass (top 35) 11
abbrev s_is_sign : Stmt := top 18
abbrev s_is_cell : Stmt := top 19
abbrev s_is_row : Stmt := top 20
abbrev s_need_row : Stmt := top 23
abbrev s_Sheet_change : Stmt := inClass (top 35) 7
abbrev s_Sheet_strike : Stmt := inClass (top 35) 9
abbrev s_law_parted : Stmt := top 48
abbrev s_Sheet_page : Stmt := inClass (top 35) 1
abbrev s_law_typed : Stmt := top 47
abbrev s_Sheet_begins : Stmt := inClass (top 35) 2
abbrev s_need_page : Stmt := top 21
abbrev s_need_style : Stmt := top 22
abbrev s_laid : Stmt := top 32
abbrev s_Sheet_back : Stmt := inClass (top 35) 13
abbrev s_Cursor_mine : Stmt := inClass (top 37) 2
abbrev s_Cursor_at : Stmt := inClass (top 37) 1
abbrev s_Cursor_go : Stmt := inClass (top 37) 4
abbrev s_Cursor_right : Stmt := inClass (top 37) 7
abbrev s_Sheet_erase : Stmt := inClass (top 35) 10
abbrev s_Sheet_unite : Stmt := inClass (top 35) 12
abbrev s_Cursor_unite : Stmt := inClass (top 37) 15
abbrev s_Cursor_rub : Stmt := inClass (top 37) 14
abbrev s_Cursor_page : Stmt := inClass (top 37) 17
abbrev s_Sheet_init : Stmt := inClass (top 35) 0
abbrev s_Cursor_init : Stmt := inClass (top 37) 0
abbrev s_law : Stmt := top 49
structure Txt (W : Wd) (mg : Str → Option Value) : Prop where
  b_len : mg "len" = none
  b_int : mg "int" = none
  b_list : mg "list" = none
  b_str : mg "str" = none
  b_range : mg "range" = none
  b_tuple : mg "tuple" = none
  b_min : mg "min" = none
  b_max : mg "max" = none
  b_isinstance : mg "isinstance" = none
  b_bool : mg "bool" = none
  b_enumerate : mg "enumerate" = none
  b_ord : mg "ord" = none
  b_sum : mg "sum" = none
  k_FIGURES : ∃ t, mg "FIGURES" = some (.str "0123456789" t)
  k_MOST_CELLS : ∃ t, mg "MOST_CELLS" = some (.int (6) t)
  k_MOST_ROWS : ∃ t, mg "MOST_ROWS" = some (.int (30) t)
  k_FIRST_SIGN : ∃ t, mg "FIRST_SIGN" = some (.str " " t)
  k_LAST_SIGN : ∃ t, mg "LAST_SIGN" = some (.str "~" t)
  k_BARRED : ∃ t, mg "BARRED" = some (.int (37) t)
  k_MOST_SIGNS : ∃ t, mg "MOST_SIGNS" = some (.int (10) t)
  k_TAB : ∃ t, mg "TAB" = some (.str "\t" t)
  k_MOST_GAP : ∃ t, mg "MOST_GAP" = some (.int (4) t)
  k_MOST_LEAST : ∃ t, mg "MOST_LEAST" = some (.int (12) t)
  cl_Sheet : Cls W.K (W.cls 13)
  cl_Stretch : Cls W.K (W.cls 12)
  cl_Cursor : Cls W.K (W.cls 14)
  na_Sheet_rows : NoAttr W.K (W.cls 13) "rows"
  na_Stretch_cells : NoAttr W.K (W.cls 12) "cells"
  na_Stretch_end : NoAttr W.K (W.cls 12) "end"
  na_Stretch_begin : NoAttr W.K (W.cls 12) "begin"
  na_Stretch_column : NoAttr W.K (W.cls 12) "column"
  na_Sheet_lefts : NoAttr W.K (W.cls 13) "lefts"
  na_Sheet_past : NoAttr W.K (W.cls 13) "past"
  na_Sheet_style : NoAttr W.K (W.cls 13) "style"
  na_Cursor_sheet : NoAttr W.K (W.cls 14) "sheet"
  na_Cursor_number : NoAttr W.K (W.cls 14) "number"
  na_Cursor_place : NoAttr W.K (W.cls 14) "place"
  na_Cursor_cell : NoAttr W.K (W.cls 14) "cell"
  ex_BadRow : OwnEx W.K mg "BadRow" (W.cls 3)
  ex_BadCell : OwnEx W.K mg "BadCell" (W.cls 4)
section
variable {P : Program} {w : World} {W : Wd} {mg : Str → Option Value} {base : Heap}
theorem sc_law_begun : FnScope ["_law_script", "_law_stirred", "_law_cell_here"] ["_law_script"] (defScope s_law_begun) := ⟨rfl, rfl, rfl, by decide +kernel, rfl, by decide +kernel, by decide +kernel⟩
theorem ok_law_begun {f : Addr} {fd : FuncData} (F : Fun W.K "_law_begun" "_law_begun" s_law_begun f fd) (m : mg "_law_begun" = some (.ref f)) (T : Txt W mg)  : Fn P w W mg base "_law_begun" (1) 1 (funD 3 d_law_begun) :=
  ⟨f, fd, ["_law_script"], fnE F sc_law_begun rfl rfl fun cdv A outer sh H E hr => db_cons (ds_set sc_law_begun.nd rfl (by first | exact Or.inl rfl | exact Or.inr rfl) (de_int)) (db_cons (ds_for passF rfl (di_seq (dv 0)) (dg_name sc_law_begun.nd rfl (by first | exact Or.inl rfl | exact Or.inr rfl)) (db_one (ds_set sc_law_begun.nd rfl (by first | exact Or.inl rfl | exact Or.inr rfl) (de_op dop_mod (de_op (dop_add true) (de_op (dop_add true) (de_op (dop_mul true) (dv 1) (de_int)) (de_op (dop_mul true) (dv 2) (de_int))) (de_int)) (de_int))))) (db_one (ds_ret (de_lst true (da_cons (de_callTy (dc_list true) (by rfl) T.b_list (by decide +kernel) (da_cons (dv 0) (da_nil)) (fun a b => pe_callTy a (by rfl) T.b_list (by decide +kernel) b)) (da_cons (de_op (dop_mul true) (dv 1) (de_callTy dc_int (by rfl) T.b_int (by decide +kernel) (da_cons (de_cmp dop_gt (de_callB dc_len (by rfl) T.b_len (by decide +kernel) (da_cons (dv 0) (da_nil)) (fun a b => pe_callB a (by rfl) T.b_len (by decide +kernel) b)) (de_int) (nomark _)) (da_nil)) (fun a b => pe_callTy a (by rfl) T.b_int (by decide +kernel) b))) (da_nil))))))), m, F.kp, F.binds (ps := ["_law_script"]) fun _ _ _ _ _ _ us hl => match us, hl with | [_], _ => rfl⟩
theorem sc_law_take : FnScope ["_law_box", "_law_many", "_law_number"] ["_law_box", "_law_many"] (defScope s_law_take) := ⟨rfl, rfl, rfl, by decide +kernel, rfl, by decide +kernel, by decide +kernel⟩
theorem ok_law_take {f : Addr} {fd : FuncData} (F : Fun W.K "_law_take" "_law_take" s_law_take f fd) (m : mg "_law_take" = some (.ref f)) (T : Txt W mg)  : Fn P w W mg base "_law_take" (1) 2 (funD 3 d_law_take) :=
  ⟨f, fd, ["_law_box", "_law_many"], fnE F sc_law_take rfl rfl fun cdv A outer sh H E hr => db_cons (ds_if (dt_cmp (dop_eq rfl hr.units) (de_ix rfl (dv 0) (de_int) (fun _ _ => rfl)) (de_lst false (da_nil)) (nomark _)) (db_cons (ds_asg (de_op dop_mod (de_op (dop_mul false) (de_ix rfl (dv 0) (de_int) (fun _ _ => rfl)) (de_int)) (de_int)) (dg_sub (dv 0) (de_int) dset_list)) (db_one (ds_ret (de_op dop_mod (de_op dop_div (de_ix rfl (dv 0) (de_int) (fun _ _ => rfl)) (de_int)) (dv 1))))) (db_nil)) (db_cons (ds_set sc_law_take.nd rfl (by first | exact Or.inl rfl | exact Or.inr rfl) (de_ix rfl (de_ix rfl (dv 0) (de_int) (fun _ _ => rfl)) (de_int) (fun _ _ => rfl))) (db_cons (ds_asg (de_op dop_div (dv 2) (dv 1)) (dg_sub (de_ix rfl (dv 0) (de_int) (fun _ _ => rfl)) (de_int) dset_list)) (db_cons (ds_if (dt_w (dw_or (dt_cmp (dop_eq rfl hr.units) (de_ix rfl (de_ix rfl (dv 0) (de_int) (fun _ _ => rfl)) (de_int) (fun _ _ => rfl)) (de_int) (nomark _)) (dw_or1 (dt_cmp (dop_eq rfl hr.units) (de_ix rfl (de_ix rfl (dv 0) (de_int) (fun _ _ => rfl)) (de_int) (fun _ _ => rfl)) (de_neg (de_int)) (nomark _))))) (db_one (ds_expr (de_mt PySem.F.plainAttrs_list PySem.F.slot_list_pop PySem.F.type_list_pop (dm_pop) (de_ix rfl (dv 0) (de_int) (fun _ _ => rfl)) (da_cons (de_int) (da_nil)) (fun a b c => pe_bm PySem.F.plainAttrs_list PySem.F.slot_list_pop PySem.F.type_list_pop a b c)))) (db_nil)) (db_one (ds_ret (de_op dop_mod (dv 2) (dv 1))))))), m, F.kp, F.binds (ps := ["_law_box", "_law_many"]) fun _ _ _ _ _ _ us hl => match us, hl with | [_, _], _ => rfl⟩
theorem sc_law_sign : FnScope ["_law_box", "_law_every"] ["_law_box"] (defScope s_law_sign) := ⟨rfl, rfl, rfl, by decide +kernel, rfl, by decide +kernel, by decide +kernel⟩
theorem ok_law_sign {m_law_take : FV} {f : Addr} {fd : FuncData} (F : Fun W.K "_law_sign" "_law_sign" s_law_sign f fd) (m : mg "_law_sign" = some (.ref f)) (T : Txt W mg) (c_law_take : Fn P w W mg base "_law_take" 1 2 m_law_take) : Fn P w W mg base "_law_sign" (2) 1 (funD 2 (d_law_sign m_law_take)) :=
  ⟨f, fd, ["_law_box"], fnE F sc_law_sign rfl rfl fun cdv A outer sh H E hr => db_cons (ds_set sc_law_sign.nd rfl (by first | exact Or.inl rfl | exact Or.inr rfl) (de_str (by decide +kernel) (by decide +kernel))) (db_one (ds_ret (de_ix rfl (dv 1) (dcall c_law_take hr passD (da_cons (dv 0) (da_cons (de_int) (da_nil)))) (fun _ _ => rfl)))), m, F.kp, F.binds (ps := ["_law_box"]) fun _ _ _ _ _ _ us hl => match us, hl with | [_], _ => rfl⟩
theorem sc_law_cell : FnScope ["_law_box", "_law_sort", "_law_way", "_law_odd", "_law_many", "_law_k"] ["_law_box", "_law_sort"] (defScope s_law_cell) := ⟨rfl, rfl, rfl, by decide +kernel, rfl, by decide +kernel, by decide +kernel⟩
theorem ok_law_cell {m_law_take m_law_sign : FV} {f : Addr} {fd : FuncData} (F : Fun W.K "_law_cell" "_law_cell" s_law_cell f fd) (m : mg "_law_cell" = some (.ref f)) (T : Txt W mg) (c_law_take : Fn P w W mg base "_law_take" 1 2 m_law_take) (c_law_sign : Fn P w W mg base "_law_sign" 2 1 m_law_sign) : Fn P w W mg base "_law_cell" (3) 2 (funD 6 (d_law_cell m_law_take m_law_sign)) :=
  ⟨f, fd, ["_law_box", "_law_sort"], fnE F sc_law_cell rfl rfl fun cdv A outer sh H E hr => db_cons (ds_set sc_law_cell.nd rfl (by first | exact Or.inl rfl | exact Or.inr rfl) (dcall c_law_take hr passD (da_cons (dv 0) (da_cons (de_int) (da_nil))))) (db_cons (ds_if (dt_cmp (dop_eq rfl hr.units) (dv 2) (de_int) (nomark _)) (db_one (ds_ret (de_str (by decide +kernel) (by decide +kernel)))) (db_nil)) (db_cons (ds_if (dt_w (dw_or (dt_cmp (dop_eq rfl hr.units) (dv 2) (de_int) (nomark _)) (dw_or1 (dt_w (dw_and (dt_cmp (dop_eq rfl hr.units) (dv 1) (de_int) (nomark _)) (dw_and1 (dt_cmp dop_lt (dv 2) (de_int) (nomark _)))))))) (db_one (ds_ret (de_op (dop_add false) (de_ix rfl (de_lst false (da_cons (de_str (by decide +kernel) (by decide +kernel)) (da_cons (de_str (by decide +kernel) (by decide +kernel)) (da_nil)))) (de_op dop_div (dcall c_law_take hr passD (da_cons (dv 0) (da_cons (de_int) (da_nil)))) (de_int)) (fun _ _ => rfl)) (de_callTy dc_str (by rfl) T.b_str (by decide +kernel) (da_cons (dcall c_law_take hr passD (da_cons (dv 0) (da_cons (de_ix rfl (de_lst false (da_cons (de_int) (da_cons (de_int) (da_cons (de_op dop_pow (de_int) (de_int)) (da_nil))))) (dcall c_law_take hr passD (da_cons (dv 0) (da_cons (de_int) (da_nil)))) (fun _ _ => rfl)) (da_nil)))) (da_nil)) (fun a b => pe_callTy a (by rfl) T.b_str (by decide +kernel) b))))) (db_nil)) (db_cons (ds_if (dt_cmp (dop_eq rfl hr.units) (dv 2) (de_int) (nomark _)) (db_cons (ds_set sc_law_cell.nd rfl (by first | exact Or.inl rfl | exact Or.inr rfl) (de_lst false (da_cons (de_str (by decide +kernel) (by decide +kernel)) (da_cons (de_str (by decide +kernel) (by decide +kernel)) (da_cons (de_str (by decide +kernel) (by decide +kernel)) (da_cons (de_str (by decide +kernel) (by decide +kernel)) (da_cons (de_str (by decide +kernel) (by decide +kernel)) (da_cons (de_str (by decide +kernel) (by decide +kernel)) (da_cons (de_str (by decide +kernel) (by decide +kernel)) (da_cons (de_str (by decide +kernel) (by decide +kernel)) (da_cons (de_str (by decide +kernel) (by decide +kernel)) (da_cons (de_str (by decide +kernel) (by decide +kernel)) (da_cons (de_str (by decide +kernel) (by decide +kernel)) (da_cons (de_str (by decide +kernel) (by decide +kernel)) (da_cons (de_str (by decide +kernel) (by decide +kernel)) (da_nil)))))))))))))))) (db_one (ds_ret (de_ix rfl (dv 3) (dcall c_law_take hr passD (da_cons (dv 0) (da_cons (de_int) (da_nil)))) (fun _ _ => rfl))))) (db_nil)) (db_cons (ds_set sc_law_cell.nd rfl (by first | exact Or.inl rfl | exact Or.inr rfl) (de_op (dop_add false) (de_int) (dcall c_law_take hr passD (da_cons (dv 0) (da_cons (de_ix rfl (de_lst false (da_cons (de_int) (da_cons (de_int) (da_nil)))) (dcall c_law_take hr passD (da_cons (dv 0) (da_cons (de_int) (da_nil)))) (fun _ _ => rfl)) (da_nil)))))) (db_cons (ds_if (dt_cmp dop_lt (dv 2) (de_int) (nomark _)) (db_one (ds_ret (de_mt PySem.F.plainAttrs_str PySem.F.slot_str_join PySem.F.type_str_join (dm_join) (de_str (by decide +kernel) (by decide +kernel)) (da_cons (de_lc false rfl sc_law_cell.nd (di_r1 (by rfl) T.b_range (da_cons (dv 4) (da_nil))) (by exact blkOk_by (N := ["_law_box", "_law_sort", "_law_way", "_law_odd", "_law_many", "_law_k"]) (sc := defScope s_law_cell) (own := [("_law_k", 5)]) (by decide +kernel)) rfl (by decide) (fun _ _ _ _ _ => tg_one sc_law_cell.nd rfl (by first | exact Or.inl rfl | exact Or.inr rfl)) (fun _ _ _ _ _ => dts_nil) (fun _ _ _ _ _ => de_ix rfl (de_str (by decide +kernel) (by decide +kernel)) (dcall c_law_take hr passL (da_cons (dv 0) (da_cons (de_int) (da_nil)))) (fun _ _ => rfl))) (da_nil)) (fun a b c => pe_bm PySem.F.plainAttrs_str PySem.F.slot_str_join PySem.F.type_str_join a b c)))) (db_nil)) (db_one (ds_ret (de_mt PySem.F.plainAttrs_str PySem.F.slot_str_join PySem.F.type_str_join (dm_join) (de_str (by decide +kernel) (by decide +kernel)) (da_cons (de_lc false rfl sc_law_cell.nd (di_r1 (by rfl) T.b_range (da_cons (dv 4) (da_nil))) (by exact blkOk_by (N := ["_law_box", "_law_sort", "_law_way", "_law_odd", "_law_many", "_law_k"]) (sc := defScope s_law_cell) (own := [("_law_k", 5)]) (by decide +kernel)) rfl (by decide) (fun _ _ _ _ _ => tg_one sc_law_cell.nd rfl (by first | exact Or.inl rfl | exact Or.inr rfl)) (fun _ _ _ _ _ => dts_nil) (fun _ _ _ _ _ => dcall c_law_sign hr passL (da_cons (dv 0) (da_nil)))) (da_nil)) (fun a b c => pe_bm PySem.F.plainAttrs_str PySem.F.slot_str_join PySem.F.type_str_join a b c))))))))), m, F.kp, F.binds (ps := ["_law_box", "_law_sort"]) fun _ _ _ _ _ _ us hl => match us, hl with | [_, _], _ => rfl⟩
theorem sc_law_row : FnScope ["_law_box", "_law_sorts", "_law_many", "_law_k"] ["_law_box", "_law_sorts", "_law_many"] (defScope s_law_row) := ⟨rfl, rfl, rfl, by decide +kernel, rfl, by decide +kernel, by decide +kernel⟩
theorem ok_law_row {m_law_cell : FV} {f : Addr} {fd : FuncData} (F : Fun W.K "_law_row" "_law_row" s_law_row f fd) (m : mg "_law_row" = some (.ref f)) (T : Txt W mg) (c_law_cell : Fn P w W mg base "_law_cell" 3 2 m_law_cell) : Fn P w W mg base "_law_row" (4) 3 (funD 4 (d_law_row m_law_cell)) :=
  ⟨f, fd, ["_law_box", "_law_sorts", "_law_many"], fnE F sc_law_row rfl rfl fun cdv A outer sh H E hr => db_one (ds_ret (de_callTy dc_tup (by rfl) T.b_tuple (by decide +kernel) (da_cons (de_lc false rfl sc_law_row.nd (di_r1 (by rfl) T.b_range (da_cons (dv 2) (da_nil))) (by exact blkOk_by (N := ["_law_box", "_law_sorts", "_law_many", "_law_k"]) (sc := defScope s_law_row) (own := [("_law_k", 3)]) (by decide +kernel)) rfl (by decide) (fun _ _ _ _ _ => tg_one sc_law_row.nd rfl (by first | exact Or.inl rfl | exact Or.inr rfl)) (fun _ _ _ _ _ => dts_nil) (fun _ _ _ _ _ => dcall c_law_cell hr passL (da_cons (dv 0) (da_cons (de_ix rfl (dv 1) (dv 3) (fun _ _ => rfl)) (da_nil))))) (da_nil)) (fun a b => pe_callTy a (by rfl) T.b_tuple (by decide +kernel) b))), m, F.kp, F.binds (ps := ["_law_box", "_law_sorts", "_law_many"]) fun _ _ _ _ _ _ us hl => match us, hl with | [_, _, _], _ => rfl⟩
theorem sc_law_page : FnScope ["_law_box", "_law_most", "_law_sorts", "_law_many", "_law_rows", "_law_turn", "_law_way", "_law_k"] ["_law_box", "_law_most"] (defScope s_law_page) := ⟨rfl, rfl, rfl, by decide +kernel, rfl, by decide +kernel, by decide +kernel⟩
theorem ok_law_page {m_law_take m_law_row : FV} {f : Addr} {fd : FuncData} (F : Fun W.K "_law_page" "_law_page" s_law_page f fd) (m : mg "_law_page" = some (.ref f)) (T : Txt W mg) (c_law_take : Fn P w W mg base "_law_take" 1 2 m_law_take) (c_law_row : Fn P w W mg base "_law_row" 4 3 m_law_row) : Fn P w W mg base "_law_page" (5) 2 (funD 8 (d_law_page m_law_take m_law_row)) :=
  ⟨f, fd, ["_law_box", "_law_most"], fnE F sc_law_page rfl rfl fun cdv A outer sh H E hr => db_cons (ds_setLc false rfl sc_law_page.nd rfl rfl (sw_true rfl rfl rfl (by decide +kernel)) (di_r1 (by rfl) T.b_range (da_cons (de_int) (da_nil))) (by exact blkOk_by (N := ["_law_box", "_law_most", "_law_sorts", "_law_many", "_law_rows", "_law_turn", "_law_way", "_law_k"]) (sc := defScope s_law_page) (own := [("_law_k", 7)]) (by decide +kernel)) rfl (by decide) (fun _ _ _ _ _ => tg_one sc_law_page.nd rfl (by first | exact Or.inl rfl | exact Or.inr rfl)) (fun _ _ _ _ _ => dts_nil) (fun _ _ _ _ _ => dcall c_law_take hr passL (da_cons (dv 0) (da_cons (de_int) (da_nil))))) (db_cons (ds_par rfl sc_law_page.nd rfl rfl (by decide) rfl rfl (da_cons (de_op (dop_add false) (de_int) (dcall c_law_take hr passD (da_cons (dv 0) (da_cons (de_int) (da_nil))))) (da_cons (de_lst true (da_nil)) (da_nil))) (by rfl)) (db_cons (ds_for passF rfl (di_r1 (by rfl) T.b_range (da_cons (de_op (dop_add false) (de_int) (dcall c_law_take hr passD (da_cons (dv 0) (da_cons (dv 1) (da_nil))))) (da_nil))) (dg_name sc_law_page.nd rfl (by first | exact Or.inl rfl | exact Or.inr rfl)) (db_cons (ds_set sc_law_page.nd rfl (by first | exact Or.inl rfl | exact Or.inr rfl) (dcall c_law_take hr passD (da_cons (dv 0) (da_cons (de_int) (da_nil))))) (db_cons (ds_set sc_law_page.nd rfl (by first | exact Or.inl rfl | exact Or.inr rfl) (de_ix rfl (de_lst false (da_cons (de_op (dop_add false) (de_int) (dcall c_law_take hr passD (da_cons (dv 0) (da_cons (de_int) (da_nil))))) (da_cons (de_callB (dc_max rfl) (by rfl) T.b_max (by decide +kernel) (da_cons (de_int) (da_cons (de_op dop_sub (dv 3) (de_int)) (da_nil))) (fun a b => pe_callB a (by rfl) T.b_max (by decide +kernel) b)) (da_cons (de_callB (dc_min rfl) (by rfl) T.b_min (by decide +kernel) (da_cons (de_int) (da_cons (de_op (dop_add false) (dv 3) (de_int)) (da_nil))) (fun a b => pe_callB a (by rfl) T.b_min (by decide +kernel) b)) (da_cons (dv 3) (da_nil)))))) (de_callB (dc_min rfl) (by rfl) T.b_min (by decide +kernel) (da_cons (dv 6) (da_cons (de_int) (da_nil))) (fun a b => pe_callB a (by rfl) T.b_min (by decide +kernel) b)) (fun _ _ => rfl))) (db_cons (ds_expr (de_mt PySem.F.plainAttrs_list PySem.F.slot_list_append PySem.F.type_list_append (dm_append) (dv 4) (da_cons (dcall c_law_row hr passD (da_cons (dv 0) (da_cons (dv 2) (da_cons (dv 3) (da_nil))))) (da_nil)) (fun a b c => pe_bm PySem.F.plainAttrs_list PySem.F.slot_list_append PySem.F.type_list_append a b c))) (db_one (ds_if (dt_cmp (dop_eq rfl hr.units) (dv 6) (de_int) (nomark _)) (db_cons (ds_asg (de_ix rfl (dv 4) (dcall c_law_take hr passD (da_cons (dv 0) (da_cons (de_callB dc_len (by rfl) T.b_len (by decide +kernel) (da_cons (dv 4) (da_nil)) (fun a b => pe_callB a (by rfl) T.b_len (by decide +kernel) b)) (da_nil)))) (fun _ _ => rfl)) (dg_sub (dv 4) (de_neg (de_int)) dset_list)) (db_one (ds_set sc_law_page.nd rfl (by first | exact Or.inl rfl | exact Or.inr rfl) (de_callB dc_len (by rfl) T.b_len (by decide +kernel) (da_cons (de_ix rfl (dv 4) (de_neg (de_int)) (fun _ _ => rfl)) (da_nil)) (fun a b => pe_callB a (by rfl) T.b_len (by decide +kernel) b))))) (db_nil))))))) (db_one (ds_ret (dv 4))))), m, F.kp, F.binds (ps := ["_law_box", "_law_most"]) fun _ _ _ _ _ _ us hl => match us, hl with | [_, _], _ => rfl⟩
theorem sc_law_style : FnScope ["_law_box", "_law_gap"] ["_law_box"] (defScope s_law_style) := ⟨rfl, rfl, rfl, by decide +kernel, rfl, by decide +kernel, by decide +kernel⟩
theorem ok_law_style {m_law_take : FV} {f : Addr} {fd : FuncData} (F : Fun W.K "_law_style" "_law_style" s_law_style f fd) (m : mg "_law_style" = some (.ref f)) (T : Txt W mg) (c_law_take : Fn P w W mg base "_law_take" 1 2 m_law_take) : Fn P w W mg base "_law_style" (2) 1 (funD 2 (d_law_style m_law_take)) :=
  ⟨f, fd, ["_law_box"], fnE F sc_law_style rfl rfl fun cdv A outer sh H E hr => db_cons (ds_set sc_law_style.nd rfl (by first | exact Or.inl rfl | exact Or.inr rfl) (de_ix rfl (de_lst false (da_cons (dcall c_law_take hr passD (da_cons (dv 0) (da_cons (de_int) (da_nil)))) (da_cons (de_int) (da_cons (de_int) (da_nil))))) (dcall c_law_take hr passD (da_cons (dv 0) (da_cons (de_int) (da_nil)))) (fun _ _ => rfl))) (db_one (ds_ret (de_tup (da_cons (dv 1) (da_cons (de_ix rfl (de_lst false (da_cons (de_int) (da_cons (dcall c_law_take hr passD (da_cons (dv 0) (da_cons (de_int) (da_nil)))) (da_cons (dcall c_law_take hr passD (da_cons (dv 0) (da_cons (de_int) (da_nil)))) (da_nil))))) (dcall c_law_take hr passD (da_cons (dv 0) (da_cons (de_int) (da_nil)))) (fun _ _ => rfl)) (da_nil)))))), m, F.kp, F.binds (ps := ["_law_box"]) fun _ _ _ _ _ _ us hl => match us, hl with | [_], _ => rfl⟩
theorem sc_is_number : FnScope ["part", "low", "high"] ["part", "low", "high"] (defScope s_is_number) := ⟨rfl, rfl, rfl, by decide +kernel, rfl, by decide +kernel, by decide +kernel⟩
theorem ok_is_number {f : Addr} {fd : FuncData} (F : Fun W.K "is_number" "is_number" s_is_number f fd) (m : mg "is_number" = some (.ref f)) (T : Txt W mg)  : Fn P w W mg base "is_number" (1) 3 (funD 3 d_is_number) :=
  ⟨f, fd, ["part", "low", "high"], fnE F sc_is_number rfl rfl fun cdv A outer sh H E hr => db_one (ds_ret (de_and (de_isinst (by simp) (dv 0) (pe_bltn (by rfl) T.b_int (by decide +kernel) rfl) (fun a b => pe_callB a (by rfl) T.b_isinstance (by decide +kernel) b) (fun p => pa_cons p (pa_cons (pe_bltn (by rfl) T.b_int (by decide +kernel) rfl) pa_nil))) (de_and (de_not (de_isinst (by simp) (dv 0) (pe_bltn (by rfl) T.b_bool (by decide +kernel) rfl) (fun a b => pe_callB a (by rfl) T.b_isinstance (by decide +kernel) b) (fun p => pa_cons p (pa_cons (pe_bltn (by rfl) T.b_bool (by decide +kernel) rfl) pa_nil)))) (de_one (de_chain dop_le dop_le (dv 1) (dv 0) (dv 2) (by with_unfolding_all rfl)))))), m, F.kp, F.binds (ps := ["part", "low", "high"]) fun _ _ _ _ _ _ us hl => match us, hl with | [_, _, _], _ => rfl⟩
theorem sc_Sheet_need_number : FnScope ["self", "number", "most"] ["self", "number", "most"] (defScope s_Sheet_need_number) := ⟨rfl, rfl, rfl, by decide +kernel, rfl, by decide +kernel, by decide +kernel⟩
theorem ok_Sheet_need_number {m_is_number : FV} {f : Addr} {fd : FuncData} (F : Fun W.K "need_number" "Sheet.need_number" s_Sheet_need_number f fd) (M : Meth W.K (W.cls 13) "need_number" f) (T : Txt W mg) (c_is_number : Fn P w W mg base "is_number" 1 3 m_is_number) : Mt P w W mg base 13 "need_number" (2) 3 (funD 3 (d_Sheet_need_number m_is_number)) :=
  ⟨⟨f, fd, ["self", "number", "most"], fnE F sc_Sheet_need_number rfl rfl fun cdv A outer sh H E hr => db_one (ds_if (dt_not (dt_val (dcall c_is_number hr passD (da_cons (dv 1) (da_cons (de_int) (da_cons (dv 2) (da_nil))))))) (db_one (ds_raise rfl rfl takesD T.ex_BadRow (by rfl))) (db_nil)), M, F.binds (ps := ["self", "number", "most"]) fun _ _ _ _ _ _ us hl => match us, hl with | [_, _, _], _ => rfl⟩, T.cl_Sheet⟩
theorem sc_Sheet_need_place : FnScope ["self", "number", "cell", "place"] ["self", "number", "cell", "place"] (defScope s_Sheet_need_place) := ⟨rfl, rfl, rfl, by decide +kernel, rfl, by decide +kernel, by decide +kernel⟩
theorem ok_Sheet_need_place {m_Sheet_need_number m_is_number : FV} {f : Addr} {fd : FuncData} (F : Fun W.K "need_place" "Sheet.need_place" s_Sheet_need_place f fd) (M : Meth W.K (W.cls 13) "need_place" f) (T : Txt W mg) (c_Sheet_need_number : Mt P w W mg base 13 "need_number" 2 3 m_Sheet_need_number) (c_is_number : Fn P w W mg base "is_number" 1 3 m_is_number) : Mt P w W mg base 13 "need_place" (3) 4 (funD 4 (d_Sheet_need_place m_Sheet_need_number m_is_number)) :=
  ⟨⟨f, fd, ["self", "number", "cell", "place"], fnE F sc_Sheet_need_place rfl rfl fun cdv A outer sh H E hr => db_cons (ds_expr (dmeth c_Sheet_need_number (dv 0) hr passD (da_cons (dv 1) (da_cons (de_op dop_sub (de_callB dc_len (by rfl) T.b_len (by decide +kernel) (da_cons (de_fld rfl (dv 0) T.cl_Sheet T.na_Sheet_rows) (da_nil)) (fun a b => pe_callB a (by rfl) T.b_len (by decide +kernel) b)) (de_int)) (da_nil))))) (db_cons (ds_if (dt_not (dt_val (dcall c_is_number hr passD (da_cons (dv 2) (da_cons (de_int) (da_cons (de_op dop_sub (de_callB dc_len (by rfl) T.b_len (by decide +kernel) (da_cons (de_ix rfl (de_fld rfl (dv 0) T.cl_Sheet T.na_Sheet_rows) (dv 1) (fun _ _ => rfl)) (da_nil)) (fun a b => pe_callB a (by rfl) T.b_len (by decide +kernel) b)) (de_int)) (da_nil))))))) (db_one (ds_raise rfl rfl takesD T.ex_BadCell (by rfl))) (db_nil)) (db_one (ds_if (dt_not (dt_val (dcall c_is_number hr passD (da_cons (dv 3) (da_cons (de_int) (da_cons (de_callB dc_len (by rfl) T.b_len (by decide +kernel) (da_cons (de_ix rfl (de_ix rfl (de_fld rfl (dv 0) T.cl_Sheet T.na_Sheet_rows) (dv 1) (fun _ _ => rfl)) (dv 2) (fun _ _ => rfl)) (da_nil)) (fun a b => pe_callB a (by rfl) T.b_len (by decide +kernel) b)) (da_nil))))))) (db_one (ds_raise rfl rfl takesD T.ex_BadCell (by rfl))) (db_nil)))), M, F.binds (ps := ["self", "number", "cell", "place"]) fun _ _ _ _ _ _ us hl => match us, hl with | [_, _, _, _], _ => rfl⟩, T.cl_Sheet⟩
theorem sc_Stretch_width : FnScope ["self", "style", "cell"] ["self", "style"] (defScope s_Stretch_width) := ⟨rfl, rfl, rfl, by decide +kernel, rfl, by decide +kernel, by decide +kernel⟩
theorem ok_Stretch_width {f : Addr} {fd : FuncData} (F : Fun W.K "width" "Stretch.width" s_Stretch_width f fd) (M : Meth W.K (W.cls 12) "width" f) (T : Txt W mg)  : Mt P w W mg base 12 "width" (1) 2 (funD 3 d_Stretch_width) :=
  ⟨⟨f, fd, ["self", "style"], fnE F sc_Stretch_width rfl rfl fun cdv A outer sh H E hr => db_one (ds_ret (de_callB (dc_max rfl) (by rfl) T.b_max (by decide +kernel) (da_cons (de_ix rfl (dv 1) (de_int) (fun _ _ => rfl)) (da_cons (de_op (dop_add false) (de_callB (dc_max rfl) (by rfl) T.b_max (by decide +kernel) (da_cons (de_lc false rfl sc_Stretch_width.nd (di_seq (de_fld rfl (dv 0) T.cl_Stretch T.na_Stretch_cells)) (by exact blkOk_by (N := ["self", "style", "cell"]) (sc := defScope s_Stretch_width) (own := [("cell", 2)]) (by decide +kernel)) rfl (by decide) (fun _ _ _ _ _ => tg_one sc_Stretch_width.nd rfl (by first | exact Or.inl rfl | exact Or.inr rfl)) (fun _ _ _ _ _ => dts_nil) (fun _ _ _ _ _ => de_callB dc_len (by rfl) T.b_len (by decide +kernel) (da_cons (dv 2) (da_nil)) (fun a b => pe_callB a (by rfl) T.b_len (by decide +kernel) b))) (da_nil)) (fun a b => pe_callB a (by rfl) T.b_max (by decide +kernel) b)) (de_ix rfl (dv 1) (de_int) (fun _ _ => rfl))) (da_nil))) (fun a b => pe_callB a (by rfl) T.b_max (by decide +kernel) b))), M, F.binds (ps := ["self", "style"]) fun _ _ _ _ _ _ us hl => match us, hl with | [_, _], _ => rfl⟩, T.cl_Stretch⟩
theorem sc_stops_by : FnScope ["rows", "style", "some", "widths", "one", "number", "found", "row", "lefts", "column"] ["rows", "style", "some"] (defScope s_stops_by) := ⟨rfl, rfl, rfl, by decide +kernel, rfl, by decide +kernel, by decide +kernel⟩
theorem ok_stops_by {m_Stretch_width : FV} {f : Addr} {fd : FuncData} (F : Fun W.K "stops_by" "stops_by" s_stops_by f fd) (m : mg "stops_by" = some (.ref f)) (T : Txt W mg) (c_Stretch_width : Mt P w W mg base 12 "width" 1 2 m_Stretch_width) : Fn P w W mg base "stops_by" (2) 3 (funD 10 (d_stops_by m_Stretch_width)) :=
  ⟨f, fd, ["rows", "style", "some"], fnE F sc_stops_by rfl rfl fun cdv A outer sh H E hr => db_cons (ds_set sc_stops_by.nd rfl (by first | exact Or.inl rfl | exact Or.inr rfl) (de_dictT)) (db_cons (ds_for passF rfl (di_seq (dv 2)) (dg_name sc_stops_by.nd rfl (by first | exact Or.inl rfl | exact Or.inr rfl)) (db_one (ds_for passF rfl (di_r2 (by rfl) T.b_range (da_cons (de_fld rfl (dv 4) T.cl_Stretch T.na_Stretch_begin) (da_cons (de_fld rfl (dv 4) T.cl_Stretch T.na_Stretch_end) (da_nil)))) (dg_name sc_stops_by.nd rfl (by first | exact Or.inl rfl | exact Or.inr rfl)) (db_one (ds_asg (dmeth c_Stretch_width (dv 4) hr passD (da_cons (dv 1) (da_nil))) (dg_sub (dv 3) (de_tup (da_cons (dv 5) (da_cons (de_fld rfl (dv 4) T.cl_Stretch T.na_Stretch_column) (da_nil)))) (dset_dict (Dl.hu_of hr)))))))) (db_cons (ds_set sc_stops_by.nd rfl (by first | exact Or.inl rfl | exact Or.inr rfl) (de_lst true (da_nil))) (db_cons (ds_for passF rfl (di_enum (by rfl) T.b_enumerate (da_cons (dv 0) (da_nil))) (dg_tup rfl (dgs_cons (dg_name sc_stops_by.nd rfl (by first | exact Or.inl rfl | exact Or.inr rfl)) (dgs_cons (dg_name sc_stops_by.nd rfl (by first | exact Or.inl rfl | exact Or.inr rfl)) (dgs_nil)))) (db_cons (ds_set sc_stops_by.nd rfl (by first | exact Or.inl rfl | exact Or.inr rfl) (de_lst true (da_cons (de_int) (da_nil)))) (db_cons (ds_for passF rfl (di_r1 (by rfl) T.b_range (da_cons (de_op dop_sub (de_callB dc_len (by rfl) T.b_len (by decide +kernel) (da_cons (dv 7) (da_nil)) (fun a b => pe_callB a (by rfl) T.b_len (by decide +kernel) b)) (de_int)) (da_nil))) (dg_name sc_stops_by.nd rfl (by first | exact Or.inl rfl | exact Or.inr rfl)) (db_one (ds_expr (de_mt PySem.F.plainAttrs_list PySem.F.slot_list_append PySem.F.type_list_append (dm_append) (dv 8) (da_cons (de_op (dop_add false) (de_ix rfl (dv 8) (de_neg (de_int)) (fun _ _ => rfl)) (de_dget (Dl.hu_of hr) (dv 3) (de_tup (da_cons (dv 5) (da_cons (dv 9) (da_nil)))) (fun _ _ => rfl))) (da_nil)) (fun a b c => pe_bm PySem.F.plainAttrs_list PySem.F.slot_list_append PySem.F.type_list_append a b c))))) (db_one (ds_expr (de_mt PySem.F.plainAttrs_list PySem.F.slot_list_append PySem.F.type_list_append (dm_append) (dv 6) (da_cons (dv 8) (da_nil)) (fun a b c => pe_bm PySem.F.plainAttrs_list PySem.F.slot_list_append PySem.F.type_list_append a b c))))))) (db_one (ds_ret (dv 6)))))), m, F.kp, F.binds (ps := ["rows", "style", "some"]) fun _ _ _ _ _ _ us hl => match us, hl with | [_, _, _], _ => rfl⟩
theorem sc_is_figures : FnScope ["cell", "rest", "sign"] ["cell"] (defScope s_is_figures) := ⟨rfl, rfl, rfl, by decide +kernel, rfl, by decide +kernel, by decide +kernel⟩
theorem ok_is_figures {f : Addr} {fd : FuncData} (F : Fun W.K "is_figures" "is_figures" s_is_figures f fd) (m : mg "is_figures" = some (.ref f)) (T : Txt W mg)  : Fn P w W mg base "is_figures" (1) 1 (funD 3 d_is_figures) :=
  ⟨f, fd, ["cell"], fnE F sc_is_figures rfl rfl fun cdv A outer sh H E hr => db_cons (ds_set sc_is_figures.nd rfl (by first | exact Or.inl rfl | exact Or.inr rfl) (de_if (dt_cmp (dop_eq rfl hr.units) (de_sl false rfl (dv 0) (dp_none) (dp_some (de_int))) (de_str (by decide +kernel) (by decide +kernel)) (nomark _)) (de_sl false rfl (dv 0) (dp_some (de_int)) (dp_none)) (dv 0))) (db_one (ds_ret (de_and (de_cmp (dop_ne rfl hr.units) (dv 1) (de_str (by decide +kernel) (by decide +kernel)) (nomark _)) (de_one (de_cmp (dop_eq rfl hr.units) (de_lc false rfl sc_is_figures.nd (di_seq (dv 1)) (by exact blkOk_by (N := ["cell", "rest", "sign"]) (sc := defScope s_is_figures) (own := [("sign", 2)]) (by decide +kernel)) rfl (by decide) (fun _ _ _ _ _ => tg_one sc_is_figures.nd rfl (by first | exact Or.inl rfl | exact Or.inr rfl)) (fun _ _ _ _ _ => dts_one (dt_cmp (dop_notin rfl) (dv 2) (de_globS rfl T.k_FIGURES.choose_spec (by decide +kernel) (by decide +kernel)) (by rfl))) (fun _ _ _ _ _ => dv 2)) (de_lst false (da_nil)) (nomark _)))))), m, F.kp, F.binds (ps := ["cell"]) fun _ _ _ _ _ _ us hl => match us, hl with | [_], _ => rfl⟩
theorem sc_Stretch_is_right : FnScope ["self", "full", "cell"] ["self"] (defScope s_Stretch_is_right) := ⟨rfl, rfl, rfl, by decide +kernel, rfl, by decide +kernel, by decide +kernel⟩
theorem ok_Stretch_is_right {m_is_figures : FV} {f : Addr} {fd : FuncData} (F : Fun W.K "is_right" "Stretch.is_right" s_Stretch_is_right f fd) (M : Meth W.K (W.cls 12) "is_right" f) (T : Txt W mg) (c_is_figures : Fn P w W mg base "is_figures" 1 1 m_is_figures) : Mt P w W mg base 12 "is_right" (2) 1 (funD 3 (d_Stretch_is_right m_is_figures)) :=
  ⟨⟨f, fd, ["self"], fnE F sc_Stretch_is_right rfl rfl fun cdv A outer sh H E hr => db_cons (ds_setLc false rfl sc_Stretch_is_right.nd rfl rfl (sw_true rfl rfl rfl (by decide +kernel)) (di_seq (de_fld rfl (dv 0) T.cl_Stretch T.na_Stretch_cells)) (by exact blkOk_by (N := ["self", "full", "cell"]) (sc := defScope s_Stretch_is_right) (own := [("cell", 2)]) (by decide +kernel)) rfl (by decide) (fun _ _ _ _ _ => tg_one sc_Stretch_is_right.nd rfl (by first | exact Or.inl rfl | exact Or.inr rfl)) (fun _ _ _ _ _ => dts_one (dt_cmp (dop_ne rfl hr.units) (dv 2) (de_str (by decide +kernel) (by decide +kernel)) (nomark _))) (fun _ _ _ _ _ => dv 2)) (db_one (ds_ret (de_and (de_cmp (dop_ne rfl hr.units) (dv 1) (de_lst false (da_nil)) (nomark _)) (de_one (de_cmp (dop_eq rfl hr.units) (de_lc false rfl sc_Stretch_is_right.nd (di_seq (dv 1)) (by exact blkOk_by (N := ["self", "full", "cell"]) (sc := defScope s_Stretch_is_right) (own := [("cell", 2)]) (by decide +kernel)) rfl (by decide) (fun _ _ _ _ _ => tg_one sc_Stretch_is_right.nd rfl (by first | exact Or.inl rfl | exact Or.inr rfl)) (fun _ _ _ _ _ => dts_one (dt_not (dt_val (dcall c_is_figures hr passL (da_cons (dv 2) (da_nil)))))) (fun _ _ _ _ _ => dv 2)) (de_lst false (da_nil)) (nomark _)))))), M, F.binds (ps := ["self"]) fun _ _ _ _ _ _ us hl => match us, hl with | [_], _ => rfl⟩, T.cl_Stretch⟩
theorem sc_begins_by : FnScope ["rows", "style", "some", "found", "one", "k", "row"] ["rows", "style", "some"] (defScope s_begins_by) := ⟨rfl, rfl, rfl, by decide +kernel, rfl, by decide +kernel, by decide +kernel⟩
theorem ok_begins_by {m_stops_by m_Stretch_is_right m_Stretch_width : FV} {f : Addr} {fd : FuncData} (F : Fun W.K "begins_by" "begins_by" s_begins_by f fd) (m : mg "begins_by" = some (.ref f)) (T : Txt W mg) (c_stops_by : Fn P w W mg base "stops_by" 2 3 m_stops_by) (c_Stretch_is_right : Mt P w W mg base 12 "is_right" 2 1 m_Stretch_is_right) (c_Stretch_width : Mt P w W mg base 12 "width" 1 2 m_Stretch_width) : Fn P w W mg base "begins_by" (3) 3 (funD 7 (d_begins_by m_stops_by m_Stretch_is_right m_Stretch_width)) :=
  ⟨f, fd, ["rows", "style", "some"], fnE F sc_begins_by rfl rfl fun cdv A outer sh H E hr => db_cons (ds_set sc_begins_by.nd rfl (by first | exact Or.inl rfl | exact Or.inr rfl) (dcall c_stops_by hr passD (da_cons (dv 0) (da_cons (dv 1) (da_cons (dv 2) (da_nil)))))) (db_cons (ds_for passF rfl (di_seq (dv 2)) (dg_name sc_begins_by.nd rfl (by first | exact Or.inl rfl | exact Or.inr rfl)) (db_one (ds_if (dt_val (dmeth0 c_Stretch_is_right (dv 4) hr passD)) (db_one (ds_for passF rfl (di_r1 (by rfl) T.b_range (da_cons (de_callB dc_len (by rfl) T.b_len (by decide +kernel) (da_cons (de_fld rfl (dv 4) T.cl_Stretch T.na_Stretch_cells) (da_nil)) (fun a b => pe_callB a (by rfl) T.b_len (by decide +kernel) b)) (da_nil))) (dg_name sc_begins_by.nd rfl (by first | exact Or.inl rfl | exact Or.inr rfl)) (db_cons (ds_set sc_begins_by.nd rfl (by first | exact Or.inl rfl | exact Or.inr rfl) (de_ix rfl (dv 3) (de_op (dop_add false) (de_fld rfl (dv 4) T.cl_Stretch T.na_Stretch_begin) (dv 5)) (fun _ _ => rfl))) (db_one (ds_asg (de_op dop_sub (de_op dop_sub (de_op (dop_add false) (de_ix rfl (dv 6) (de_fld rfl (dv 4) T.cl_Stretch T.na_Stretch_column) (fun _ _ => rfl)) (dmeth c_Stretch_width (dv 4) hr passD (da_cons (dv 1) (da_nil)))) (de_ix rfl (dv 1) (de_int) (fun _ _ => rfl))) (de_callB dc_len (by rfl) T.b_len (by decide +kernel) (da_cons (de_ix rfl (de_fld rfl (dv 4) T.cl_Stretch T.na_Stretch_cells) (dv 5) (fun _ _ => rfl)) (da_nil)) (fun a b => pe_callB a (by rfl) T.b_len (by decide +kernel) b))) (dg_sub (dv 6) (de_fld rfl (dv 4) T.cl_Stretch T.na_Stretch_column) dset_list)))))) (db_nil)))) (db_one (ds_ret (dv 3)))), m, F.kp, F.binds (ps := ["rows", "style", "some"]) fun _ _ _ _ _ _ us hl => match us, hl with | [_, _, _], _ => rfl⟩
theorem sc_Stretch_init : FnScope ["self", "column", "begin", "cells"] ["self", "column", "begin", "cells"] (defScope s_Stretch_init) := ⟨rfl, rfl, rfl, by decide +kernel, rfl, by decide +kernel, by decide +kernel⟩
theorem ok_Stretch_init {f : Addr} {fd : FuncData} (F : Fun W.K "__init__" "Stretch.__init__" s_Stretch_init f fd) (M : Mk W.K (W.cls 12) f) (m : mg "Stretch" = some (.ref (W.cls 12))) (T : Txt W mg)  : Nw P w W mg base "Stretch" 12 (1) 4 (funD 4 d_Stretch_init) :=
  ⟨f, fd, ["self", "column", "begin", "cells"], fnE F sc_Stretch_init rfl rfl fun cdv A outer sh H E hr => db_cons (ds_fld rfl (dv 0) (dv 1) T.cl_Stretch T.na_Stretch_column) (db_cons (ds_fld rfl (dv 0) (dv 2) T.cl_Stretch T.na_Stretch_begin) (db_cons (ds_fld rfl (dv 0) (de_op (dop_add false) (dv 2) (de_callB dc_len (by rfl) T.b_len (by decide +kernel) (da_cons (dv 3) (da_nil)) (fun a b => pe_callB a (by rfl) T.b_len (by decide +kernel) b))) T.cl_Stretch T.na_Stretch_end) (db_one (ds_fld rfl (dv 0) (dv 3) T.cl_Stretch T.na_Stretch_cells)))), M, m, F.binds (ps := ["self", "column", "begin", "cells"]) fun _ _ _ _ _ _ us hl => match us, hl with | [_, _, _, _], _ => rfl⟩
theorem sc_stretches_of : FnScope ["rows", "column", "begin", "end", "found", "first", "number", "is_closed", "k"] ["rows", "column", "begin", "end"] (defScope s_stretches_of) := ⟨rfl, rfl, rfl, by decide +kernel, rfl, by decide +kernel, by decide +kernel⟩
theorem ok_stretches_of {m_Stretch_init : FV} {f : Addr} {fd : FuncData} (F : Fun W.K "stretches_of" "stretches_of" s_stretches_of f fd) (m : mg "stretches_of" = some (.ref f)) (T : Txt W mg) (n_Stretch : Nw P w W mg base "Stretch" 12 1 4 m_Stretch_init) : Fn P w W mg base "stretches_of" (3) 4 (funD 9 (d_stretches_of m_Stretch_init)) :=
  ⟨f, fd, ["rows", "column", "begin", "end"], fnE F sc_stretches_of rfl rfl fun cdv A outer sh H E hr => db_cons (ds_set sc_stretches_of.nd rfl (by first | exact Or.inl rfl | exact Or.inr rfl) (de_lst true (da_nil))) (db_cons (ds_set sc_stretches_of.nd rfl (by first | exact Or.inl rfl | exact Or.inr rfl) (de_non)) (db_cons (ds_for passF rfl (di_r2 (by rfl) T.b_range (da_cons (dv 2) (da_cons (de_op (dop_add false) (dv 3) (de_int)) (da_nil)))) (dg_name sc_stretches_of.nd rfl (by first | exact Or.inl rfl | exact Or.inr rfl)) (db_cons (ds_set sc_stretches_of.nd rfl (by first | exact Or.inl rfl | exact Or.inr rfl) (de_and (de_cmp dop_lt (dv 6) (dv 3) (nomark _)) (de_one (de_cmp dop_gt (de_callB dc_len (by rfl) T.b_len (by decide +kernel) (da_cons (de_ix rfl (dv 0) (dv 6) (fun _ _ => rfl)) (da_nil)) (fun a b => pe_callB a (by rfl) T.b_len (by decide +kernel) b)) (de_op (dop_add false) (dv 1) (de_int)) (nomark _))))) (db_cons (ds_if (dt_w (dw_and (dt_val (dv 7)) (dw_and1 (dt_cmp dop_is (dv 5) (de_non) (nomark _))))) (db_one (ds_set sc_stretches_of.nd rfl (by first | exact Or.inl rfl | exact Or.inr rfl) (dv 6))) (db_nil)) (db_one (ds_if (dt_w (dw_and (dt_not (dt_val (dv 7))) (dw_and1 (dt_cmp dop_isnot (dv 5) (de_non) (nomark _))))) (db_cons (ds_expr (de_mt PySem.F.plainAttrs_list PySem.F.slot_list_append PySem.F.type_list_append (dm_append) (dv 4) (da_cons (dmake n_Stretch hr passD (da_cons (dv 1) (da_cons (dv 5) (da_cons (de_lc false rfl sc_stretches_of.nd (di_r2 (by rfl) T.b_range (da_cons (dv 5) (da_cons (dv 6) (da_nil)))) (by exact blkOk_by (N := ["rows", "column", "begin", "end", "found", "first", "number", "is_closed", "k"]) (sc := defScope s_stretches_of) (own := [("k", 8)]) (by decide +kernel)) rfl (by decide) (fun _ _ _ _ _ => tg_one sc_stretches_of.nd rfl (by first | exact Or.inl rfl | exact Or.inr rfl)) (fun _ _ _ _ _ => dts_nil) (fun _ _ _ _ _ => de_ix rfl (de_ix rfl (dv 0) (dv 8) (fun _ _ => rfl)) (dv 1) (fun _ _ => rfl))) (da_nil))))) (da_nil)) (fun a b c => pe_bm PySem.F.plainAttrs_list PySem.F.slot_list_append PySem.F.type_list_append a b c))) (db_one (ds_set sc_stretches_of.nd rfl (by first | exact Or.inl rfl | exact Or.inr rfl) (de_non)))) (db_nil)))))) (db_one (ds_ret (dv 4))))), m, F.kp, F.binds (ps := ["rows", "column", "begin", "end"]) fun _ _ _ _ _ _ us hl => match us, hl with | [_, _, _, _], _ => rfl⟩
theorem sc_all_stretches : FnScope ["rows", "found", "column"] ["rows"] (defScope s_all_stretches) := ⟨rfl, rfl, rfl, by decide +kernel, rfl, by decide +kernel, by decide +kernel⟩
theorem ok_all_stretches {m_stretches_of : FV} {f : Addr} {fd : FuncData} (F : Fun W.K "all_stretches" "all_stretches" s_all_stretches f fd) (m : mg "all_stretches" = some (.ref f)) (T : Txt W mg) (c_stretches_of : Fn P w W mg base "stretches_of" 3 4 m_stretches_of) : Fn P w W mg base "all_stretches" (4) 1 (funD 3 (d_all_stretches m_stretches_of)) :=
  ⟨f, fd, ["rows"], fnE F sc_all_stretches rfl rfl fun cdv A outer sh H E hr => db_cons (ds_set sc_all_stretches.nd rfl (by first | exact Or.inl rfl | exact Or.inr rfl) (de_lst true (da_nil))) (db_cons (ds_for passF rfl (di_r1 (by rfl) T.b_range (da_cons (de_op dop_sub (de_globI rfl T.k_MOST_CELLS.choose_spec) (de_int)) (da_nil))) (dg_name sc_all_stretches.nd rfl (by first | exact Or.inl rfl | exact Or.inr rfl)) (db_one (ds_expr (de_mt PySem.F.plainAttrs_list PySem.F.slot_list_extend PySem.F.type_list_extend (dm_extend) (dv 1) (da_cons (dcall c_stretches_of hr passD (da_cons (dv 0) (da_cons (dv 2) (da_cons (de_int) (da_cons (de_callB dc_len (by rfl) T.b_len (by decide +kernel) (da_cons (dv 0) (da_nil)) (fun a b => pe_callB a (by rfl) T.b_len (by decide +kernel) b)) (da_nil)))))) (da_nil)) (fun a b c => pe_bm PySem.F.plainAttrs_list PySem.F.slot_list_extend PySem.F.type_list_extend a b c))))) (db_one (ds_ret (dv 1)))), m, F.kp, F.binds (ps := ["rows"]) fun _ _ _ _ _ _ us hl => match us, hl with | [_], _ => rfl⟩
theorem sc_Sheet_turn_to : FnScope ["self", "rows", "origin", "ahead", "found", "number", "elder", "cell"] ["self", "rows", "origin"] (defScope s_Sheet_turn_to) := ⟨rfl, rfl, rfl, by decide +kernel, rfl, by decide +kernel, by decide +kernel⟩
theorem ok_Sheet_turn_to {m_begins_by m_all_stretches : FV} {f : Addr} {fd : FuncData} (F : Fun W.K "turn_to" "Sheet.turn_to" s_Sheet_turn_to f fd) (M : Meth W.K (W.cls 13) "turn_to" f) (T : Txt W mg) (c_begins_by : Fn P w W mg base "begins_by" 3 3 m_begins_by) (c_all_stretches : Fn P w W mg base "all_stretches" 4 1 m_all_stretches) : Mt P w W mg base 13 "turn_to" (5) 3 (funD 8 (d_Sheet_turn_to m_begins_by m_all_stretches)) :=
  ⟨⟨f, fd, ["self", "rows", "origin"], fnE F sc_Sheet_turn_to rfl rfl fun cdv A outer sh H E hr => db_cons (ds_set sc_Sheet_turn_to.nd rfl (by first | exact Or.inl rfl | exact Or.inr rfl) (de_fld rfl (dv 0) T.cl_Sheet T.na_Sheet_lefts)) (db_cons (ds_expr (de_mt PySem.F.plainAttrs_list PySem.F.slot_list_append PySem.F.type_list_append (dm_append) (de_fld rfl (dv 0) T.cl_Sheet T.na_Sheet_past) (da_cons (de_fld rfl (dv 0) T.cl_Sheet T.na_Sheet_rows) (da_nil)) (fun a b c => pe_bm PySem.F.plainAttrs_list PySem.F.slot_list_append PySem.F.type_list_append a b c))) (db_cons (ds_fld rfl (dv 0) (dv 1) T.cl_Sheet T.na_Sheet_rows) (db_cons (ds_fld rfl (dv 0) (dcall c_begins_by hr passD (da_cons (dv 1) (da_cons (de_fld rfl (dv 0) T.cl_Sheet T.na_Sheet_style) (da_cons (dcall c_all_stretches hr passD (da_cons (dv 1) (da_nil))) (da_nil))))) T.cl_Sheet T.na_Sheet_lefts) (db_cons (ds_set sc_Sheet_turn_to.nd rfl (by first | exact Or.inl rfl | exact Or.inr rfl) (de_lst true (da_nil))) (db_cons (ds_for passF rfl (di_enum (by rfl) T.b_enumerate (da_cons (dv 2) (da_nil))) (dg_tup rfl (dgs_cons (dg_name sc_Sheet_turn_to.nd rfl (by first | exact Or.inl rfl | exact Or.inr rfl)) (dgs_cons (dg_name sc_Sheet_turn_to.nd rfl (by first | exact Or.inl rfl | exact Or.inr rfl)) (dgs_nil)))) (db_one (ds_if (dt_cmp dop_isnot (dv 6) (de_non) (nomark _)) (db_one (ds_for passF rfl (di_r1 (by rfl) T.b_range (da_cons (de_callB dc_len (by rfl) T.b_len (by decide +kernel) (da_cons (de_ix rfl (dv 1) (dv 5) (fun _ _ => rfl)) (da_nil)) (fun a b => pe_callB a (by rfl) T.b_len (by decide +kernel) b)) (da_nil))) (dg_name sc_Sheet_turn_to.nd rfl (by first | exact Or.inl rfl | exact Or.inr rfl)) (db_one (ds_if (dt_cmp (dop_ne rfl hr.units) (de_ix rfl (de_ix rfl (dv 3) (dv 6) (fun _ _ => rfl)) (dv 7) (fun _ _ => rfl)) (de_ix rfl (de_ix rfl (de_fld rfl (dv 0) T.cl_Sheet T.na_Sheet_lefts) (dv 5) (fun _ _ => rfl)) (dv 7) (fun _ _ => rfl)) (nomark _)) (db_one (ds_expr (de_mt PySem.F.plainAttrs_list PySem.F.slot_list_append PySem.F.type_list_append (dm_append) (dv 4) (da_cons (de_tup (da_cons (dv 5) (da_cons (dv 7) (da_cons (de_ix rfl (de_ix rfl (dv 3) (dv 6) (fun _ _ => rfl)) (dv 7) (fun _ _ => rfl)) (da_cons (de_ix rfl (de_ix rfl (de_fld rfl (dv 0) T.cl_Sheet T.na_Sheet_lefts) (dv 5) (fun _ _ => rfl)) (dv 7) (fun _ _ => rfl)) (da_nil)))))) (da_nil)) (fun a b c => pe_bm PySem.F.plainAttrs_list PySem.F.slot_list_append PySem.F.type_list_append a b c)))) (db_nil))))) (db_nil)))) (db_one (ds_ret (dv 4)))))))), M, F.binds (ps := ["self", "rows", "origin"]) fun _ _ _ _ _ _ us hl => match us, hl with | [_, _, _], _ => rfl⟩, T.cl_Sheet⟩
theorem sc_Sheet_part : FnScope ["self", "number", "cell", "place", "row", "some", "every", "later"] ["self", "number", "cell", "place"] (defScope s_Sheet_part) := ⟨rfl, rfl, rfl, by decide +kernel, rfl, by decide +kernel, by decide +kernel⟩
theorem ok_Sheet_part {m_Sheet_need_place m_Sheet_turn_to : FV} {f : Addr} {fd : FuncData} (F : Fun W.K "part" "Sheet.part" s_Sheet_part f fd) (M : Meth W.K (W.cls 13) "part" f) (T : Txt W mg) (c_Sheet_need_place : Mt P w W mg base 13 "need_place" 3 4 m_Sheet_need_place) (c_Sheet_turn_to : Mt P w W mg base 13 "turn_to" 5 3 m_Sheet_turn_to) : Mt P w W mg base 13 "part" (6) 4 (funD 8 (d_Sheet_part m_Sheet_need_place m_Sheet_turn_to)) :=
  ⟨⟨f, fd, ["self", "number", "cell", "place"], fnE F sc_Sheet_part rfl rfl fun cdv A outer sh H E hr => db_cons (ds_expr (dmeth c_Sheet_need_place (dv 0) hr passD (da_cons (dv 1) (da_cons (dv 2) (da_cons (dv 3) (da_nil)))))) (db_cons (ds_if (dt_cmp (dop_eq rfl hr.units) (de_callB dc_len (by rfl) T.b_len (by decide +kernel) (da_cons (de_fld rfl (dv 0) T.cl_Sheet T.na_Sheet_rows) (da_nil)) (fun a b => pe_callB a (by rfl) T.b_len (by decide +kernel) b)) (de_globI rfl T.k_MOST_ROWS.choose_spec) (nomark _)) (db_one (ds_raise rfl rfl takesD T.ex_BadRow (by rfl))) (db_nil)) (db_cons (ds_set sc_Sheet_part.nd rfl (by first | exact Or.inl rfl | exact Or.inr rfl) (de_ix rfl (de_fld rfl (dv 0) T.cl_Sheet T.na_Sheet_rows) (dv 1) (fun _ _ => rfl))) (db_cons (ds_set sc_Sheet_part.nd rfl (by first | exact Or.inl rfl | exact Or.inr rfl) (de_lst false (da_cons (de_op (dop_add false) (de_sl false rfl (dv 4) (dp_none) (dp_some (dv 2))) (de_tup (da_cons (de_sl false rfl (de_ix rfl (dv 4) (dv 2) (fun _ _ => rfl)) (dp_none) (dp_some (dv 3))) (da_nil)))) (da_cons (de_op (dop_add false) (de_tup (da_cons (de_sl false rfl (de_ix rfl (dv 4) (dv 2) (fun _ _ => rfl)) (dp_some (dv 3)) (dp_none)) (da_nil))) (de_sl false rfl (dv 4) (dp_some (de_op (dop_add false) (dv 2) (de_int))) (dp_none))) (da_nil))))) (db_cons (ds_set sc_Sheet_part.nd rfl (by first | exact Or.inl rfl | exact Or.inr rfl) (de_listRange false rfl (by rfl) T.b_list (by rfl) T.b_range (de_callB dc_len (by rfl) T.b_len (by decide +kernel) (da_cons (de_fld rfl (dv 0) T.cl_Sheet T.na_Sheet_rows) (da_nil)) (fun a b => pe_callB a (by rfl) T.b_len (by decide +kernel) b)))) (db_cons (ds_set sc_Sheet_part.nd rfl (by first | exact Or.inl rfl | exact Or.inr rfl) (de_op (dop_add false) (de_op (dop_add false) (de_sl false rfl (de_fld rfl (dv 0) T.cl_Sheet T.na_Sheet_rows) (dp_none) (dp_some (dv 1))) (dv 5)) (de_sl false rfl (de_fld rfl (dv 0) T.cl_Sheet T.na_Sheet_rows) (dp_some (de_op (dop_add false) (dv 1) (de_int))) (dp_none)))) (db_one (ds_ret (dmeth c_Sheet_turn_to (dv 0) hr passD (da_cons (dv 7) (da_cons (de_op (dop_add false) (de_op (dop_add false) (de_sl false rfl (dv 6) (dp_none) (dp_some (dv 1))) (de_lst false (da_cons (de_non) (da_cons (de_non) (da_nil))))) (de_sl false rfl (dv 6) (dp_some (de_op (dop_add false) (dv 1) (de_int))) (dp_none))) (da_nil))))))))))), M, F.binds (ps := ["self", "number", "cell", "place"]) fun _ _ _ _ _ _ us hl => match us, hl with | [_, _, _, _], _ => rfl⟩, T.cl_Sheet⟩
theorem sc_is_sign : FnScope ["sign"] ["sign"] (defScope s_is_sign) := ⟨rfl, rfl, rfl, by decide +kernel, rfl, by decide +kernel, by decide +kernel⟩
theorem ok_is_sign {f : Addr} {fd : FuncData} (F : Fun W.K "is_sign" "is_sign" s_is_sign f fd) (m : mg "is_sign" = some (.ref f)) (T : Txt W mg)  : Fn P w W mg base "is_sign" (1) 1 (funD 1 d_is_sign) :=
  ⟨f, fd, ["sign"], fnE F sc_is_sign rfl rfl fun cdv A outer sh H E hr => db_one (ds_ret (de_and (de_chain dop_le dop_le (de_globS rfl T.k_FIRST_SIGN.choose_spec (by decide +kernel) (by decide +kernel)) (dv 0) (de_globS rfl T.k_LAST_SIGN.choose_spec (by decide +kernel) (by decide +kernel)) (by with_unfolding_all rfl)) (de_one (de_cmp (dop_ne rfl hr.units) (de_callB dc_ord (by rfl) T.b_ord (by decide +kernel) (da_cons (dv 0) (da_nil)) (fun a b => pe_callB a (by rfl) T.b_ord (by decide +kernel) b)) (de_globI rfl T.k_BARRED.choose_spec) (nomark _))))), m, F.kp, F.binds (ps := ["sign"]) fun _ _ _ _ _ _ us hl => match us, hl with | [_], _ => rfl⟩
theorem sc_is_cell : FnScope ["cell", "sign"] ["cell"] (defScope s_is_cell) := ⟨rfl, rfl, rfl, by decide +kernel, rfl, by decide +kernel, by decide +kernel⟩
theorem ok_is_cell {m_is_sign : FV} {f : Addr} {fd : FuncData} (F : Fun W.K "is_cell" "is_cell" s_is_cell f fd) (m : mg "is_cell" = some (.ref f)) (T : Txt W mg) (c_is_sign : Fn P w W mg base "is_sign" 1 1 m_is_sign) : Fn P w W mg base "is_cell" (2) 1 (funD 2 (d_is_cell m_is_sign)) :=
  ⟨f, fd, ["cell"], fnE F sc_is_cell rfl rfl fun cdv A outer sh H E hr => db_cons (ds_if (dt_w (dw_or (dt_not (dt_val (de_isinst (by simp) (dv 0) (pe_bltn (by rfl) T.b_str (by decide +kernel) rfl) (fun a b => pe_callB a (by rfl) T.b_isinstance (by decide +kernel) b) (fun p => pa_cons p (pa_cons (pe_bltn (by rfl) T.b_str (by decide +kernel) rfl) pa_nil))))) (dw_or1 (dt_cmp dop_gt (de_callB dc_len (by rfl) T.b_len (by decide +kernel) (da_cons (dv 0) (da_nil)) (fun a b => pe_callB a (by rfl) T.b_len (by decide +kernel) b)) (de_globI rfl T.k_MOST_SIGNS.choose_spec) (nomark _))))) (db_one (ds_ret (de_bl))) (db_nil)) (db_one (ds_ret (de_cmp (dop_eq rfl hr.units) (de_lc false rfl sc_is_cell.nd (di_seq (dv 0)) (by exact blkOk_by (N := ["cell", "sign"]) (sc := defScope s_is_cell) (own := [("sign", 1)]) (by decide +kernel)) rfl (by decide) (fun _ _ _ _ _ => tg_one sc_is_cell.nd rfl (by first | exact Or.inl rfl | exact Or.inr rfl)) (fun _ _ _ _ _ => dts_one (dt_not (dt_val (dcall c_is_sign hr passL (da_cons (dv 1) (da_nil)))))) (fun _ _ _ _ _ => dv 1)) (de_lst false (da_nil)) (nomark _)))), m, F.kp, F.binds (ps := ["cell"]) fun _ _ _ _ _ _ us hl => match us, hl with | [_], _ => rfl⟩
theorem sc_is_row : FnScope ["row", "cell"] ["row"] (defScope s_is_row) := ⟨rfl, rfl, rfl, by decide +kernel, rfl, by decide +kernel, by decide +kernel⟩
theorem ok_is_row {m_is_cell : FV} {f : Addr} {fd : FuncData} (F : Fun W.K "is_row" "is_row" s_is_row f fd) (m : mg "is_row" = some (.ref f)) (T : Txt W mg) (c_is_cell : Fn P w W mg base "is_cell" 2 1 m_is_cell) : Fn P w W mg base "is_row" (3) 1 (funD 2 (d_is_row m_is_cell)) :=
  ⟨f, fd, ["row"], fnE F sc_is_row rfl rfl fun cdv A outer sh H E hr => db_cons (ds_if (dt_w (dw_or (dt_not (dt_val (de_isinst (by simp) (dv 0) (pe_bltn (by rfl) T.b_tuple (by decide +kernel) rfl) (fun a b => pe_callB a (by rfl) T.b_isinstance (by decide +kernel) b) (fun p => pa_cons p (pa_cons (pe_bltn (by rfl) T.b_tuple (by decide +kernel) rfl) pa_nil))))) (dw_or1 (dt_not (dt_chain dop_le dop_le (de_int) (de_callB dc_len (by rfl) T.b_len (by decide +kernel) (da_cons (dv 0) (da_nil)) (fun a b => pe_callB a (by rfl) T.b_len (by decide +kernel) b)) (de_globI rfl T.k_MOST_CELLS.choose_spec) (by with_unfolding_all rfl)))))) (db_one (ds_ret (de_bl))) (db_nil)) (db_one (ds_ret (de_cmp (dop_eq rfl hr.units) (de_lc false rfl sc_is_row.nd (di_seq (dv 0)) (by exact blkOk_by (N := ["row", "cell"]) (sc := defScope s_is_row) (own := [("cell", 1)]) (by decide +kernel)) rfl (by decide) (fun _ _ _ _ _ => tg_one sc_is_row.nd rfl (by first | exact Or.inl rfl | exact Or.inr rfl)) (fun _ _ _ _ _ => dts_one (dt_not (dt_val (dcall c_is_cell hr passL (da_cons (dv 1) (da_nil)))))) (fun _ _ _ _ _ => dv 1)) (de_lst false (da_nil)) (nomark _)))), m, F.kp, F.binds (ps := ["row"]) fun _ _ _ _ _ _ us hl => match us, hl with | [_], _ => rfl⟩
theorem sc_need_row : FnScope ["row"] ["row"] (defScope s_need_row) := ⟨rfl, rfl, rfl, by decide +kernel, rfl, by decide +kernel, by decide +kernel⟩
theorem ok_need_row {m_is_row : FV} {f : Addr} {fd : FuncData} (F : Fun W.K "need_row" "need_row" s_need_row f fd) (m : mg "need_row" = some (.ref f)) (T : Txt W mg) (c_is_row : Fn P w W mg base "is_row" 3 1 m_is_row) : Fn P w W mg base "need_row" (4) 1 (funD 1 (d_need_row m_is_row)) :=
  ⟨f, fd, ["row"], fnE F sc_need_row rfl rfl fun cdv A outer sh H E hr => db_one (ds_if (dt_not (dt_val (dcall c_is_row hr passD (da_cons (dv 0) (da_nil))))) (db_one (ds_raise rfl rfl takesD T.ex_BadRow (by rfl))) (db_nil)), m, F.kp, F.binds (ps := ["row"]) fun _ _ _ _ _ _ us hl => match us, hl with | [_], _ => rfl⟩
theorem sc_Sheet_change : FnScope ["self", "number", "row", "every", "later"] ["self", "number", "row"] (defScope s_Sheet_change) := ⟨rfl, rfl, rfl, by decide +kernel, rfl, by decide +kernel, by decide +kernel⟩
theorem ok_Sheet_change {m_Sheet_need_number m_need_row m_Sheet_turn_to : FV} {f : Addr} {fd : FuncData} (F : Fun W.K "change" "Sheet.change" s_Sheet_change f fd) (M : Meth W.K (W.cls 13) "change" f) (T : Txt W mg) (c_Sheet_need_number : Mt P w W mg base 13 "need_number" 2 3 m_Sheet_need_number) (c_need_row : Fn P w W mg base "need_row" 4 1 m_need_row) (c_Sheet_turn_to : Mt P w W mg base 13 "turn_to" 5 3 m_Sheet_turn_to) : Mt P w W mg base 13 "change" (6) 3 (funD 5 (d_Sheet_change m_Sheet_need_number m_need_row m_Sheet_turn_to)) :=
  ⟨⟨f, fd, ["self", "number", "row"], fnE F sc_Sheet_change rfl rfl fun cdv A outer sh H E hr => db_cons (ds_expr (dmeth c_Sheet_need_number (dv 0) hr passD (da_cons (dv 1) (da_cons (de_op dop_sub (de_callB dc_len (by rfl) T.b_len (by decide +kernel) (da_cons (de_fld rfl (dv 0) T.cl_Sheet T.na_Sheet_rows) (da_nil)) (fun a b => pe_callB a (by rfl) T.b_len (by decide +kernel) b)) (de_int)) (da_nil))))) (db_cons (ds_expr (dcall c_need_row hr passD (da_cons (dv 2) (da_nil)))) (db_cons (ds_set sc_Sheet_change.nd rfl (by first | exact Or.inl rfl | exact Or.inr rfl) (de_listRange false rfl (by rfl) T.b_list (by rfl) T.b_range (de_callB dc_len (by rfl) T.b_len (by decide +kernel) (da_cons (de_fld rfl (dv 0) T.cl_Sheet T.na_Sheet_rows) (da_nil)) (fun a b => pe_callB a (by rfl) T.b_len (by decide +kernel) b)))) (db_cons (ds_set sc_Sheet_change.nd rfl (by first | exact Or.inl rfl | exact Or.inr rfl) (de_op (dop_add false) (de_op (dop_add false) (de_sl false rfl (de_fld rfl (dv 0) T.cl_Sheet T.na_Sheet_rows) (dp_none) (dp_some (dv 1))) (de_lst false (da_cons (dv 2) (da_nil)))) (de_sl false rfl (de_fld rfl (dv 0) T.cl_Sheet T.na_Sheet_rows) (dp_some (de_op (dop_add false) (dv 1) (de_int))) (dp_none)))) (db_one (ds_ret (dmeth c_Sheet_turn_to (dv 0) hr passD (da_cons (dv 4) (da_cons (de_op (dop_add false) (de_op (dop_add false) (de_sl false rfl (dv 3) (dp_none) (dp_some (dv 1))) (de_lst false (da_cons (de_non) (da_nil)))) (de_sl false rfl (dv 3) (dp_some (de_op (dop_add false) (dv 1) (de_int))) (dp_none))) (da_nil))))))))), M, F.binds (ps := ["self", "number", "row"]) fun _ _ _ _ _ _ us hl => match us, hl with | [_, _, _], _ => rfl⟩, T.cl_Sheet⟩
theorem sc_Sheet_strike : FnScope ["self", "number", "cell", "place", "sign", "row", "text", "some", "one"] ["self", "number", "cell", "place", "sign"] (defScope s_Sheet_strike) := ⟨rfl, rfl, rfl, by decide +kernel, rfl, by decide +kernel, by decide +kernel⟩
theorem ok_Sheet_strike {m_Sheet_need_place m_is_sign m_is_cell m_Sheet_change : FV} {f : Addr} {fd : FuncData} (F : Fun W.K "strike" "Sheet.strike" s_Sheet_strike f fd) (M : Meth W.K (W.cls 13) "strike" f) (T : Txt W mg) (c_Sheet_need_place : Mt P w W mg base 13 "need_place" 3 4 m_Sheet_need_place) (c_is_sign : Fn P w W mg base "is_sign" 1 1 m_is_sign) (c_is_cell : Fn P w W mg base "is_cell" 2 1 m_is_cell) (c_Sheet_change : Mt P w W mg base 13 "change" 6 3 m_Sheet_change) : Mt P w W mg base 13 "strike" (7) 5 (funD 9 (d_Sheet_strike_k10 m_Sheet_need_place m_is_sign m_is_cell m_Sheet_change)) :=
  ⟨⟨f, fd, ["self", "number", "cell", "place", "sign"], fnE F sc_Sheet_strike rfl rfl fun cdv A outer sh H E hr => db_cons (ds_expr (dmeth c_Sheet_need_place (dv 0) hr passD (da_cons (dv 1) (da_cons (dv 2) (da_cons (dv 3) (da_nil)))))) (db_cons (ds_set sc_Sheet_strike.nd rfl (by first | exact Or.inl rfl | exact Or.inr rfl) (de_ix rfl (de_fld rfl (dv 0) T.cl_Sheet T.na_Sheet_rows) (dv 1) (fun _ _ => rfl))) (db_cons (ds_set sc_Sheet_strike.nd rfl (by first | exact Or.inl rfl | exact Or.inr rfl) (de_ix rfl (dv 5) (dv 2) (fun _ _ => rfl))) (db_cons (ds_if (dt_cmp (dop_eq rfl hr.units) (dv 4) (de_globS rfl T.k_TAB.choose_spec (by decide +kernel) (by decide +kernel)) (nomark _)) (db_cons (ds_if (dt_cmp (dop_eq rfl hr.units) (de_callB dc_len (by rfl) T.b_len (by decide +kernel) (da_cons (dv 5) (da_nil)) (fun a b => pe_callB a (by rfl) T.b_len (by decide +kernel) b)) (de_globI rfl T.k_MOST_CELLS.choose_spec) (nomark _)) (db_one (ds_raise rfl rfl takesD T.ex_BadCell (by rfl))) (db_nil)) (db_one (ds_set sc_Sheet_strike.nd rfl (by first | exact Or.inl rfl | exact Or.inr rfl) (de_tup (da_cons (de_sl false rfl (dv 6) (dp_none) (dp_some (dv 3))) (da_cons (de_sl false rfl (dv 6) (dp_some (dv 3)) (dp_none)) (da_nil))))))) (db_cons (ds_if (dt_w (dw_or (dt_not (dt_val (de_isinst (by simp) (dv 4) (pe_bltn (by rfl) T.b_str (by decide +kernel) rfl) (fun a b => pe_callB a (by rfl) T.b_isinstance (by decide +kernel) b) (fun p => pa_cons p (pa_cons (pe_bltn (by rfl) T.b_str (by decide +kernel) rfl) pa_nil))))) (dw_or (dt_cmp (dop_ne rfl hr.units) (de_callB dc_len (by rfl) T.b_len (by decide +kernel) (da_cons (dv 4) (da_nil)) (fun a b => pe_callB a (by rfl) T.b_len (by decide +kernel) b)) (de_int) (nomark _)) (dw_or1 (dt_not (dt_val (dcall c_is_sign hr passD (da_cons (dv 4) (da_nil))))))))) (db_one (ds_raise rfl rfl takesD T.ex_BadCell (by rfl))) (db_nil)) (db_one (ds_set sc_Sheet_strike.nd rfl (by first | exact Or.inl rfl | exact Or.inr rfl) (de_tup (da_cons (de_op (dop_add false) (de_op (dop_add false) (de_sl false rfl (dv 6) (dp_none) (dp_some (dv 3))) (dv 4)) (de_sl false rfl (dv 6) (dp_some (dv 3)) (dp_none))) (da_nil))))))) (db_cons (ds_if (dt_cmp (dop_ne rfl hr.units) (de_lc false rfl sc_Sheet_strike.nd (di_seq (dv 7)) (by exact blkOk_by (N := ["self", "number", "cell", "place", "sign", "row", "text", "some", "one"]) (sc := defScope s_Sheet_strike) (own := [("one", 8)]) (by decide +kernel)) rfl (by decide) (fun _ _ _ _ _ => tg_one sc_Sheet_strike.nd rfl (by first | exact Or.inl rfl | exact Or.inr rfl)) (fun _ _ _ _ _ => dts_one (dt_not (dt_val (dcall c_is_cell hr passL (da_cons (dv 8) (da_nil)))))) (fun _ _ _ _ _ => dv 8)) (de_lst false (da_nil)) (nomark _)) (db_one (ds_raise rfl rfl takesD T.ex_BadCell (by rfl))) (db_nil)) (db_one (ds_ret (dmeth c_Sheet_change (dv 0) hr passD (da_cons (dv 1) (da_cons (de_op (dop_add false) (de_op (dop_add false) (de_sl false rfl (dv 5) (dp_none) (dp_some (dv 2))) (dv 7)) (de_sl false rfl (dv 5) (dp_some (de_op (dop_add false) (dv 2) (de_int))) (dp_none))) (da_nil)))))))))), M, F.binds (ps := ["self", "number", "cell", "place", "sign"]) fun _ _ _ _ _ _ us hl => match us, hl with | [_, _, _, _, _], _ => rfl⟩, T.cl_Sheet⟩
theorem sc_law_parted : FnScope ["_law_box", "_law_sheet", "_law_page_here", "_law_number", "_law_many", "_law_cell_here"] ["_law_box", "_law_sheet", "_law_page_here"] (defScope s_law_parted) := ⟨rfl, rfl, rfl, by decide +kernel, rfl, by decide +kernel, by decide +kernel⟩
theorem ok_law_parted {m_Sheet_part m_Sheet_strike_k10 m_law_take : FV} {f : Addr} {fd : FuncData} (F : Fun W.K "_law_parted" "_law_parted" s_law_parted f fd) (m : mg "_law_parted" = some (.ref f)) (T : Txt W mg) (c_Sheet_part : Mt P w W mg base 13 "part" 6 4 m_Sheet_part) (c_Sheet_strike : Mt P w W mg base 13 "strike" 7 5 m_Sheet_strike_k10) (c_law_take : Fn P w W mg base "_law_take" 1 2 m_law_take) : Fn P w W mg base "_law_parted" (8) 3 (funD 6 (d_law_parted m_Sheet_part m_Sheet_strike_k10 m_law_take)) :=
  ⟨f, fd, ["_law_box", "_law_sheet", "_law_page_here"], fnE F sc_law_parted rfl rfl fun cdv A outer sh H E hr => db_cons (ds_for passF rfl (di_r1 (by rfl) T.b_range (da_cons (de_op dop_sub (de_callB dc_len (by rfl) T.b_len (by decide +kernel) (da_cons (dv 2) (da_nil)) (fun a b => pe_callB a (by rfl) T.b_len (by decide +kernel) b)) (de_int)) (da_nil))) (dg_name sc_law_parted.nd rfl (by first | exact Or.inl rfl | exact Or.inr rfl)) (db_one (ds_expr (dmeth c_Sheet_part (dv 1) hr passD (da_cons (dv 3) (da_cons (de_int) (da_cons (de_int) (da_nil)))))))) (db_cons (ds_set sc_law_parted.nd rfl (by first | exact Or.inl rfl | exact Or.inr rfl) (de_op dop_sub (de_callB dc_len (by rfl) T.b_len (by decide +kernel) (da_cons (dv 2) (da_nil)) (fun a b => pe_callB a (by rfl) T.b_len (by decide +kernel) b)) (de_int))) (db_cons (ds_for passF rfl (di_r1 (by rfl) T.b_range (da_cons (de_callB dc_len (by rfl) T.b_len (by decide +kernel) (da_cons (dv 2) (da_nil)) (fun a b => pe_callB a (by rfl) T.b_len (by decide +kernel) b)) (da_nil))) (dg_name sc_law_parted.nd rfl (by first | exact Or.inl rfl | exact Or.inr rfl)) (db_one (ds_for passF rfl (di_r1 (by rfl) T.b_range (da_cons (de_op dop_sub (de_callB dc_len (by rfl) T.b_len (by decide +kernel) (da_cons (de_ix rfl (dv 2) (dv 3) (fun _ _ => rfl)) (da_nil)) (fun a b => pe_callB a (by rfl) T.b_len (by decide +kernel) b)) (de_int)) (da_nil))) (dg_name sc_law_parted.nd rfl (by first | exact Or.inl rfl | exact Or.inr rfl)) (db_cons (ds_expr (dmeth c_Sheet_strike (dv 1) hr passD (da_cons (dv 3) (da_cons (dcall c_law_take hr passD (da_cons (dv 0) (da_cons (de_op (dop_add false) (dv 5) (de_int)) (da_nil)))) (da_cons (de_int) (da_cons (de_str (by decide +kernel) (by decide +kernel)) (da_nil))))))) (db_one (ds_set sc_law_parted.nd rfl (by first | exact Or.inl rfl | exact Or.inr rfl) (de_op (dop_add false) (dv 4) (de_int)))))))) (db_one (ds_ret (dv 4))))), m, F.kp, F.binds (ps := ["_law_box", "_law_sheet", "_law_page_here"]) fun _ _ _ _ _ _ us hl => match us, hl with | [_, _, _], _ => rfl⟩
theorem sc_Sheet_page : FnScope ["self"] ["self"] (defScope s_Sheet_page) := ⟨rfl, rfl, rfl, by decide +kernel, rfl, by decide +kernel, by decide +kernel⟩
theorem ok_Sheet_page {f : Addr} {fd : FuncData} (F : Fun W.K "page" "Sheet.page" s_Sheet_page f fd) (M : Meth W.K (W.cls 13) "page" f) (T : Txt W mg)  : Mt P w W mg base 13 "page" (1) 1 (funD 1 d_Sheet_page) :=
  ⟨⟨f, fd, ["self"], fnE F sc_Sheet_page rfl rfl fun cdv A outer sh H E hr => db_one (ds_ret (de_callTy (dc_list true) (by rfl) T.b_list (by decide +kernel) (da_cons (de_fld rfl (dv 0) T.cl_Sheet T.na_Sheet_rows) (da_nil)) (fun a b => pe_callTy a (by rfl) T.b_list (by decide +kernel) b))), M, F.binds (ps := ["self"]) fun _ _ _ _ _ _ us hl => match us, hl with | [_], _ => rfl⟩, T.cl_Sheet⟩
theorem sc_law_typed : FnScope ["_law_box", "_law_sheet", "_law_page_here", "_law_left", "_law_many", "_law_number", "_law_cell_here", "_law_text", "_law_order", "_law_there", "_law_place", "_law_one"] ["_law_box", "_law_sheet", "_law_page_here"] (defScope s_law_typed) := ⟨rfl, rfl, rfl, by decide +kernel, rfl, by decide +kernel, by decide +kernel⟩
theorem ok_law_typed {m_law_take m_Sheet_strike_k10 : FV} {f : Addr} {fd : FuncData} (F : Fun W.K "_law_typed" "_law_typed" s_law_typed f fd) (m : mg "_law_typed" = some (.ref f)) (T : Txt W mg) (c_law_take : Fn P w W mg base "_law_take" 1 2 m_law_take) (c_Sheet_strike : Mt P w W mg base 13 "strike" 7 5 m_Sheet_strike_k10) : Fn P w W mg base "_law_typed" (8) 3 (funD 12 (d_law_typed m_law_take m_Sheet_strike_k10)) :=
  ⟨f, fd, ["_law_box", "_law_sheet", "_law_page_here"], fnE F sc_law_typed rfl rfl fun cdv A outer sh H E hr => db_cons (ds_par rfl sc_law_typed.nd rfl rfl (by decide) rfl rfl (da_cons (de_lst true (da_nil)) (da_cons (de_int) (da_nil))) (by rfl)) (db_cons (ds_for passF rfl (di_r1 (by rfl) T.b_range (da_cons (de_callB dc_len (by rfl) T.b_len (by decide +kernel) (da_cons (dv 2) (da_nil)) (fun a b => pe_callB a (by rfl) T.b_len (by decide +kernel) b)) (da_nil))) (dg_name sc_law_typed.nd rfl (by first | exact Or.inl rfl | exact Or.inr rfl)) (db_one (ds_set sc_law_typed.nd rfl (by first | exact Or.inl rfl | exact Or.inr rfl) (de_op (dop_add true) (dv 3) (de_lc false rfl sc_law_typed.nd (di_r1 (by rfl) T.b_range (da_cons (de_callB dc_len (by rfl) T.b_len (by decide +kernel) (da_cons (de_ix rfl (dv 2) (dv 5) (fun _ _ => rfl)) (da_nil)) (fun a b => pe_callB a (by rfl) T.b_len (by decide +kernel) b)) (da_nil))) (by exact blkOk_by (N := ["_law_box", "_law_sheet", "_law_page_here", "_law_left", "_law_many", "_law_number", "_law_cell_here", "_law_text", "_law_order", "_law_there", "_law_place", "_law_one"]) (sc := defScope s_law_typed) (own := [("_law_cell_here", 6)]) (by decide +kernel)) rfl (by decide) (fun _ _ _ _ _ => tg_one sc_law_typed.nd rfl (by first | exact Or.inl rfl | exact Or.inr rfl)) (fun _ _ _ _ _ => dts_nil) (fun _ _ _ _ _ => de_tup (da_cons (dv 5) (da_cons (dv 6) (da_nil))))))))) (db_cons (ds_while 100000 passF (dt_cmp (dop_ne rfl hr.units) (dv 3) (de_lst false (da_nil)) (nomark _)) (db_cons (ds_asg (de_mt PySem.F.plainAttrs_list PySem.F.slot_list_pop PySem.F.type_list_pop (dm_pop) (dv 3) (da_cons (dcall c_law_take hr passD (da_cons (dv 0) (da_cons (de_callB dc_len (by rfl) T.b_len (by decide +kernel) (da_cons (dv 3) (da_nil)) (fun a b => pe_callB a (by rfl) T.b_len (by decide +kernel) b)) (da_nil)))) (da_nil)) (fun a b c => pe_bm PySem.F.plainAttrs_list PySem.F.slot_list_pop PySem.F.type_list_pop a b c)) (dg_tup rfl (dgs_cons (dg_name sc_law_typed.nd rfl (by first | exact Or.inl rfl | exact Or.inr rfl)) (dgs_cons (dg_name sc_law_typed.nd rfl (by first | exact Or.inl rfl | exact Or.inr rfl)) (dgs_nil))))) (db_cons (ds_set sc_law_typed.nd rfl (by first | exact Or.inl rfl | exact Or.inr rfl) (de_ix rfl (de_ix rfl (dv 2) (dv 5) (fun _ _ => rfl)) (dv 6) (fun _ _ => rfl))) (db_cons (ds_set sc_law_typed.nd rfl (by first | exact Or.inl rfl | exact Or.inr rfl) (de_ix rfl (de_lst false (da_cons (de_listRange false rfl (by rfl) T.b_list (by rfl) T.b_range (de_callB dc_len (by rfl) T.b_len (by decide +kernel) (da_cons (dv 7) (da_nil)) (fun a b => pe_callB a (by rfl) T.b_len (by decide +kernel) b))) (da_cons (de_revL false (de_listRange false rfl (by rfl) T.b_list (by rfl) T.b_range (de_callB dc_len (by rfl) T.b_len (by decide +kernel) (da_cons (dv 7) (da_nil)) (fun a b => pe_callB a (by rfl) T.b_len (by decide +kernel) b)))) (da_nil)))) (dcall c_law_take hr passD (da_cons (dv 0) (da_cons (de_int) (da_nil)))) (fun _ _ => rfl))) (db_cons (ds_set sc_law_typed.nd rfl (by first | exact Or.inl rfl | exact Or.inr rfl) (de_lst true (da_nil))) (db_one (ds_for passF rfl (di_seq (dv 8)) (dg_name sc_law_typed.nd rfl (by first | exact Or.inl rfl | exact Or.inr rfl)) (db_cons (ds_expr (dmeth c_Sheet_strike (dv 1) hr passD (da_cons (dv 5) (da_cons (dv 6) (da_cons (de_callB dc_len (by rfl) T.b_len (by decide +kernel) (da_cons (de_lc false rfl sc_law_typed.nd (di_seq (dv 9)) (by exact blkOk_by (N := ["_law_box", "_law_sheet", "_law_page_here", "_law_left", "_law_many", "_law_number", "_law_cell_here", "_law_text", "_law_order", "_law_there", "_law_place", "_law_one"]) (sc := defScope s_law_typed) (own := [("_law_one", 11)]) (by decide +kernel)) rfl (by decide) (fun _ _ _ _ _ => tg_one sc_law_typed.nd rfl (by first | exact Or.inl rfl | exact Or.inr rfl)) (fun _ _ _ _ _ => dts_one (dt_cmp dop_lt (dv 11) (dv 10) (nomark _))) (fun _ _ _ _ _ => dv 11)) (da_nil)) (fun a b => pe_callB a (by rfl) T.b_len (by decide +kernel) b)) (da_cons (de_ix rfl (dv 7) (dv 10) (fun _ _ => rfl)) (da_nil))))))) (db_cons (ds_expr (de_mt PySem.F.plainAttrs_list PySem.F.slot_list_append PySem.F.type_list_append (dm_append) (dv 9) (da_cons (dv 10) (da_nil)) (fun a b c => pe_bm PySem.F.plainAttrs_list PySem.F.slot_list_append PySem.F.type_list_append a b c))) (db_one (ds_set sc_law_typed.nd rfl (by first | exact Or.inl rfl | exact Or.inr rfl) (de_op (dop_add false) (dv 4) (de_int))))))))))))) (db_one (ds_ret (dv 4))))), m, F.kp, F.binds (ps := ["_law_box", "_law_sheet", "_law_page_here"]) fun _ _ _ _ _ _ us hl => match us, hl with | [_, _, _], _ => rfl⟩
theorem sc_Sheet_begins : FnScope ["self", "row"] ["self"] (defScope s_Sheet_begins) := ⟨rfl, rfl, rfl, by decide +kernel, rfl, by decide +kernel, by decide +kernel⟩
theorem ok_Sheet_begins {f : Addr} {fd : FuncData} (F : Fun W.K "begins" "Sheet.begins" s_Sheet_begins f fd) (M : Meth W.K (W.cls 13) "begins" f) (T : Txt W mg)  : Mt P w W mg base 13 "begins" (1) 1 (funD 2 d_Sheet_begins) :=
  ⟨⟨f, fd, ["self"], fnE F sc_Sheet_begins rfl rfl fun cdv A outer sh H E hr => db_one (ds_ret (de_lc true rfl sc_Sheet_begins.nd (di_seq (de_fld rfl (dv 0) T.cl_Sheet T.na_Sheet_lefts)) (by exact blkOk_by (N := ["self", "row"]) (sc := defScope s_Sheet_begins) (own := [("row", 1)]) (by decide +kernel)) rfl (by decide) (fun _ _ _ _ _ => tg_one sc_Sheet_begins.nd rfl (by first | exact Or.inl rfl | exact Or.inr rfl)) (fun _ _ _ _ _ => dts_nil) (fun _ _ _ _ _ => de_callTy (dc_list true) (by rfl) T.b_list (by decide +kernel) (da_cons (dv 1) (da_nil)) (fun a b => pe_callTy a (by rfl) T.b_list (by decide +kernel) b)))), M, F.binds (ps := ["self"]) fun _ _ _ _ _ _ us hl => match us, hl with | [_], _ => rfl⟩, T.cl_Sheet⟩
theorem sc_need_page : FnScope ["page", "number", "row"] ["page"] (defScope s_need_page) := ⟨rfl, rfl, rfl, by decide +kernel, rfl, by decide +kernel, by decide +kernel⟩
theorem ok_need_page {m_is_row : FV} {f : Addr} {fd : FuncData} (F : Fun W.K "need_page" "need_page" s_need_page f fd) (m : mg "need_page" = some (.ref f)) (T : Txt W mg) (c_is_row : Fn P w W mg base "is_row" 3 1 m_is_row) : Fn P w W mg base "need_page" (4) 1 (funD 3 (d_need_page m_is_row)) :=
  ⟨f, fd, ["page"], fnE F sc_need_page rfl rfl fun cdv A outer sh H E hr => db_cons (ds_if (dt_w (dw_or (dt_not (dt_val (de_isinst (by simp) (dv 0) (pe_bltn (by rfl) T.b_list (by decide +kernel) rfl) (fun a b => pe_callB a (by rfl) T.b_isinstance (by decide +kernel) b) (fun p => pa_cons p (pa_cons (pe_bltn (by rfl) T.b_list (by decide +kernel) rfl) pa_nil))))) (dw_or1 (dt_cmp (dop_eq rfl hr.units) (dv 0) (de_lst false (da_nil)) (nomark _))))) (db_one (ds_bad)) (db_nil)) (db_one (ds_for passF rfl (di_enum (by rfl) T.b_enumerate (da_cons (dv 0) (da_nil))) (dg_tup rfl (dgs_cons (dg_name sc_need_page.nd rfl (by first | exact Or.inl rfl | exact Or.inr rfl)) (dgs_cons (dg_name sc_need_page.nd rfl (by first | exact Or.inl rfl | exact Or.inr rfl)) (dgs_nil)))) (db_one (ds_if (dt_w (dw_or (dt_cmp dop_ge (dv 1) (de_globI rfl T.k_MOST_ROWS.choose_spec) (nomark _)) (dw_or1 (dt_not (dt_val (dcall c_is_row hr passD (da_cons (dv 2) (da_nil)))))))) (db_one (ds_bad)) (db_nil))))), m, F.kp, F.binds (ps := ["page"]) fun _ _ _ _ _ _ us hl => match us, hl with | [_], _ => rfl⟩
theorem sc_need_style : FnScope ["style"] ["style"] (defScope s_need_style) := ⟨rfl, rfl, rfl, by decide +kernel, rfl, by decide +kernel, by decide +kernel⟩
theorem ok_need_style {m_is_number : FV} {f : Addr} {fd : FuncData} (F : Fun W.K "need_style" "need_style" s_need_style f fd) (m : mg "need_style" = some (.ref f)) (T : Txt W mg) (c_is_number : Fn P w W mg base "is_number" 1 3 m_is_number) : Fn P w W mg base "need_style" (2) 1 (funD 1 (d_need_style m_is_number)) :=
  ⟨f, fd, ["style"], fnE F sc_need_style rfl rfl fun cdv A outer sh H E hr => db_cons (ds_if (dt_w (dw_or (dt_not (dt_val (de_isinst (by simp) (dv 0) (pe_bltn (by rfl) T.b_tuple (by decide +kernel) rfl) (fun a b => pe_callB a (by rfl) T.b_isinstance (by decide +kernel) b) (fun p => pa_cons p (pa_cons (pe_bltn (by rfl) T.b_tuple (by decide +kernel) rfl) pa_nil))))) (dw_or1 (dt_cmp (dop_ne rfl hr.units) (de_callB dc_len (by rfl) T.b_len (by decide +kernel) (da_cons (dv 0) (da_nil)) (fun a b => pe_callB a (by rfl) T.b_len (by decide +kernel) b)) (de_int) (nomark _))))) (db_one (ds_bad)) (db_nil)) (db_one (ds_if (dt_w (dw_or (dt_not (dt_val (dcall c_is_number hr passD (da_cons (de_ix rfl (dv 0) (de_int) (fun _ _ => rfl)) (da_cons (de_int) (da_cons (de_globI rfl T.k_MOST_GAP.choose_spec) (da_nil))))))) (dw_or1 (dt_not (dt_val (dcall c_is_number hr passD (da_cons (de_ix rfl (dv 0) (de_int) (fun _ _ => rfl)) (da_cons (de_int) (da_cons (de_globI rfl T.k_MOST_LEAST.choose_spec) (da_nil)))))))))) (db_one (ds_bad)) (db_nil))), m, F.kp, F.binds (ps := ["style"]) fun _ _ _ _ _ _ us hl => match us, hl with | [_], _ => rfl⟩
theorem sc_laid : FnScope ["page", "style"] ["page", "style"] (defScope s_laid) := ⟨rfl, rfl, rfl, by decide +kernel, rfl, by decide +kernel, by decide +kernel⟩
theorem ok_laid {m_need_page m_need_style m_begins_by m_all_stretches : FV} {f : Addr} {fd : FuncData} (F : Fun W.K "laid" "laid" s_laid f fd) (m : mg "laid" = some (.ref f)) (T : Txt W mg) (c_need_page : Fn P w W mg base "need_page" 4 1 m_need_page) (c_need_style : Fn P w W mg base "need_style" 2 1 m_need_style) (c_begins_by : Fn P w W mg base "begins_by" 3 3 m_begins_by) (c_all_stretches : Fn P w W mg base "all_stretches" 4 1 m_all_stretches) : Fn P w W mg base "laid" (5) 2 (funD 2 (d_laid m_need_page m_need_style m_begins_by m_all_stretches)) :=
  ⟨f, fd, ["page", "style"], fnE F sc_laid rfl rfl fun cdv A outer sh H E hr => db_cons (ds_expr (dcall c_need_page hr passD (da_cons (dv 0) (da_nil)))) (db_cons (ds_expr (dcall c_need_style hr passD (da_cons (dv 1) (da_nil)))) (db_one (ds_ret (dcall c_begins_by hr passD (da_cons (dv 0) (da_cons (dv 1) (da_cons (dcall c_all_stretches hr passD (da_cons (dv 0) (da_nil))) (da_nil)))))))), m, F.kp, F.binds (ps := ["page", "style"]) fun _ _ _ _ _ _ us hl => match us, hl with | [_, _], _ => rfl⟩
theorem sc_Sheet_back : FnScope ["self"] ["self"] (defScope s_Sheet_back) := ⟨rfl, rfl, rfl, by decide +kernel, rfl, by decide +kernel, by decide +kernel⟩
theorem ok_Sheet_back {m_begins_by m_all_stretches : FV} {f : Addr} {fd : FuncData} (F : Fun W.K "back" "Sheet.back" s_Sheet_back f fd) (M : Meth W.K (W.cls 13) "back" f) (T : Txt W mg) (c_begins_by : Fn P w W mg base "begins_by" 3 3 m_begins_by) (c_all_stretches : Fn P w W mg base "all_stretches" 4 1 m_all_stretches) : Mt P w W mg base 13 "back" (5) 1 (funD 1 (d_Sheet_back m_begins_by m_all_stretches)) :=
  ⟨⟨f, fd, ["self"], fnE F sc_Sheet_back rfl rfl fun cdv A outer sh H E hr => db_cons (ds_if (dt_cmp (dop_eq rfl hr.units) (de_fld rfl (dv 0) T.cl_Sheet T.na_Sheet_past) (de_lst false (da_nil)) (nomark _)) (db_one (ds_ret (de_bl))) (db_nil)) (db_cons (ds_fld rfl (dv 0) (de_mt0 PySem.F.plainAttrs_list PySem.F.slot_list_pop PySem.F.type_list_pop (dm_pop) (de_fld rfl (dv 0) T.cl_Sheet T.na_Sheet_past) (fun a b => pe_bm0 PySem.F.plainAttrs_list PySem.F.slot_list_pop PySem.F.type_list_pop a b)) T.cl_Sheet T.na_Sheet_rows) (db_cons (ds_fld rfl (dv 0) (dcall c_begins_by hr passD (da_cons (de_fld rfl (dv 0) T.cl_Sheet T.na_Sheet_rows) (da_cons (de_fld rfl (dv 0) T.cl_Sheet T.na_Sheet_style) (da_cons (dcall c_all_stretches hr passD (da_cons (de_fld rfl (dv 0) T.cl_Sheet T.na_Sheet_rows) (da_nil))) (da_nil))))) T.cl_Sheet T.na_Sheet_lefts) (db_one (ds_ret (de_bl))))), M, F.binds (ps := ["self"]) fun _ _ _ _ _ _ us hl => match us, hl with | [_], _ => rfl⟩, T.cl_Sheet⟩
theorem sc_Cursor_mine : FnScope ["self"] ["self"] (defScope s_Cursor_mine) := ⟨rfl, rfl, rfl, by decide +kernel, rfl, by decide +kernel, by decide +kernel⟩
theorem ok_Cursor_mine {f : Addr} {fd : FuncData} (F : Fun W.K "mine" "Cursor.mine" s_Cursor_mine f fd) (M : Meth W.K (W.cls 14) "mine" f) (T : Txt W mg)  : Mt P w W mg base 14 "mine" (1) 1 (funD 1 d_Cursor_mine) :=
  ⟨⟨f, fd, ["self"], fnE F sc_Cursor_mine rfl rfl fun cdv A outer sh H E hr => db_one (ds_ret (de_ix rfl (de_fld rfl (de_fld rfl (dv 0) T.cl_Cursor T.na_Cursor_sheet) T.cl_Sheet T.na_Sheet_rows) (de_fld rfl (dv 0) T.cl_Cursor T.na_Cursor_number) (fun _ _ => rfl))), M, F.binds (ps := ["self"]) fun _ _ _ _ _ _ us hl => match us, hl with | [_], _ => rfl⟩, T.cl_Cursor⟩
theorem sc_Cursor_at : FnScope ["self"] ["self"] (defScope s_Cursor_at) := ⟨rfl, rfl, rfl, by decide +kernel, rfl, by decide +kernel, by decide +kernel⟩
theorem ok_Cursor_at {f : Addr} {fd : FuncData} (F : Fun W.K "at" "Cursor.at" s_Cursor_at f fd) (M : Meth W.K (W.cls 14) "at" f) (T : Txt W mg)  : Mt P w W mg base 14 "at" (1) 1 (funD 1 d_Cursor_at) :=
  ⟨⟨f, fd, ["self"], fnE F sc_Cursor_at rfl rfl fun cdv A outer sh H E hr => db_one (ds_ret (de_tup (da_cons (de_fld rfl (dv 0) T.cl_Cursor T.na_Cursor_number) (da_cons (de_fld rfl (dv 0) T.cl_Cursor T.na_Cursor_cell) (da_cons (de_fld rfl (dv 0) T.cl_Cursor T.na_Cursor_place) (da_nil)))))), M, F.binds (ps := ["self"]) fun _ _ _ _ _ _ us hl => match us, hl with | [_], _ => rfl⟩, T.cl_Cursor⟩
theorem sc_Cursor_go : FnScope ["self", "number", "cell", "place", "is_other"] ["self", "number", "cell", "place"] (defScope s_Cursor_go) := ⟨rfl, rfl, rfl, by decide +kernel, rfl, by decide +kernel, by decide +kernel⟩
theorem ok_Cursor_go {m_Cursor_at : FV} {f : Addr} {fd : FuncData} (F : Fun W.K "go" "Cursor.go" s_Cursor_go f fd) (M : Meth W.K (W.cls 14) "go" f) (T : Txt W mg) (c_Cursor_at : Mt P w W mg base 14 "at" 1 1 m_Cursor_at) : Mt P w W mg base 14 "go" (2) 4 (funD 5 (d_Cursor_go m_Cursor_at)) :=
  ⟨⟨f, fd, ["self", "number", "cell", "place"], fnE F sc_Cursor_go rfl rfl fun cdv A outer sh H E hr => db_cons (ds_set sc_Cursor_go.nd rfl (by first | exact Or.inl rfl | exact Or.inr rfl) (de_cmp (dop_ne rfl hr.units) (de_tup (da_cons (dv 1) (da_cons (dv 2) (da_cons (dv 3) (da_nil))))) (dmeth0 c_Cursor_at (dv 0) hr passD) (nomark _))) (db_cons (ds_asg (de_tup (da_cons (dv 1) (da_cons (dv 2) (da_cons (dv 3) (da_nil))))) (dg_tup rfl (dgs_cons (dg_fld rfl (dv 0) T.cl_Cursor T.na_Cursor_number) (dgs_cons (dg_fld rfl (dv 0) T.cl_Cursor T.na_Cursor_cell) (dgs_cons (dg_fld rfl (dv 0) T.cl_Cursor T.na_Cursor_place) (dgs_nil)))))) (db_one (ds_ret (dv 4)))), M, F.binds (ps := ["self", "number", "cell", "place"]) fun _ _ _ _ _ _ us hl => match us, hl with | [_, _, _, _], _ => rfl⟩, T.cl_Cursor⟩
theorem sc_Cursor_right : FnScope ["self"] ["self"] (defScope s_Cursor_right) := ⟨rfl, rfl, rfl, by decide +kernel, rfl, by decide +kernel, by decide +kernel⟩
theorem ok_Cursor_right {m_Cursor_mine m_Cursor_go : FV} {f : Addr} {fd : FuncData} (F : Fun W.K "right" "Cursor.right" s_Cursor_right f fd) (M : Meth W.K (W.cls 14) "right" f) (T : Txt W mg) (c_Cursor_mine : Mt P w W mg base 14 "mine" 1 1 m_Cursor_mine) (c_Cursor_go : Mt P w W mg base 14 "go" 2 4 m_Cursor_go) : Mt P w W mg base 14 "right" (3) 1 (funD 1 (d_Cursor_right m_Cursor_mine m_Cursor_go)) :=
  ⟨⟨f, fd, ["self"], fnE F sc_Cursor_right rfl rfl fun cdv A outer sh H E hr => db_cons (ds_if (dt_cmp dop_lt (de_fld rfl (dv 0) T.cl_Cursor T.na_Cursor_place) (de_callB dc_len (by rfl) T.b_len (by decide +kernel) (da_cons (de_ix rfl (dmeth0 c_Cursor_mine (dv 0) hr passD) (de_fld rfl (dv 0) T.cl_Cursor T.na_Cursor_cell) (fun _ _ => rfl)) (da_nil)) (fun a b => pe_callB a (by rfl) T.b_len (by decide +kernel) b)) (nomark _)) (db_one (ds_ret (dmeth c_Cursor_go (dv 0) hr passD (da_cons (de_fld rfl (dv 0) T.cl_Cursor T.na_Cursor_number) (da_cons (de_fld rfl (dv 0) T.cl_Cursor T.na_Cursor_cell) (da_cons (de_op (dop_add false) (de_fld rfl (dv 0) T.cl_Cursor T.na_Cursor_place) (de_int)) (da_nil))))))) (db_nil)) (db_cons (ds_if (dt_cmp dop_lt (de_fld rfl (dv 0) T.cl_Cursor T.na_Cursor_cell) (de_op dop_sub (de_callB dc_len (by rfl) T.b_len (by decide +kernel) (da_cons (dmeth0 c_Cursor_mine (dv 0) hr passD) (da_nil)) (fun a b => pe_callB a (by rfl) T.b_len (by decide +kernel) b)) (de_int)) (nomark _)) (db_one (ds_ret (dmeth c_Cursor_go (dv 0) hr passD (da_cons (de_fld rfl (dv 0) T.cl_Cursor T.na_Cursor_number) (da_cons (de_op (dop_add false) (de_fld rfl (dv 0) T.cl_Cursor T.na_Cursor_cell) (de_int)) (da_cons (de_int) (da_nil))))))) (db_nil)) (db_cons (ds_if (dt_cmp dop_lt (de_fld rfl (dv 0) T.cl_Cursor T.na_Cursor_number) (de_op dop_sub (de_callB dc_len (by rfl) T.b_len (by decide +kernel) (da_cons (de_fld rfl (de_fld rfl (dv 0) T.cl_Cursor T.na_Cursor_sheet) T.cl_Sheet T.na_Sheet_rows) (da_nil)) (fun a b => pe_callB a (by rfl) T.b_len (by decide +kernel) b)) (de_int)) (nomark _)) (db_one (ds_ret (dmeth c_Cursor_go (dv 0) hr passD (da_cons (de_op (dop_add false) (de_fld rfl (dv 0) T.cl_Cursor T.na_Cursor_number) (de_int)) (da_cons (de_int) (da_cons (de_int) (da_nil))))))) (db_nil)) (db_one (ds_ret (de_bl))))), M, F.binds (ps := ["self"]) fun _ _ _ _ _ _ us hl => match us, hl with | [_], _ => rfl⟩, T.cl_Cursor⟩
theorem sc_Sheet_erase : FnScope ["self", "number", "cell", "place", "row", "text", "new", "rest"] ["self", "number", "cell", "place"] (defScope s_Sheet_erase) := ⟨rfl, rfl, rfl, by decide +kernel, rfl, by decide +kernel, by decide +kernel⟩
theorem ok_Sheet_erase {m_Sheet_need_place m_is_cell m_Sheet_change : FV} {f : Addr} {fd : FuncData} (F : Fun W.K "erase" "Sheet.erase" s_Sheet_erase f fd) (M : Meth W.K (W.cls 13) "erase" f) (T : Txt W mg) (c_Sheet_need_place : Mt P w W mg base 13 "need_place" 3 4 m_Sheet_need_place) (c_is_cell : Fn P w W mg base "is_cell" 2 1 m_is_cell) (c_Sheet_change : Mt P w W mg base 13 "change" 6 3 m_Sheet_change) : Mt P w W mg base 13 "erase" (7) 4 (funD 8 (d_Sheet_erase m_Sheet_need_place m_is_cell m_Sheet_change)) :=
  ⟨⟨f, fd, ["self", "number", "cell", "place"], fnE F sc_Sheet_erase rfl rfl fun cdv A outer sh H E hr => db_cons (ds_expr (dmeth c_Sheet_need_place (dv 0) hr passD (da_cons (dv 1) (da_cons (dv 2) (da_cons (dv 3) (da_nil)))))) (db_cons (ds_set sc_Sheet_erase.nd rfl (by first | exact Or.inl rfl | exact Or.inr rfl) (de_ix rfl (de_fld rfl (dv 0) T.cl_Sheet T.na_Sheet_rows) (dv 1) (fun _ _ => rfl))) (db_cons (ds_set sc_Sheet_erase.nd rfl (by first | exact Or.inl rfl | exact Or.inr rfl) (de_ix rfl (dv 4) (dv 2) (fun _ _ => rfl))) (db_cons (ds_if (dt_cmp dop_lt (dv 3) (de_callB dc_len (by rfl) T.b_len (by decide +kernel) (da_cons (dv 5) (da_nil)) (fun a b => pe_callB a (by rfl) T.b_len (by decide +kernel) b)) (nomark _)) (db_one (ds_par rfl sc_Sheet_erase.nd rfl rfl (by decide) rfl rfl (da_cons (de_op (dop_add false) (de_sl false rfl (dv 5) (dp_none) (dp_some (dv 3))) (de_sl false rfl (dv 5) (dp_some (de_op (dop_add false) (dv 3) (de_int))) (dp_none))) (da_cons (de_sl false rfl (dv 4) (dp_some (de_op (dop_add false) (dv 2) (de_int))) (dp_none)) (da_nil))) (by rfl))) (db_cons (ds_if (dt_cmp (dop_eq rfl hr.units) (dv 2) (de_op dop_sub (de_callB dc_len (by rfl) T.b_len (by decide +kernel) (da_cons (dv 4) (da_nil)) (fun a b => pe_callB a (by rfl) T.b_len (by decide +kernel) b)) (de_int)) (nomark _)) (db_one (ds_raise rfl rfl takesD T.ex_BadCell (by rfl))) (db_nil)) (db_one (ds_par rfl sc_Sheet_erase.nd rfl rfl (by decide) rfl rfl (da_cons (de_op (dop_add false) (dv 5) (de_ix rfl (dv 4) (de_op (dop_add false) (dv 2) (de_int)) (fun _ _ => rfl))) (da_cons (de_sl false rfl (dv 4) (dp_some (de_op (dop_add false) (dv 2) (de_int))) (dp_none)) (da_nil))) (by rfl))))) (db_cons (ds_if (dt_not (dt_val (dcall c_is_cell hr passD (da_cons (dv 6) (da_nil))))) (db_one (ds_raise rfl rfl takesD T.ex_BadCell (by rfl))) (db_nil)) (db_one (ds_ret (dmeth c_Sheet_change (dv 0) hr passD (da_cons (dv 1) (da_cons (de_op (dop_add false) (de_op (dop_add false) (de_sl false rfl (dv 4) (dp_none) (dp_some (dv 2))) (de_tup (da_cons (dv 6) (da_nil)))) (dv 7)) (da_nil)))))))))), M, F.binds (ps := ["self", "number", "cell", "place"]) fun _ _ _ _ _ _ us hl => match us, hl with | [_, _, _, _], _ => rfl⟩, T.cl_Sheet⟩
theorem sc_Sheet_unite : FnScope ["self", "number", "row", "more", "text", "every", "later"] ["self", "number"] (defScope s_Sheet_unite) := ⟨rfl, rfl, rfl, by decide +kernel, rfl, by decide +kernel, by decide +kernel⟩
theorem ok_Sheet_unite {m_Sheet_need_number m_is_cell m_Sheet_turn_to : FV} {f : Addr} {fd : FuncData} (F : Fun W.K "unite" "Sheet.unite" s_Sheet_unite f fd) (M : Meth W.K (W.cls 13) "unite" f) (T : Txt W mg) (c_Sheet_need_number : Mt P w W mg base 13 "need_number" 2 3 m_Sheet_need_number) (c_is_cell : Fn P w W mg base "is_cell" 2 1 m_is_cell) (c_Sheet_turn_to : Mt P w W mg base 13 "turn_to" 5 3 m_Sheet_turn_to) : Mt P w W mg base 13 "unite" (6) 2 (funD 7 (d_Sheet_unite m_Sheet_need_number m_is_cell m_Sheet_turn_to)) :=
  ⟨⟨f, fd, ["self", "number"], fnE F sc_Sheet_unite rfl rfl fun cdv A outer sh H E hr => db_cons (ds_expr (dmeth c_Sheet_need_number (dv 0) hr passD (da_cons (dv 1) (da_cons (de_op dop_sub (de_callB dc_len (by rfl) T.b_len (by decide +kernel) (da_cons (de_fld rfl (dv 0) T.cl_Sheet T.na_Sheet_rows) (da_nil)) (fun a b => pe_callB a (by rfl) T.b_len (by decide +kernel) b)) (de_int)) (da_nil))))) (db_cons (ds_par rfl sc_Sheet_unite.nd rfl rfl (by decide) rfl rfl (da_cons (de_ix rfl (de_fld rfl (dv 0) T.cl_Sheet T.na_Sheet_rows) (dv 1) (fun _ _ => rfl)) (da_cons (de_ix rfl (de_fld rfl (dv 0) T.cl_Sheet T.na_Sheet_rows) (de_op (dop_add false) (dv 1) (de_int)) (fun _ _ => rfl)) (da_nil))) (by rfl)) (db_cons (ds_set sc_Sheet_unite.nd rfl (by first | exact Or.inl rfl | exact Or.inr rfl) (de_op (dop_add false) (de_ix rfl (dv 2) (de_neg (de_int)) (fun _ _ => rfl)) (de_ix rfl (dv 3) (de_int) (fun _ _ => rfl)))) (db_cons (ds_if (dt_w (dw_or (dt_cmp dop_gt (de_op dop_sub (de_op (dop_add false) (de_callB dc_len (by rfl) T.b_len (by decide +kernel) (da_cons (dv 2) (da_nil)) (fun a b => pe_callB a (by rfl) T.b_len (by decide +kernel) b)) (de_callB dc_len (by rfl) T.b_len (by decide +kernel) (da_cons (dv 3) (da_nil)) (fun a b => pe_callB a (by rfl) T.b_len (by decide +kernel) b))) (de_int)) (de_globI rfl T.k_MOST_CELLS.choose_spec) (nomark _)) (dw_or1 (dt_not (dt_val (dcall c_is_cell hr passD (da_cons (dv 4) (da_nil)))))))) (db_one (ds_raise rfl rfl takesD T.ex_BadCell (by rfl))) (db_nil)) (db_cons (ds_set sc_Sheet_unite.nd rfl (by first | exact Or.inl rfl | exact Or.inr rfl) (de_listRange false rfl (by rfl) T.b_list (by rfl) T.b_range (de_callB dc_len (by rfl) T.b_len (by decide +kernel) (da_cons (de_fld rfl (dv 0) T.cl_Sheet T.na_Sheet_rows) (da_nil)) (fun a b => pe_callB a (by rfl) T.b_len (by decide +kernel) b)))) (db_cons (ds_set sc_Sheet_unite.nd rfl (by first | exact Or.inl rfl | exact Or.inr rfl) (de_op (dop_add false) (de_op (dop_add false) (de_sl false rfl (de_fld rfl (dv 0) T.cl_Sheet T.na_Sheet_rows) (dp_none) (dp_some (dv 1))) (de_lst false (da_cons (de_op (dop_add false) (de_op (dop_add false) (de_sl false rfl (dv 2) (dp_none) (dp_some (de_neg (de_int)))) (de_tup (da_cons (dv 4) (da_nil)))) (de_sl false rfl (dv 3) (dp_some (de_int)) (dp_none))) (da_nil)))) (de_sl false rfl (de_fld rfl (dv 0) T.cl_Sheet T.na_Sheet_rows) (dp_some (de_op (dop_add false) (dv 1) (de_int))) (dp_none)))) (db_one (ds_ret (dmeth c_Sheet_turn_to (dv 0) hr passD (da_cons (dv 6) (da_cons (de_op (dop_add false) (de_op (dop_add false) (de_sl false rfl (dv 5) (dp_none) (dp_some (dv 1))) (de_lst false (da_cons (de_non) (da_nil)))) (de_sl false rfl (dv 5) (dp_some (de_op (dop_add false) (dv 1) (de_int))) (dp_none))) (da_nil))))))))))), M, F.binds (ps := ["self", "number"]) fun _ _ _ _ _ _ us hl => match us, hl with | [_, _], _ => rfl⟩, T.cl_Sheet⟩
theorem sc_Cursor_unite : FnScope ["self", "ahead"] ["self"] (defScope s_Cursor_unite) := ⟨rfl, rfl, rfl, by decide +kernel, rfl, by decide +kernel, by decide +kernel⟩
theorem ok_Cursor_unite {m_Sheet_unite m_Cursor_go : FV} {f : Addr} {fd : FuncData} (F : Fun W.K "unite" "Cursor.unite" s_Cursor_unite f fd) (M : Meth W.K (W.cls 14) "unite" f) (T : Txt W mg) (c_Sheet_unite : Mt P w W mg base 13 "unite" 6 2 m_Sheet_unite) (c_Cursor_go : Mt P w W mg base 14 "go" 2 4 m_Cursor_go) : Mt P w W mg base 14 "unite" (7) 1 (funD 2 (d_Cursor_unite m_Sheet_unite m_Cursor_go)) :=
  ⟨⟨f, fd, ["self"], fnE F sc_Cursor_unite rfl rfl fun cdv A outer sh H E hr => db_cons (ds_if (dt_cmp (dop_eq rfl hr.units) (de_fld rfl (dv 0) T.cl_Cursor T.na_Cursor_number) (de_int) (nomark _)) (db_one (ds_raise rfl rfl takesD T.ex_BadCell (by rfl))) (db_nil)) (db_cons (ds_set sc_Cursor_unite.nd rfl (by first | exact Or.inl rfl | exact Or.inr rfl) (de_ix rfl (de_fld rfl (de_fld rfl (dv 0) T.cl_Cursor T.na_Cursor_sheet) T.cl_Sheet T.na_Sheet_rows) (de_op dop_sub (de_fld rfl (dv 0) T.cl_Cursor T.na_Cursor_number) (de_int)) (fun _ _ => rfl))) (db_cons (ds_expr (dmeth c_Sheet_unite (de_fld rfl (dv 0) T.cl_Cursor T.na_Cursor_sheet) hr passD (da_cons (de_op dop_sub (de_fld rfl (dv 0) T.cl_Cursor T.na_Cursor_number) (de_int)) (da_nil)))) (db_one (ds_expr (dmeth c_Cursor_go (dv 0) hr passD (da_cons (de_op dop_sub (de_fld rfl (dv 0) T.cl_Cursor T.na_Cursor_number) (de_int)) (da_cons (de_op dop_sub (de_callB dc_len (by rfl) T.b_len (by decide +kernel) (da_cons (dv 1) (da_nil)) (fun a b => pe_callB a (by rfl) T.b_len (by decide +kernel) b)) (de_int)) (da_cons (de_callB dc_len (by rfl) T.b_len (by decide +kernel) (da_cons (de_ix rfl (dv 1) (de_neg (de_int)) (fun _ _ => rfl)) (da_nil)) (fun a b => pe_callB a (by rfl) T.b_len (by decide +kernel) b)) (da_nil))))))))), M, F.binds (ps := ["self"]) fun _ _ _ _ _ _ us hl => match us, hl with | [_], _ => rfl⟩, T.cl_Cursor⟩
theorem sc_Cursor_rub : FnScope ["self", "length"] ["self"] (defScope s_Cursor_rub) := ⟨rfl, rfl, rfl, by decide +kernel, rfl, by decide +kernel, by decide +kernel⟩
theorem ok_Cursor_rub {m_Sheet_erase m_Cursor_mine m_Cursor_go m_Cursor_unite : FV} {f : Addr} {fd : FuncData} (F : Fun W.K "rub" "Cursor.rub" s_Cursor_rub f fd) (M : Meth W.K (W.cls 14) "rub" f) (T : Txt W mg) (c_Sheet_erase : Mt P w W mg base 13 "erase" 7 4 m_Sheet_erase) (c_Cursor_mine : Mt P w W mg base 14 "mine" 1 1 m_Cursor_mine) (c_Cursor_go : Mt P w W mg base 14 "go" 2 4 m_Cursor_go) (c_Cursor_unite : Mt P w W mg base 14 "unite" 7 1 m_Cursor_unite) : Mt P w W mg base 14 "rub" (8) 1 (funD 2 (d_Cursor_rub m_Sheet_erase m_Cursor_mine m_Cursor_go m_Cursor_unite)) :=
  ⟨⟨f, fd, ["self"], fnE F sc_Cursor_rub rfl rfl fun cdv A outer sh H E hr => db_one (ds_if (dt_cmp dop_gt (de_fld rfl (dv 0) T.cl_Cursor T.na_Cursor_place) (de_int) (nomark _)) (db_cons (ds_expr (dmeth c_Sheet_erase (de_fld rfl (dv 0) T.cl_Cursor T.na_Cursor_sheet) hr passD (da_cons (de_fld rfl (dv 0) T.cl_Cursor T.na_Cursor_number) (da_cons (de_fld rfl (dv 0) T.cl_Cursor T.na_Cursor_cell) (da_cons (de_op dop_sub (de_fld rfl (dv 0) T.cl_Cursor T.na_Cursor_place) (de_int)) (da_nil)))))) (db_one (ds_fld rfl (dv 0) (de_op dop_sub (de_fld rfl (dv 0) T.cl_Cursor T.na_Cursor_place) (de_int)) T.cl_Cursor T.na_Cursor_place))) (db_one (ds_if (dt_cmp dop_gt (de_fld rfl (dv 0) T.cl_Cursor T.na_Cursor_cell) (de_int) (nomark _)) (db_cons (ds_set sc_Cursor_rub.nd rfl (by first | exact Or.inl rfl | exact Or.inr rfl) (de_callB dc_len (by rfl) T.b_len (by decide +kernel) (da_cons (de_ix rfl (dmeth0 c_Cursor_mine (dv 0) hr passD) (de_op dop_sub (de_fld rfl (dv 0) T.cl_Cursor T.na_Cursor_cell) (de_int)) (fun _ _ => rfl)) (da_nil)) (fun a b => pe_callB a (by rfl) T.b_len (by decide +kernel) b))) (db_cons (ds_expr (dmeth c_Sheet_erase (de_fld rfl (dv 0) T.cl_Cursor T.na_Cursor_sheet) hr passD (da_cons (de_fld rfl (dv 0) T.cl_Cursor T.na_Cursor_number) (da_cons (de_op dop_sub (de_fld rfl (dv 0) T.cl_Cursor T.na_Cursor_cell) (de_int)) (da_cons (dv 1) (da_nil)))))) (db_one (ds_expr (dmeth c_Cursor_go (dv 0) hr passD (da_cons (de_fld rfl (dv 0) T.cl_Cursor T.na_Cursor_number) (da_cons (de_op dop_sub (de_fld rfl (dv 0) T.cl_Cursor T.na_Cursor_cell) (de_int)) (da_cons (dv 1) (da_nil))))))))) (db_one (ds_expr (dmeth0 c_Cursor_unite (dv 0) hr passD)))))), M, F.binds (ps := ["self"]) fun _ _ _ _ _ _ us hl => match us, hl with | [_], _ => rfl⟩, T.cl_Cursor⟩
theorem sc_Cursor_page : FnScope ["self"] ["self"] (defScope s_Cursor_page) := ⟨rfl, rfl, rfl, by decide +kernel, rfl, by decide +kernel, by decide +kernel⟩
theorem ok_Cursor_page {m_Sheet_page : FV} {f : Addr} {fd : FuncData} (F : Fun W.K "page" "Cursor.page" s_Cursor_page f fd) (M : Meth W.K (W.cls 14) "page" f) (T : Txt W mg) (c_Sheet_page : Mt P w W mg base 13 "page" 1 1 m_Sheet_page) : Mt P w W mg base 14 "page" (2) 1 (funD 1 (d_Cursor_page m_Sheet_page)) :=
  ⟨⟨f, fd, ["self"], fnE F sc_Cursor_page rfl rfl fun cdv A outer sh H E hr => db_one (ds_ret (dmeth0 c_Sheet_page (de_fld rfl (dv 0) T.cl_Cursor T.na_Cursor_sheet) hr passD)), M, F.binds (ps := ["self"]) fun _ _ _ _ _ _ us hl => match us, hl with | [_], _ => rfl⟩, T.cl_Cursor⟩
theorem sc_Sheet_init : FnScope ["self", "page", "style"] ["self", "page", "style"] (defScope s_Sheet_init) := ⟨rfl, rfl, rfl, by decide +kernel, rfl, by decide +kernel, by decide +kernel⟩
theorem ok_Sheet_init {m_need_page m_need_style m_begins_by m_all_stretches : FV} {f : Addr} {fd : FuncData} (F : Fun W.K "__init__" "Sheet.__init__" s_Sheet_init f fd) (M : Mk W.K (W.cls 13) f) (m : mg "Sheet" = some (.ref (W.cls 13))) (T : Txt W mg) (c_need_page : Fn P w W mg base "need_page" 4 1 m_need_page) (c_need_style : Fn P w W mg base "need_style" 2 1 m_need_style) (c_begins_by : Fn P w W mg base "begins_by" 3 3 m_begins_by) (c_all_stretches : Fn P w W mg base "all_stretches" 4 1 m_all_stretches) : Nw P w W mg base "Sheet" 13 (5) 3 (funD 3 (d_Sheet_init m_need_page m_need_style m_begins_by m_all_stretches)) :=
  ⟨f, fd, ["self", "page", "style"], fnE F sc_Sheet_init rfl rfl fun cdv A outer sh H E hr => db_cons (ds_expr (dcall c_need_page hr passD (da_cons (dv 1) (da_nil)))) (db_cons (ds_expr (dcall c_need_style hr passD (da_cons (dv 2) (da_nil)))) (db_cons (ds_fld rfl (dv 0) (de_callTy (dc_list false) (by rfl) T.b_list (by decide +kernel) (da_cons (dv 1) (da_nil)) (fun a b => pe_callTy a (by rfl) T.b_list (by decide +kernel) b)) T.cl_Sheet T.na_Sheet_rows) (db_cons (ds_fld rfl (dv 0) (dv 2) T.cl_Sheet T.na_Sheet_style) (db_cons (ds_fld rfl (dv 0) (dcall c_begins_by hr passD (da_cons (de_fld rfl (dv 0) T.cl_Sheet T.na_Sheet_rows) (da_cons (dv 2) (da_cons (dcall c_all_stretches hr passD (da_cons (de_fld rfl (dv 0) T.cl_Sheet T.na_Sheet_rows) (da_nil))) (da_nil))))) T.cl_Sheet T.na_Sheet_lefts) (db_one (ds_fld rfl (dv 0) (de_lst true (da_nil)) T.cl_Sheet T.na_Sheet_past)))))), M, m, F.binds (ps := ["self", "page", "style"]) fun _ _ _ _ _ _ us hl => match us, hl with | [_, _, _], _ => rfl⟩
theorem sc_Cursor_init : FnScope ["self", "page", "style"] ["self", "page", "style"] (defScope s_Cursor_init) := ⟨rfl, rfl, rfl, by decide +kernel, rfl, by decide +kernel, by decide +kernel⟩
theorem ok_Cursor_init {m_Sheet_init : FV} {f : Addr} {fd : FuncData} (F : Fun W.K "__init__" "Cursor.__init__" s_Cursor_init f fd) (M : Mk W.K (W.cls 14) f) (m : mg "Cursor" = some (.ref (W.cls 14))) (T : Txt W mg) (n_Sheet : Nw P w W mg base "Sheet" 13 5 3 m_Sheet_init) : Nw P w W mg base "Cursor" 14 (7) 3 (funD 3 (d_Cursor_init m_Sheet_init)) :=
  ⟨f, fd, ["self", "page", "style"], fnE F sc_Cursor_init rfl rfl fun cdv A outer sh H E hr => db_cons (ds_fld rfl (dv 0) (dmake n_Sheet hr passD (da_cons (dv 1) (da_cons (dv 2) (da_nil)))) T.cl_Cursor T.na_Cursor_sheet) (db_cons (ds_fld rfl (dv 0) (de_int) T.cl_Cursor T.na_Cursor_number) (db_cons (ds_fld rfl (dv 0) (de_int) T.cl_Cursor T.na_Cursor_cell) (db_one (ds_fld rfl (dv 0) (de_int) T.cl_Cursor T.na_Cursor_place)))), M, m, F.binds (ps := ["self", "page", "style"]) fun _ _ _ _ _ _ us hl => match us, hl with | [_, _, _], _ => rfl⟩
theorem sc_law : FnScope ["_law_script", "_law_box", "_law_page_here", "_law_style_here", "_law_sheet", "_law_many", "_law_blank", "_law_typed_here", "_law_turn", "_law_cursor", "_law_steps", "_law_row_here", "_law_cell_here"] ["_law_script"] (defScope s_law) := ⟨rfl, rfl, rfl, by decide +kernel, rfl, by decide +kernel, by decide +kernel⟩
theorem ok_law {m_law_begun m_law_page m_law_style m_law_parted m_Sheet_page m_law_typed m_Sheet_begins m_laid m_Sheet_back m_Cursor_right m_Cursor_rub m_Cursor_page m_Cursor_at m_Sheet_init m_Cursor_init : FV} {f : Addr} {fd : FuncData} (F : Fun W.K "law" "law" s_law f fd) (T : Txt W mg) (c_law_begun : Fn P w W mg base "_law_begun" 1 1 m_law_begun) (c_law_page : Fn P w W mg base "_law_page" 5 2 m_law_page) (c_law_style : Fn P w W mg base "_law_style" 2 1 m_law_style) (c_law_parted : Fn P w W mg base "_law_parted" 8 3 m_law_parted) (c_Sheet_page : Mt P w W mg base 13 "page" 1 1 m_Sheet_page) (c_law_typed : Fn P w W mg base "_law_typed" 8 3 m_law_typed) (c_Sheet_begins : Mt P w W mg base 13 "begins" 1 1 m_Sheet_begins) (c_laid : Fn P w W mg base "laid" 5 2 m_laid) (c_Sheet_back : Mt P w W mg base 13 "back" 5 1 m_Sheet_back) (c_Cursor_right : Mt P w W mg base 14 "right" 3 1 m_Cursor_right) (c_Cursor_rub : Mt P w W mg base 14 "rub" 8 1 m_Cursor_rub) (c_Cursor_page : Mt P w W mg base 14 "page" 2 1 m_Cursor_page) (c_Cursor_at : Mt P w W mg base 14 "at" 1 1 m_Cursor_at) (n_Sheet : Nw P w W mg base "Sheet" 13 5 3 m_Sheet_init) (n_Cursor : Nw P w W mg base "Cursor" 14 7 3 m_Cursor_init) : FnOk P w W.K mg base (L2.CX P w) 9 f fd ["_law_script"] (spD W 1 (funD 13 (d_law_k13 m_law_begun m_law_page m_law_style m_law_parted m_Sheet_page m_law_typed m_Sheet_begins m_laid m_Sheet_back m_Cursor_right m_Cursor_rub m_Cursor_page m_Cursor_at m_Sheet_init m_Cursor_init))) :=
  fnE F sc_law rfl rfl fun cdv A outer sh H E hr => db_cons (ds_set sc_law.nd rfl (by first | exact Or.inl rfl | exact Or.inr rfl) (dcall c_law_begun hr passD (da_cons (dv 0) (da_nil)))) (db_cons (ds_par rfl sc_law.nd rfl rfl (by decide) rfl rfl (da_cons (dcall c_law_page hr passD (da_cons (dv 1) (da_cons (de_int) (da_nil)))) (da_cons (dcall c_law_style hr passD (da_cons (dv 1) (da_nil))) (da_nil))) (by rfl)) (db_cons (ds_set sc_law.nd rfl (by first | exact Or.inl rfl | exact Or.inr rfl) (dmake n_Sheet hr passD (da_cons (de_lst false (da_cons (de_tup (da_cons (de_str (by decide +kernel) (by decide +kernel)) (da_nil))) (da_nil))) (da_cons (dv 3) (da_nil))))) (db_cons (ds_set sc_law.nd rfl (by first | exact Or.inl rfl | exact Or.inr rfl) (dcall c_law_parted hr passD (da_cons (dv 1) (da_cons (dv 4) (da_cons (dv 2) (da_nil)))))) (db_cons (ds_setLc false rfl sc_law.nd rfl rfl (sw_true rfl rfl rfl (by decide +kernel)) (di_seq (dv 2)) (by exact blkOk_by (N := ["_law_script", "_law_box", "_law_page_here", "_law_style_here", "_law_sheet", "_law_many", "_law_blank", "_law_typed_here", "_law_turn", "_law_cursor", "_law_steps", "_law_row_here", "_law_cell_here"]) (sc := defScope s_law) (own := [("_law_row_here", 11)]) (by decide +kernel)) rfl (by decide) (fun _ _ _ _ _ => tg_one sc_law.nd rfl (by first | exact Or.inl rfl | exact Or.inr rfl)) (fun _ _ _ _ _ => dts_nil) (fun _ _ _ _ _ => de_op dop_mulT (de_tup (da_cons (de_str (by decide +kernel) (by decide +kernel)) (da_nil))) (de_callB dc_len (by rfl) T.b_len (by decide +kernel) (da_cons (dv 11) (da_nil)) (fun a b => pe_callB a (by rfl) T.b_len (by decide +kernel) b)))) (db_cons (ds_if (dt_cmp (dop_ne rfl hr.units) (dmeth0 c_Sheet_page (dv 4) hr passD) (dv 6) (nomark _)) (db_one (ds_ret (de_bl))) (db_nil)) (db_cons (ds_set sc_law.nd rfl (by first | exact Or.inl rfl | exact Or.inr rfl) (dcall c_law_typed hr passD (da_cons (dv 1) (da_cons (dv 4) (da_cons (dv 2) (da_nil)))))) (db_cons (ds_if (dt_w (dw_or (dt_cmp (dop_ne rfl hr.units) (dmeth0 c_Sheet_page (dv 4) hr passD) (dv 2) (nomark _)) (dw_or1 (dt_cmp (dop_ne rfl hr.units) (dmeth0 c_Sheet_begins (dv 4) hr passD) (dcall c_laid hr passD (da_cons (dv 2) (da_cons (dv 3) (da_nil)))) (nomark _))))) (db_one (ds_ret (de_bl))) (db_nil)) (db_cons (ds_for passF rfl (di_r1 (by rfl) T.b_range (da_cons (dv 7) (da_nil))) (dg_name sc_law.nd rfl (by first | exact Or.inl rfl | exact Or.inr rfl)) (db_one (ds_if (dt_cmp dop_isnot (dmeth0 c_Sheet_back (dv 4) hr passD) (de_bl) (nomark _)) (db_one (ds_ret (de_bl))) (db_nil)))) (db_cons (ds_if (dt_w (dw_or (dt_cmp (dop_ne rfl hr.units) (dmeth0 c_Sheet_page (dv 4) hr passD) (dv 6) (nomark _)) (dw_or1 (dt_cmp (dop_ne rfl hr.units) (dmeth0 c_Sheet_begins (dv 4) hr passD) (dcall c_laid hr passD (da_cons (dv 6) (da_cons (dv 3) (da_nil)))) (nomark _))))) (db_one (ds_ret (de_bl))) (db_nil)) (db_cons (ds_for passF rfl (di_r1 (by rfl) T.b_range (da_cons (dv 5) (da_nil))) (dg_name sc_law.nd rfl (by first | exact Or.inl rfl | exact Or.inr rfl)) (db_one (ds_if (dt_cmp dop_isnot (dmeth0 c_Sheet_back (dv 4) hr passD) (de_bl) (nomark _)) (db_one (ds_ret (de_bl))) (db_nil)))) (db_cons (ds_if (dt_w (dw_or (dt_cmp (dop_ne rfl hr.units) (dmeth0 c_Sheet_page (dv 4) hr passD) (de_lst false (da_cons (de_tup (da_cons (de_str (by decide +kernel) (by decide +kernel)) (da_nil))) (da_nil))) (nomark _)) (dw_or1 (dt_cmp dop_isnot (dmeth0 c_Sheet_back (dv 4) hr passD) (de_bl) (nomark _))))) (db_one (ds_ret (de_bl))) (db_nil)) (db_cons (ds_set sc_law.nd rfl (by first | exact Or.inl rfl | exact Or.inr rfl) (dmake n_Cursor hr passD (da_cons (dv 2) (da_cons (dv 3) (da_nil))))) (db_cons (ds_while 100000 passF (dt_val (dmeth0 c_Cursor_right (dv 9) hr passD)) (db_one (ds_pass))) (db_cons (ds_set sc_law.nd rfl (by first | exact Or.inl rfl | exact Or.inr rfl) (de_op dop_sub (de_callB (dc_sum rfl) (by rfl) T.b_sum (by decide +kernel) (da_cons (de_lc false rfl sc_law.nd (di_seq (dv 2)) (by exact blkOk_by (N := ["_law_script", "_law_box", "_law_page_here", "_law_style_here", "_law_sheet", "_law_many", "_law_blank", "_law_typed_here", "_law_turn", "_law_cursor", "_law_steps", "_law_row_here", "_law_cell_here"]) (sc := defScope s_law) (own := [("_law_row_here", 11)]) (by decide +kernel)) rfl (by decide) (fun _ _ _ _ _ => tg_one sc_law.nd rfl (by first | exact Or.inl rfl | exact Or.inr rfl)) (fun _ _ _ _ _ => dts_nil) (fun _ _ _ _ _ => de_op (dop_add false) (de_op dop_sub (de_op (dop_add false) (de_int) (de_callB dc_len (by rfl) T.b_len (by decide +kernel) (da_cons (dv 11) (da_nil)) (fun a b => pe_callB a (by rfl) T.b_len (by decide +kernel) b))) (de_int)) (de_callB (dc_sum rfl) (by rfl) T.b_sum (by decide +kernel) (da_cons (de_lc false rfl sc_law.nd (di_seq (dv 11)) (by exact blkOk_nest (N := ["_law_script", "_law_box", "_law_page_here", "_law_style_here", "_law_sheet", "_law_many", "_law_blank", "_law_typed_here", "_law_turn", "_law_cursor", "_law_steps", "_law_row_here", "_law_cell_here"]) (sc := defScope s_law) (own := [("_law_cell_here", 12)]) rfl rfl (by decide +kernel)) rfl (by decide) (fun _ _ _ _ _ => tg_one sc_law.nd rfl (by first | exact Or.inl rfl | exact Or.inr rfl)) (fun _ _ _ _ _ => dts_nil) (fun _ _ _ _ _ => de_callB dc_len (by rfl) T.b_len (by decide +kernel) (da_cons (dv 12) (da_nil)) (fun a b => pe_callB a (by rfl) T.b_len (by decide +kernel) b))) (da_nil)) (fun a b => pe_callB a (by rfl) T.b_sum (by decide +kernel) b)))) (da_nil)) (fun a b => pe_callB a (by rfl) T.b_sum (by decide +kernel) b)) (de_int))) (db_cons (ds_for passF rfl (di_r1 (by rfl) T.b_range (da_cons (dv 10) (da_nil))) (dg_name sc_law.nd rfl (by first | exact Or.inl rfl | exact Or.inr rfl)) (db_one (ds_expr (dmeth0 c_Cursor_rub (dv 9) hr passD)))) (db_one (ds_ret (de_and (de_cmp (dop_eq rfl hr.units) (dmeth0 c_Cursor_page (dv 9) hr passD) (de_lst false (da_cons (de_tup (da_cons (de_str (by decide +kernel) (by decide +kernel)) (da_nil))) (da_nil))) (nomark _)) (de_one (de_cmp (dop_eq rfl hr.units) (dmeth0 c_Cursor_at (dv 9) hr passD) (de_tup (da_cons (de_int) (da_cons (de_int) (da_cons (de_int) (da_nil))))) (nomark _)))))))))))))))))))))
end
theorem all_mk {l : PySem.W.OpenLaw} {w : World} {K : PySem.W.Frag} {h : Heap} {mg : Str → Option Value} {fa C1 C2 C3 C4 C5 f1 f2 f3 f4 f5 f6 f7 f8 f9 f10 f11 f12 f13 f14 f15 f16 f17 f18 f19 f20 f21 f22 f23 f24 f25 f26 f27 f28 f29 f30 f31 f32 f33 f34 f35 f36 f37 f38 f39 f40 f41 f42 f43 f44 f45 f46 : Addr} (HT : ∀ ns : List Int, ns.length ≤ 63 → ∃ st, m_law_k13 [.scr ns] [] = .ok (.bl true, st)) (X : K.In h) (G : h.Ns mainGlobals mg) (hfa : mg "law" = some (.ref fa))
    {od1 od2 od3 od4 od5 od6 od7 od8 od9 od10 od11 od12 od13 od14 od15 od16 od17 od18 od19 od20 od21 od22 od23 od24 od25 od26 od27 od28 od29 od30 od31 od32 od33 od34 od35 od36 od37 od38 od39 od40 od41 od42 od43 od44 od45 od46 an1 an2 an3 an4 an5 an6 an7 an8 an9 an10 an11 an12 an13 an14 an15 an16 an17 an18 an19 an20 an21 an22 an23 an24 an25 an26 an27 an28 an29 an30 an31 an32 an33 an34 an35 an36 an37 an38 an39 an40 an41 an42 an43 an44 an45 an46 : Option Addr} {sl1 sl2 sl3 sl4 sl5 sl6 sl7 sl8 sl9 sl10 sl11 sl12 sl13 sl14 sl15 sl16 sl17 sl18 sl19 sl20 sl21 sl22 sl23 sl24 sl25 sl26 sl27 sl28 sl29 sl30 sl31 sl32 sl33 sl34 sl35 sl36 sl37 sl38 sl39 sl40 sl41 sl42 sl43 sl44 sl45 sl46 : Array (Option Value)} {oc1 oc2 oc3 oc4 oc5 oc6 oc7 oc8 oc9 oc10 oc11 oc12 oc13 oc14 oc15 oc16 oc17 oc18 oc19 oc20 oc21 oc22 oc23 oc24 oc25 oc26 oc27 oc28 oc29 oc30 oc31 oc32 oc33 oc34 oc35 oc36 oc37 oc38 oc39 oc40 oc41 oc42 oc43 oc44 oc45 oc46 kV1 kV2 kV3 kV4 kV5 kV6 kV7 kV8 kV9 kV10 kV11 kV12 kV13 kV14 kV15 kV16 kV17 kV18 kV19 kV20 kV21 kV22 kV23 kV24 kV25 kV26 kV27 kV28 kV29 kV30 kV31 kV32 kV33 kV34 kV35 kV36 kV37 kV38 kV39 kV40 kV41 kV42 kV43 kV44 kV45 kV46 dc1 dc2 dc3 dc4 dc5 dc6 dc7 dc8 dc9 dc10 dc11 dc12 dc13 dc14 dc15 dc16 dc17 dc18 dc19 dc20 dc21 dc22 dc23 dc24 dc25 dc26 dc27 dc28 dc29 dc30 dc31 dc32 dc33 dc34 dc35 dc36 dc37 dc38 dc39 dc40 dc41 dc42 dc43 dc44 dc45 dc46 pm1 pm2 pm3 pm4 pm5 pm6 pm7 pm8 pm9 pm10 pm11 pm12 pm13 pm14 pm15 pm16 pm17 pm18 pm19 pm20 pm21 pm22 pm23 pm24 pm25 pm26 pm27 pm28 pm29 pm30 pm31 pm32 pm33 pm34 pm35 pm36 pm37 pm38 pm39 pm40 pm41 pm42 pm43 pm44 pm45 pm46 cd1 cd2 cd3 cd4 cd5 cd6 cd7 cd8 cd9 cd10 cd11 cd12 cd13 cd14 cd15 cd16 cd17 cd18 cd19 cd20 cd21 cd22 cd23 cd24 cd25 cd26 cd27 cd28 cd29 cd30 cd31 cd32 cd33 cd34 cd35 cd36 cd37 cd38 cd39 cd40 cd41 cd42 cd43 cd44 cd45 cd46 ct1 ct2 ct3 ct4 ct5 ct6 ct7 ct8 ct9 ct10 ct11 ct12 ct13 ct14 ct15 ct16 ct17 ct18 ct19 ct20 ct21 ct22 ct23 ct24 ct25 ct26 ct27 ct28 ct29 ct30 ct31 ct32 ct33 ct34 ct35 ct36 ct37 ct38 ct39 ct40 ct41 ct42 ct43 ct44 ct45 ct46 : Value} {t_FIGURES t_MOST_CELLS t_MOST_ROWS t_FIRST_SIGN t_LAST_SIGN t_BARRED t_MOST_SIGNS t_TAB t_MOST_GAP t_MOST_LEAST : Tok}
    (zb_len : PySem.W.nsIn K mainGlobals "len" = some none)
    (zb_int : PySem.W.nsIn K mainGlobals "int" = some none)
    (zb_list : PySem.W.nsIn K mainGlobals "list" = some none)
    (zb_str : PySem.W.nsIn K mainGlobals "str" = some none)
    (zb_range : PySem.W.nsIn K mainGlobals "range" = some none)
    (zb_tuple : PySem.W.nsIn K mainGlobals "tuple" = some none)
    (zb_min : PySem.W.nsIn K mainGlobals "min" = some none)
    (zb_max : PySem.W.nsIn K mainGlobals "max" = some none)
    (zb_isinstance : PySem.W.nsIn K mainGlobals "isinstance" = some none)
    (zb_bool : PySem.W.nsIn K mainGlobals "bool" = some none)
    (zb_enumerate : PySem.W.nsIn K mainGlobals "enumerate" = some none)
    (zb_ord : PySem.W.nsIn K mainGlobals "ord" = some none)
    (zb_sum : PySem.W.nsIn K mainGlobals "sum" = some none)
    (zk_FIGURES : PySem.W.nsIn K mainGlobals "FIGURES" = some (some (.str "0123456789" t_FIGURES)))
    (zk_MOST_CELLS : PySem.W.nsIn K mainGlobals "MOST_CELLS" = some (some (.int (6) t_MOST_CELLS)))
    (zk_MOST_ROWS : PySem.W.nsIn K mainGlobals "MOST_ROWS" = some (some (.int (30) t_MOST_ROWS)))
    (zk_FIRST_SIGN : PySem.W.nsIn K mainGlobals "FIRST_SIGN" = some (some (.str " " t_FIRST_SIGN)))
    (zk_LAST_SIGN : PySem.W.nsIn K mainGlobals "LAST_SIGN" = some (some (.str "~" t_LAST_SIGN)))
    (zk_BARRED : PySem.W.nsIn K mainGlobals "BARRED" = some (some (.int (37) t_BARRED)))
    (zk_MOST_SIGNS : PySem.W.nsIn K mainGlobals "MOST_SIGNS" = some (some (.int (10) t_MOST_SIGNS)))
    (zk_TAB : PySem.W.nsIn K mainGlobals "TAB" = some (some (.str "\t" t_TAB)))
    (zk_MOST_GAP : PySem.W.nsIn K mainGlobals "MOST_GAP" = some (some (.int (4) t_MOST_GAP)))
    (zk_MOST_LEAST : PySem.W.nsIn K mainGlobals "MOST_LEAST" = some (some (.int (12) t_MOST_LEAST)))
    (aC_Sheet : PySem.W.nsIn K mainGlobals "Sheet" = some (some (.ref C1)))
    (pg_Sheet : PySem.W.plainGet K C1 Str.empty = true)
    (hd_Sheet : PySem.W.hasDictIn K C1 = true)
    (po_Sheet : PySem.W.plainOver K C1 = true)
    (sa_Sheet : PySem.W.findIn K (.ref C1) "__setattr__" = some (some (.builtin "object.__setattr__")))
    (mk_Sheet : PySem.W.makesIn K C1 = true)
    (kc_Sheet : PySem.W.keepIn K (.ref C1) = true)
    (aC_Stretch : PySem.W.nsIn K mainGlobals "Stretch" = some (some (.ref C2)))
    (pg_Stretch : PySem.W.plainGet K C2 Str.empty = true)
    (hd_Stretch : PySem.W.hasDictIn K C2 = true)
    (po_Stretch : PySem.W.plainOver K C2 = true)
    (sa_Stretch : PySem.W.findIn K (.ref C2) "__setattr__" = some (some (.builtin "object.__setattr__")))
    (mk_Stretch : PySem.W.makesIn K C2 = true)
    (kc_Stretch : PySem.W.keepIn K (.ref C2) = true)
    (aC_Cursor : PySem.W.nsIn K mainGlobals "Cursor" = some (some (.ref C3)))
    (pg_Cursor : PySem.W.plainGet K C3 Str.empty = true)
    (hd_Cursor : PySem.W.hasDictIn K C3 = true)
    (po_Cursor : PySem.W.plainOver K C3 = true)
    (sa_Cursor : PySem.W.findIn K (.ref C3) "__setattr__" = some (some (.builtin "object.__setattr__")))
    (mk_Cursor : PySem.W.makesIn K C3 = true)
    (kc_Cursor : PySem.W.keepIn K (.ref C3) = true)
    (aC_BadRow : PySem.W.nsIn K mainGlobals "BadRow" = some (some (.ref C4)))
    (aC_BadCell : PySem.W.nsIn K mainGlobals "BadCell" = some (some (.ref C5)))
    (xe_BadRow : PySem.W.excIn K C4 [.type "ValueError", .type "Exception", .type "BaseException", .type "object"] "ValueError.__new__" = true)
    (xk_BadRow : PySem.W.keepIn K (.ref C4) = true)
    (xs_BadRow : PySem.W.subIn K (.ref C4) (.type "BaseException") = some true)
    (xt_BadRow : PySem.W.typeIn K (.ref C4) = some (.type "type"))
    (xe_BadCell : PySem.W.excIn K C5 [.type "ValueError", .type "Exception", .type "BaseException", .type "object"] "ValueError.__new__" = true)
    (xk_BadCell : PySem.W.keepIn K (.ref C5) = true)
    (xs_BadCell : PySem.W.subIn K (.ref C5) (.type "BaseException") = some true)
    (xt_BadCell : PySem.W.typeIn K (.ref C5) = some (.type "type"))
    (nf_Sheet_rows : PySem.W.findIn K (.ref C1) "rows" = some none)
    (nf_Stretch_cells : PySem.W.findIn K (.ref C2) "cells" = some none)
    (nf_Stretch_end : PySem.W.findIn K (.ref C2) "end" = some none)
    (nf_Stretch_begin : PySem.W.findIn K (.ref C2) "begin" = some none)
    (nf_Stretch_column : PySem.W.findIn K (.ref C2) "column" = some none)
    (nf_Sheet_lefts : PySem.W.findIn K (.ref C1) "lefts" = some none)
    (nf_Sheet_past : PySem.W.findIn K (.ref C1) "past" = some none)
    (nf_Sheet_style : PySem.W.findIn K (.ref C1) "style" = some none)
    (nf_Cursor_sheet : PySem.W.findIn K (.ref C3) "sheet" = some none)
    (nf_Cursor_number : PySem.W.findIn K (.ref C3) "number" = some none)
    (nf_Cursor_place : PySem.W.findIn K (.ref C3) "place" = some none)
    (nf_Cursor_cell : PySem.W.findIn K (.ref C3) "cell" = some none)
    (a1 : PySem.W.nsIn K mainGlobals "_law_begun" = some (some (.ref f1)))
    (l1 : K.lookup f1 = some ⟨oc1, od1, .func (PySem.W.fnOf "_law_begun" "_law_begun" (defArgs s_law_begun) (defBody s_law_begun) (defScope s_law_begun) .none kV1 dc1 pm1 an1 cd1 ct1), sl1⟩)
    (c1 : PySem.W.codeIn K cd1 "_law_begun" = true)
    (k1 : PySem.W.keepIn K (.ref f1) = true)
    (a2 : PySem.W.nsIn K mainGlobals "_law_take" = some (some (.ref f2)))
    (l2 : K.lookup f2 = some ⟨oc2, od2, .func (PySem.W.fnOf "_law_take" "_law_take" (defArgs s_law_take) (defBody s_law_take) (defScope s_law_take) .none kV2 dc2 pm2 an2 cd2 ct2), sl2⟩)
    (c2 : PySem.W.codeIn K cd2 "_law_take" = true)
    (k2 : PySem.W.keepIn K (.ref f2) = true)
    (a3 : PySem.W.nsIn K mainGlobals "_law_sign" = some (some (.ref f3)))
    (l3 : K.lookup f3 = some ⟨oc3, od3, .func (PySem.W.fnOf "_law_sign" "_law_sign" (defArgs s_law_sign) (defBody s_law_sign) (defScope s_law_sign) .none kV3 dc3 pm3 an3 cd3 ct3), sl3⟩)
    (c3 : PySem.W.codeIn K cd3 "_law_sign" = true)
    (k3 : PySem.W.keepIn K (.ref f3) = true)
    (a4 : PySem.W.nsIn K mainGlobals "_law_cell" = some (some (.ref f4)))
    (l4 : K.lookup f4 = some ⟨oc4, od4, .func (PySem.W.fnOf "_law_cell" "_law_cell" (defArgs s_law_cell) (defBody s_law_cell) (defScope s_law_cell) .none kV4 dc4 pm4 an4 cd4 ct4), sl4⟩)
    (c4 : PySem.W.codeIn K cd4 "_law_cell" = true)
    (k4 : PySem.W.keepIn K (.ref f4) = true)
    (a5 : PySem.W.nsIn K mainGlobals "_law_row" = some (some (.ref f5)))
    (l5 : K.lookup f5 = some ⟨oc5, od5, .func (PySem.W.fnOf "_law_row" "_law_row" (defArgs s_law_row) (defBody s_law_row) (defScope s_law_row) .none kV5 dc5 pm5 an5 cd5 ct5), sl5⟩)
    (c5 : PySem.W.codeIn K cd5 "_law_row" = true)
    (k5 : PySem.W.keepIn K (.ref f5) = true)
    (a6 : PySem.W.nsIn K mainGlobals "_law_page" = some (some (.ref f6)))
    (l6 : K.lookup f6 = some ⟨oc6, od6, .func (PySem.W.fnOf "_law_page" "_law_page" (defArgs s_law_page) (defBody s_law_page) (defScope s_law_page) .none kV6 dc6 pm6 an6 cd6 ct6), sl6⟩)
    (c6 : PySem.W.codeIn K cd6 "_law_page" = true)
    (k6 : PySem.W.keepIn K (.ref f6) = true)
    (a7 : PySem.W.nsIn K mainGlobals "_law_style" = some (some (.ref f7)))
    (l7 : K.lookup f7 = some ⟨oc7, od7, .func (PySem.W.fnOf "_law_style" "_law_style" (defArgs s_law_style) (defBody s_law_style) (defScope s_law_style) .none kV7 dc7 pm7 an7 cd7 ct7), sl7⟩)
    (c7 : PySem.W.codeIn K cd7 "_law_style" = true)
    (k7 : PySem.W.keepIn K (.ref f7) = true)
    (a8 : PySem.W.nsIn K mainGlobals "is_number" = some (some (.ref f8)))
    (l8 : K.lookup f8 = some ⟨oc8, od8, .func (PySem.W.fnOf "is_number" "is_number" (defArgs s_is_number) (defBody s_is_number) (defScope s_is_number) .none kV8 dc8 pm8 an8 cd8 ct8), sl8⟩)
    (c8 : PySem.W.codeIn K cd8 "is_number" = true)
    (k8 : PySem.W.keepIn K (.ref f8) = true)
    (a9 : PySem.W.findIn K (.ref C1) "need_number" = some (some (.ref f9)))
    (i9 : PySem.W.isFn K (.ref f9) = true)
    (l9 : K.lookup f9 = some ⟨oc9, od9, .func (PySem.W.fnOf "need_number" "Sheet.need_number" (defArgs s_Sheet_need_number) (defBody s_Sheet_need_number) (defScope s_Sheet_need_number) .none kV9 dc9 pm9 an9 cd9 ct9), sl9⟩)
    (c9 : PySem.W.codeIn K cd9 "Sheet.need_number" = true)
    (k9 : PySem.W.keepIn K (.ref f9) = true)
    (a10 : PySem.W.findIn K (.ref C1) "need_place" = some (some (.ref f10)))
    (i10 : PySem.W.isFn K (.ref f10) = true)
    (l10 : K.lookup f10 = some ⟨oc10, od10, .func (PySem.W.fnOf "need_place" "Sheet.need_place" (defArgs s_Sheet_need_place) (defBody s_Sheet_need_place) (defScope s_Sheet_need_place) .none kV10 dc10 pm10 an10 cd10 ct10), sl10⟩)
    (c10 : PySem.W.codeIn K cd10 "Sheet.need_place" = true)
    (k10 : PySem.W.keepIn K (.ref f10) = true)
    (a11 : PySem.W.findIn K (.ref C2) "width" = some (some (.ref f11)))
    (i11 : PySem.W.isFn K (.ref f11) = true)
    (l11 : K.lookup f11 = some ⟨oc11, od11, .func (PySem.W.fnOf "width" "Stretch.width" (defArgs s_Stretch_width) (defBody s_Stretch_width) (defScope s_Stretch_width) .none kV11 dc11 pm11 an11 cd11 ct11), sl11⟩)
    (c11 : PySem.W.codeIn K cd11 "Stretch.width" = true)
    (k11 : PySem.W.keepIn K (.ref f11) = true)
    (a12 : PySem.W.nsIn K mainGlobals "stops_by" = some (some (.ref f12)))
    (l12 : K.lookup f12 = some ⟨oc12, od12, .func (PySem.W.fnOf "stops_by" "stops_by" (defArgs s_stops_by) (defBody s_stops_by) (defScope s_stops_by) .none kV12 dc12 pm12 an12 cd12 ct12), sl12⟩)
    (c12 : PySem.W.codeIn K cd12 "stops_by" = true)
    (k12 : PySem.W.keepIn K (.ref f12) = true)
    (a13 : PySem.W.nsIn K mainGlobals "is_figures" = some (some (.ref f13)))
    (l13 : K.lookup f13 = some ⟨oc13, od13, .func (PySem.W.fnOf "is_figures" "is_figures" (defArgs s_is_figures) (defBody s_is_figures) (defScope s_is_figures) .none kV13 dc13 pm13 an13 cd13 ct13), sl13⟩)
    (c13 : PySem.W.codeIn K cd13 "is_figures" = true)
    (k13 : PySem.W.keepIn K (.ref f13) = true)
    (a14 : PySem.W.findIn K (.ref C2) "is_right" = some (some (.ref f14)))
    (i14 : PySem.W.isFn K (.ref f14) = true)
    (l14 : K.lookup f14 = some ⟨oc14, od14, .func (PySem.W.fnOf "is_right" "Stretch.is_right" (defArgs s_Stretch_is_right) (defBody s_Stretch_is_right) (defScope s_Stretch_is_right) .none kV14 dc14 pm14 an14 cd14 ct14), sl14⟩)
    (c14 : PySem.W.codeIn K cd14 "Stretch.is_right" = true)
    (k14 : PySem.W.keepIn K (.ref f14) = true)
    (a15 : PySem.W.nsIn K mainGlobals "begins_by" = some (some (.ref f15)))
    (l15 : K.lookup f15 = some ⟨oc15, od15, .func (PySem.W.fnOf "begins_by" "begins_by" (defArgs s_begins_by) (defBody s_begins_by) (defScope s_begins_by) .none kV15 dc15 pm15 an15 cd15 ct15), sl15⟩)
    (c15 : PySem.W.codeIn K cd15 "begins_by" = true)
    (k15 : PySem.W.keepIn K (.ref f15) = true)
    (a16 : PySem.W.findIn K (.ref C2) "__init__" = some (some (.ref f16)))
    (i16 : PySem.W.isFn K (.ref f16) = true)
    (l16 : K.lookup f16 = some ⟨oc16, od16, .func (PySem.W.fnOf "__init__" "Stretch.__init__" (defArgs s_Stretch_init) (defBody s_Stretch_init) (defScope s_Stretch_init) .none kV16 dc16 pm16 an16 cd16 ct16), sl16⟩)
    (c16 : PySem.W.codeIn K cd16 "Stretch.__init__" = true)
    (k16 : PySem.W.keepIn K (.ref f16) = true)
    (a17 : PySem.W.nsIn K mainGlobals "stretches_of" = some (some (.ref f17)))
    (l17 : K.lookup f17 = some ⟨oc17, od17, .func (PySem.W.fnOf "stretches_of" "stretches_of" (defArgs s_stretches_of) (defBody s_stretches_of) (defScope s_stretches_of) .none kV17 dc17 pm17 an17 cd17 ct17), sl17⟩)
    (c17 : PySem.W.codeIn K cd17 "stretches_of" = true)
    (k17 : PySem.W.keepIn K (.ref f17) = true)
    (a18 : PySem.W.nsIn K mainGlobals "all_stretches" = some (some (.ref f18)))
    (l18 : K.lookup f18 = some ⟨oc18, od18, .func (PySem.W.fnOf "all_stretches" "all_stretches" (defArgs s_all_stretches) (defBody s_all_stretches) (defScope s_all_stretches) .none kV18 dc18 pm18 an18 cd18 ct18), sl18⟩)
    (c18 : PySem.W.codeIn K cd18 "all_stretches" = true)
    (k18 : PySem.W.keepIn K (.ref f18) = true)
    (a19 : PySem.W.findIn K (.ref C1) "turn_to" = some (some (.ref f19)))
    (i19 : PySem.W.isFn K (.ref f19) = true)
    (l19 : K.lookup f19 = some ⟨oc19, od19, .func (PySem.W.fnOf "turn_to" "Sheet.turn_to" (defArgs s_Sheet_turn_to) (defBody s_Sheet_turn_to) (defScope s_Sheet_turn_to) .none kV19 dc19 pm19 an19 cd19 ct19), sl19⟩)
    (c19 : PySem.W.codeIn K cd19 "Sheet.turn_to" = true)
    (k19 : PySem.W.keepIn K (.ref f19) = true)
    (a20 : PySem.W.findIn K (.ref C1) "part" = some (some (.ref f20)))
    (i20 : PySem.W.isFn K (.ref f20) = true)
    (l20 : K.lookup f20 = some ⟨oc20, od20, .func (PySem.W.fnOf "part" "Sheet.part" (defArgs s_Sheet_part) (defBody s_Sheet_part) (defScope s_Sheet_part) .none kV20 dc20 pm20 an20 cd20 ct20), sl20⟩)
    (c20 : PySem.W.codeIn K cd20 "Sheet.part" = true)
    (k20 : PySem.W.keepIn K (.ref f20) = true)
    (a21 : PySem.W.nsIn K mainGlobals "is_sign" = some (some (.ref f21)))
    (l21 : K.lookup f21 = some ⟨oc21, od21, .func (PySem.W.fnOf "is_sign" "is_sign" (defArgs s_is_sign) (defBody s_is_sign) (defScope s_is_sign) .none kV21 dc21 pm21 an21 cd21 ct21), sl21⟩)
    (c21 : PySem.W.codeIn K cd21 "is_sign" = true)
    (k21 : PySem.W.keepIn K (.ref f21) = true)
    (a22 : PySem.W.nsIn K mainGlobals "is_cell" = some (some (.ref f22)))
    (l22 : K.lookup f22 = some ⟨oc22, od22, .func (PySem.W.fnOf "is_cell" "is_cell" (defArgs s_is_cell) (defBody s_is_cell) (defScope s_is_cell) .none kV22 dc22 pm22 an22 cd22 ct22), sl22⟩)
    (c22 : PySem.W.codeIn K cd22 "is_cell" = true)
    (k22 : PySem.W.keepIn K (.ref f22) = true)
    (a23 : PySem.W.nsIn K mainGlobals "is_row" = some (some (.ref f23)))
    (l23 : K.lookup f23 = some ⟨oc23, od23, .func (PySem.W.fnOf "is_row" "is_row" (defArgs s_is_row) (defBody s_is_row) (defScope s_is_row) .none kV23 dc23 pm23 an23 cd23 ct23), sl23⟩)
    (c23 : PySem.W.codeIn K cd23 "is_row" = true)
    (k23 : PySem.W.keepIn K (.ref f23) = true)
    (a24 : PySem.W.nsIn K mainGlobals "need_row" = some (some (.ref f24)))
    (l24 : K.lookup f24 = some ⟨oc24, od24, .func (PySem.W.fnOf "need_row" "need_row" (defArgs s_need_row) (defBody s_need_row) (defScope s_need_row) .none kV24 dc24 pm24 an24 cd24 ct24), sl24⟩)
    (c24 : PySem.W.codeIn K cd24 "need_row" = true)
    (k24 : PySem.W.keepIn K (.ref f24) = true)
    (a25 : PySem.W.findIn K (.ref C1) "change" = some (some (.ref f25)))
    (i25 : PySem.W.isFn K (.ref f25) = true)
    (l25 : K.lookup f25 = some ⟨oc25, od25, .func (PySem.W.fnOf "change" "Sheet.change" (defArgs s_Sheet_change) (defBody s_Sheet_change) (defScope s_Sheet_change) .none kV25 dc25 pm25 an25 cd25 ct25), sl25⟩)
    (c25 : PySem.W.codeIn K cd25 "Sheet.change" = true)
    (k25 : PySem.W.keepIn K (.ref f25) = true)
    (a26 : PySem.W.findIn K (.ref C1) "strike" = some (some (.ref f26)))
    (i26 : PySem.W.isFn K (.ref f26) = true)
    (l26 : K.lookup f26 = some ⟨oc26, od26, .func (PySem.W.fnOf "strike" "Sheet.strike" (defArgs s_Sheet_strike) (defBody s_Sheet_strike) (defScope s_Sheet_strike) .none kV26 dc26 pm26 an26 cd26 ct26), sl26⟩)
    (c26 : PySem.W.codeIn K cd26 "Sheet.strike" = true)
    (k26 : PySem.W.keepIn K (.ref f26) = true)
    (a27 : PySem.W.nsIn K mainGlobals "_law_parted" = some (some (.ref f27)))
    (l27 : K.lookup f27 = some ⟨oc27, od27, .func (PySem.W.fnOf "_law_parted" "_law_parted" (defArgs s_law_parted) (defBody s_law_parted) (defScope s_law_parted) .none kV27 dc27 pm27 an27 cd27 ct27), sl27⟩)
    (c27 : PySem.W.codeIn K cd27 "_law_parted" = true)
    (k27 : PySem.W.keepIn K (.ref f27) = true)
    (a28 : PySem.W.findIn K (.ref C1) "page" = some (some (.ref f28)))
    (i28 : PySem.W.isFn K (.ref f28) = true)
    (l28 : K.lookup f28 = some ⟨oc28, od28, .func (PySem.W.fnOf "page" "Sheet.page" (defArgs s_Sheet_page) (defBody s_Sheet_page) (defScope s_Sheet_page) .none kV28 dc28 pm28 an28 cd28 ct28), sl28⟩)
    (c28 : PySem.W.codeIn K cd28 "Sheet.page" = true)
    (k28 : PySem.W.keepIn K (.ref f28) = true)
    (a29 : PySem.W.nsIn K mainGlobals "_law_typed" = some (some (.ref f29)))
    (l29 : K.lookup f29 = some ⟨oc29, od29, .func (PySem.W.fnOf "_law_typed" "_law_typed" (defArgs s_law_typed) (defBody s_law_typed) (defScope s_law_typed) .none kV29 dc29 pm29 an29 cd29 ct29), sl29⟩)
    (c29 : PySem.W.codeIn K cd29 "_law_typed" = true)
    (k29 : PySem.W.keepIn K (.ref f29) = true)
    (a30 : PySem.W.findIn K (.ref C1) "begins" = some (some (.ref f30)))
    (i30 : PySem.W.isFn K (.ref f30) = true)
    (l30 : K.lookup f30 = some ⟨oc30, od30, .func (PySem.W.fnOf "begins" "Sheet.begins" (defArgs s_Sheet_begins) (defBody s_Sheet_begins) (defScope s_Sheet_begins) .none kV30 dc30 pm30 an30 cd30 ct30), sl30⟩)
    (c30 : PySem.W.codeIn K cd30 "Sheet.begins" = true)
    (k30 : PySem.W.keepIn K (.ref f30) = true)
    (a31 : PySem.W.nsIn K mainGlobals "need_page" = some (some (.ref f31)))
    (l31 : K.lookup f31 = some ⟨oc31, od31, .func (PySem.W.fnOf "need_page" "need_page" (defArgs s_need_page) (defBody s_need_page) (defScope s_need_page) .none kV31 dc31 pm31 an31 cd31 ct31), sl31⟩)
    (c31 : PySem.W.codeIn K cd31 "need_page" = true)
    (k31 : PySem.W.keepIn K (.ref f31) = true)
    (a32 : PySem.W.nsIn K mainGlobals "need_style" = some (some (.ref f32)))
    (l32 : K.lookup f32 = some ⟨oc32, od32, .func (PySem.W.fnOf "need_style" "need_style" (defArgs s_need_style) (defBody s_need_style) (defScope s_need_style) .none kV32 dc32 pm32 an32 cd32 ct32), sl32⟩)
    (c32 : PySem.W.codeIn K cd32 "need_style" = true)
    (k32 : PySem.W.keepIn K (.ref f32) = true)
    (a33 : PySem.W.nsIn K mainGlobals "laid" = some (some (.ref f33)))
    (l33 : K.lookup f33 = some ⟨oc33, od33, .func (PySem.W.fnOf "laid" "laid" (defArgs s_laid) (defBody s_laid) (defScope s_laid) .none kV33 dc33 pm33 an33 cd33 ct33), sl33⟩)
    (c33 : PySem.W.codeIn K cd33 "laid" = true)
    (k33 : PySem.W.keepIn K (.ref f33) = true)
    (a34 : PySem.W.findIn K (.ref C1) "back" = some (some (.ref f34)))
    (i34 : PySem.W.isFn K (.ref f34) = true)
    (l34 : K.lookup f34 = some ⟨oc34, od34, .func (PySem.W.fnOf "back" "Sheet.back" (defArgs s_Sheet_back) (defBody s_Sheet_back) (defScope s_Sheet_back) .none kV34 dc34 pm34 an34 cd34 ct34), sl34⟩)
    (c34 : PySem.W.codeIn K cd34 "Sheet.back" = true)
    (k34 : PySem.W.keepIn K (.ref f34) = true)
    (a35 : PySem.W.findIn K (.ref C3) "mine" = some (some (.ref f35)))
    (i35 : PySem.W.isFn K (.ref f35) = true)
    (l35 : K.lookup f35 = some ⟨oc35, od35, .func (PySem.W.fnOf "mine" "Cursor.mine" (defArgs s_Cursor_mine) (defBody s_Cursor_mine) (defScope s_Cursor_mine) .none kV35 dc35 pm35 an35 cd35 ct35), sl35⟩)
    (c35 : PySem.W.codeIn K cd35 "Cursor.mine" = true)
    (k35 : PySem.W.keepIn K (.ref f35) = true)
    (a36 : PySem.W.findIn K (.ref C3) "at" = some (some (.ref f36)))
    (i36 : PySem.W.isFn K (.ref f36) = true)
    (l36 : K.lookup f36 = some ⟨oc36, od36, .func (PySem.W.fnOf "at" "Cursor.at" (defArgs s_Cursor_at) (defBody s_Cursor_at) (defScope s_Cursor_at) .none kV36 dc36 pm36 an36 cd36 ct36), sl36⟩)
    (c36 : PySem.W.codeIn K cd36 "Cursor.at" = true)
    (k36 : PySem.W.keepIn K (.ref f36) = true)
    (a37 : PySem.W.findIn K (.ref C3) "go" = some (some (.ref f37)))
    (i37 : PySem.W.isFn K (.ref f37) = true)
    (l37 : K.lookup f37 = some ⟨oc37, od37, .func (PySem.W.fnOf "go" "Cursor.go" (defArgs s_Cursor_go) (defBody s_Cursor_go) (defScope s_Cursor_go) .none kV37 dc37 pm37 an37 cd37 ct37), sl37⟩)
    (c37 : PySem.W.codeIn K cd37 "Cursor.go" = true)
    (k37 : PySem.W.keepIn K (.ref f37) = true)
    (a38 : PySem.W.findIn K (.ref C3) "right" = some (some (.ref f38)))
    (i38 : PySem.W.isFn K (.ref f38) = true)
    (l38 : K.lookup f38 = some ⟨oc38, od38, .func (PySem.W.fnOf "right" "Cursor.right" (defArgs s_Cursor_right) (defBody s_Cursor_right) (defScope s_Cursor_right) .none kV38 dc38 pm38 an38 cd38 ct38), sl38⟩)
    (c38 : PySem.W.codeIn K cd38 "Cursor.right" = true)
    (k38 : PySem.W.keepIn K (.ref f38) = true)
    (a39 : PySem.W.findIn K (.ref C1) "erase" = some (some (.ref f39)))
    (i39 : PySem.W.isFn K (.ref f39) = true)
    (l39 : K.lookup f39 = some ⟨oc39, od39, .func (PySem.W.fnOf "erase" "Sheet.erase" (defArgs s_Sheet_erase) (defBody s_Sheet_erase) (defScope s_Sheet_erase) .none kV39 dc39 pm39 an39 cd39 ct39), sl39⟩)
    (c39 : PySem.W.codeIn K cd39 "Sheet.erase" = true)
    (k39 : PySem.W.keepIn K (.ref f39) = true)
    (a40 : PySem.W.findIn K (.ref C1) "unite" = some (some (.ref f40)))
    (i40 : PySem.W.isFn K (.ref f40) = true)
    (l40 : K.lookup f40 = some ⟨oc40, od40, .func (PySem.W.fnOf "unite" "Sheet.unite" (defArgs s_Sheet_unite) (defBody s_Sheet_unite) (defScope s_Sheet_unite) .none kV40 dc40 pm40 an40 cd40 ct40), sl40⟩)
    (c40 : PySem.W.codeIn K cd40 "Sheet.unite" = true)
    (k40 : PySem.W.keepIn K (.ref f40) = true)
    (a41 : PySem.W.findIn K (.ref C3) "unite" = some (some (.ref f41)))
    (i41 : PySem.W.isFn K (.ref f41) = true)
    (l41 : K.lookup f41 = some ⟨oc41, od41, .func (PySem.W.fnOf "unite" "Cursor.unite" (defArgs s_Cursor_unite) (defBody s_Cursor_unite) (defScope s_Cursor_unite) .none kV41 dc41 pm41 an41 cd41 ct41), sl41⟩)
    (c41 : PySem.W.codeIn K cd41 "Cursor.unite" = true)
    (k41 : PySem.W.keepIn K (.ref f41) = true)
    (a42 : PySem.W.findIn K (.ref C3) "rub" = some (some (.ref f42)))
    (i42 : PySem.W.isFn K (.ref f42) = true)
    (l42 : K.lookup f42 = some ⟨oc42, od42, .func (PySem.W.fnOf "rub" "Cursor.rub" (defArgs s_Cursor_rub) (defBody s_Cursor_rub) (defScope s_Cursor_rub) .none kV42 dc42 pm42 an42 cd42 ct42), sl42⟩)
    (c42 : PySem.W.codeIn K cd42 "Cursor.rub" = true)
    (k42 : PySem.W.keepIn K (.ref f42) = true)
    (a43 : PySem.W.findIn K (.ref C3) "page" = some (some (.ref f43)))
    (i43 : PySem.W.isFn K (.ref f43) = true)
    (l43 : K.lookup f43 = some ⟨oc43, od43, .func (PySem.W.fnOf "page" "Cursor.page" (defArgs s_Cursor_page) (defBody s_Cursor_page) (defScope s_Cursor_page) .none kV43 dc43 pm43 an43 cd43 ct43), sl43⟩)
    (c43 : PySem.W.codeIn K cd43 "Cursor.page" = true)
    (k43 : PySem.W.keepIn K (.ref f43) = true)
    (a44 : PySem.W.findIn K (.ref C1) "__init__" = some (some (.ref f44)))
    (i44 : PySem.W.isFn K (.ref f44) = true)
    (l44 : K.lookup f44 = some ⟨oc44, od44, .func (PySem.W.fnOf "__init__" "Sheet.__init__" (defArgs s_Sheet_init) (defBody s_Sheet_init) (defScope s_Sheet_init) .none kV44 dc44 pm44 an44 cd44 ct44), sl44⟩)
    (c44 : PySem.W.codeIn K cd44 "Sheet.__init__" = true)
    (k44 : PySem.W.keepIn K (.ref f44) = true)
    (a45 : PySem.W.findIn K (.ref C3) "__init__" = some (some (.ref f45)))
    (i45 : PySem.W.isFn K (.ref f45) = true)
    (l45 : K.lookup f45 = some ⟨oc45, od45, .func (PySem.W.fnOf "__init__" "Cursor.__init__" (defArgs s_Cursor_init) (defBody s_Cursor_init) (defScope s_Cursor_init) .none kV45 dc45 pm45 an45 cd45 ct45), sl45⟩)
    (c45 : PySem.W.codeIn K cd45 "Cursor.__init__" = true)
    (k45 : PySem.W.keepIn K (.ref f45) = true)
    (a46 : PySem.W.nsIn K mainGlobals "law" = some (some (.ref f46)))
    (l46 : K.lookup f46 = some ⟨oc46, od46, .func (PySem.W.fnOf "law" "law" (defArgs s_law) (defBody s_law) (defScope s_law) .none kV46 dc46 pm46 an46 cd46 ct46), sl46⟩)
    (c46 : PySem.W.codeIn K cd46 "law" = true)
    (k46 : PySem.W.keepIn K (.ref f46) = true)
    : ∃ fd : FuncData, (∀ (s : Shared) (u : Value), BindsTo s fd ⟨[u], []⟩ [("_law_script", u)]) ∧ ∀ base : Heap, K.In base → base.Ns mainGlobals mg → FnOk l.prog w K mg base (L2.CX l.prog w) 9 fa fd ["_law_script"] (spLaw 63) := by
  have e := hfa.symm.trans (PySem.W.mg_of X G a46)
  cases e
  let W : Wd := ⟨K, fun n => match n with | 13 => C1 | 12 => C2 | 14 => C3 | 3 => C4 | 4 => C5 | _ => 0, fun _ => none, []⟩
  have T : Txt W mg := ⟨PySem.W.mg_none_of X G zb_len, PySem.W.mg_none_of X G zb_int, PySem.W.mg_none_of X G zb_list, PySem.W.mg_none_of X G zb_str, PySem.W.mg_none_of X G zb_range, PySem.W.mg_none_of X G zb_tuple, PySem.W.mg_none_of X G zb_min, PySem.W.mg_none_of X G zb_max, PySem.W.mg_none_of X G zb_isinstance, PySem.W.mg_none_of X G zb_bool, PySem.W.mg_none_of X G zb_enumerate, PySem.W.mg_none_of X G zb_ord, PySem.W.mg_none_of X G zb_sum, ⟨_, PySem.W.mg_of X G zk_FIGURES⟩, ⟨_, PySem.W.mg_of X G zk_MOST_CELLS⟩, ⟨_, PySem.W.mg_of X G zk_MOST_ROWS⟩, ⟨_, PySem.W.mg_of X G zk_FIRST_SIGN⟩, ⟨_, PySem.W.mg_of X G zk_LAST_SIGN⟩, ⟨_, PySem.W.mg_of X G zk_BARRED⟩, ⟨_, PySem.W.mg_of X G zk_MOST_SIGNS⟩, ⟨_, PySem.W.mg_of X G zk_TAB⟩, ⟨_, PySem.W.mg_of X G zk_MOST_GAP⟩, ⟨_, PySem.W.mg_of X G zk_MOST_LEAST⟩, ⟨pg_Sheet, hd_Sheet, po_Sheet, sa_Sheet⟩, ⟨pg_Stretch, hd_Stretch, po_Stretch, sa_Stretch⟩, ⟨pg_Cursor, hd_Cursor, po_Cursor, sa_Cursor⟩, nf_Sheet_rows, nf_Stretch_cells, nf_Stretch_end, nf_Stretch_begin, nf_Stretch_column, nf_Sheet_lefts, nf_Sheet_past, nf_Sheet_style, nf_Cursor_sheet, nf_Cursor_number, nf_Cursor_place, nf_Cursor_cell, ⟨xe_BadRow, PySem.W.mg_of X G aC_BadRow, xk_BadRow, xs_BadRow, xt_BadRow⟩, ⟨xe_BadCell, PySem.W.mg_of X G aC_BadCell, xk_BadCell, xs_BadCell, xt_BadCell⟩⟩
  refine ⟨PySem.W.fnOf "law" "law" (defArgs s_law) (defBody s_law) (defScope s_law) .none kV46 dc46 pm46 an46 cd46 ct46, fun s v => .of_eq rfl, fun base _ _ => ?_⟩
  have F1 : Fun W.K "_law_begun" "_law_begun" s_law_begun f1 _ := fun_mk (st := s_law_begun) l1 c1 k1
  have c_law_begun := (ok_law_begun (P := l.prog) (w := w) (base := base) F1 (PySem.W.mg_of X G a1) T )
  have F2 : Fun W.K "_law_take" "_law_take" s_law_take f2 _ := fun_mk (st := s_law_take) l2 c2 k2
  have c_law_take := (ok_law_take (P := l.prog) (w := w) (base := base) F2 (PySem.W.mg_of X G a2) T )
  have F3 : Fun W.K "_law_sign" "_law_sign" s_law_sign f3 _ := fun_mk (st := s_law_sign) l3 c3 k3
  have c_law_sign := (ok_law_sign (P := l.prog) (w := w) (base := base) F3 (PySem.W.mg_of X G a3) T c_law_take)
  have F4 : Fun W.K "_law_cell" "_law_cell" s_law_cell f4 _ := fun_mk (st := s_law_cell) l4 c4 k4
  have c_law_cell := (ok_law_cell (P := l.prog) (w := w) (base := base) F4 (PySem.W.mg_of X G a4) T c_law_take c_law_sign)
  have F5 : Fun W.K "_law_row" "_law_row" s_law_row f5 _ := fun_mk (st := s_law_row) l5 c5 k5
  have c_law_row := (ok_law_row (P := l.prog) (w := w) (base := base) F5 (PySem.W.mg_of X G a5) T c_law_cell)
  have F6 : Fun W.K "_law_page" "_law_page" s_law_page f6 _ := fun_mk (st := s_law_page) l6 c6 k6
  have c_law_page := (ok_law_page (P := l.prog) (w := w) (base := base) F6 (PySem.W.mg_of X G a6) T c_law_take c_law_row)
  have F7 : Fun W.K "_law_style" "_law_style" s_law_style f7 _ := fun_mk (st := s_law_style) l7 c7 k7
  have c_law_style := (ok_law_style (P := l.prog) (w := w) (base := base) F7 (PySem.W.mg_of X G a7) T c_law_take)
  have F8 : Fun W.K "is_number" "is_number" s_is_number f8 _ := fun_mk (st := s_is_number) l8 c8 k8
  have c_is_number := (ok_is_number (P := l.prog) (w := w) (base := base) F8 (PySem.W.mg_of X G a8) T )
  have F9 : Fun W.K "need_number" "Sheet.need_number" s_Sheet_need_number f9 _ := fun_mk (st := s_Sheet_need_number) l9 c9 k9
  have c_Sheet_need_number := (ok_Sheet_need_number (P := l.prog) (w := w) (base := base) F9 ⟨a9, i9, k9⟩ T c_is_number)
  have F10 : Fun W.K "need_place" "Sheet.need_place" s_Sheet_need_place f10 _ := fun_mk (st := s_Sheet_need_place) l10 c10 k10
  have c_Sheet_need_place := (ok_Sheet_need_place (P := l.prog) (w := w) (base := base) F10 ⟨a10, i10, k10⟩ T c_Sheet_need_number c_is_number)
  have F11 : Fun W.K "width" "Stretch.width" s_Stretch_width f11 _ := fun_mk (st := s_Stretch_width) l11 c11 k11
  have c_Stretch_width := (ok_Stretch_width (P := l.prog) (w := w) (base := base) F11 ⟨a11, i11, k11⟩ T )
  have F12 : Fun W.K "stops_by" "stops_by" s_stops_by f12 _ := fun_mk (st := s_stops_by) l12 c12 k12
  have c_stops_by := (ok_stops_by (P := l.prog) (w := w) (base := base) F12 (PySem.W.mg_of X G a12) T c_Stretch_width)
  have F13 : Fun W.K "is_figures" "is_figures" s_is_figures f13 _ := fun_mk (st := s_is_figures) l13 c13 k13
  have c_is_figures := (ok_is_figures (P := l.prog) (w := w) (base := base) F13 (PySem.W.mg_of X G a13) T )
  have F14 : Fun W.K "is_right" "Stretch.is_right" s_Stretch_is_right f14 _ := fun_mk (st := s_Stretch_is_right) l14 c14 k14
  have c_Stretch_is_right := (ok_Stretch_is_right (P := l.prog) (w := w) (base := base) F14 ⟨a14, i14, k14⟩ T c_is_figures)
  have F15 : Fun W.K "begins_by" "begins_by" s_begins_by f15 _ := fun_mk (st := s_begins_by) l15 c15 k15
  have c_begins_by := (ok_begins_by (P := l.prog) (w := w) (base := base) F15 (PySem.W.mg_of X G a15) T c_stops_by c_Stretch_is_right c_Stretch_width)
  have F16 : Fun W.K "__init__" "Stretch.__init__" s_Stretch_init f16 _ := fun_mk (st := s_Stretch_init) l16 c16 k16
  have n_Stretch := (ok_Stretch_init (P := l.prog) (w := w) (base := base) F16 ⟨mk_Stretch, a16, i16, kc_Stretch⟩ (PySem.W.mg_of X G aC_Stretch) T )
  have F17 : Fun W.K "stretches_of" "stretches_of" s_stretches_of f17 _ := fun_mk (st := s_stretches_of) l17 c17 k17
  have c_stretches_of := (ok_stretches_of (P := l.prog) (w := w) (base := base) F17 (PySem.W.mg_of X G a17) T n_Stretch)
  have F18 : Fun W.K "all_stretches" "all_stretches" s_all_stretches f18 _ := fun_mk (st := s_all_stretches) l18 c18 k18
  have c_all_stretches := (ok_all_stretches (P := l.prog) (w := w) (base := base) F18 (PySem.W.mg_of X G a18) T c_stretches_of)
  have F19 : Fun W.K "turn_to" "Sheet.turn_to" s_Sheet_turn_to f19 _ := fun_mk (st := s_Sheet_turn_to) l19 c19 k19
  have c_Sheet_turn_to := (ok_Sheet_turn_to (P := l.prog) (w := w) (base := base) F19 ⟨a19, i19, k19⟩ T c_begins_by c_all_stretches)
  have F20 : Fun W.K "part" "Sheet.part" s_Sheet_part f20 _ := fun_mk (st := s_Sheet_part) l20 c20 k20
  have c_Sheet_part := (ok_Sheet_part (P := l.prog) (w := w) (base := base) F20 ⟨a20, i20, k20⟩ T c_Sheet_need_place c_Sheet_turn_to)
  have F21 : Fun W.K "is_sign" "is_sign" s_is_sign f21 _ := fun_mk (st := s_is_sign) l21 c21 k21
  have c_is_sign := (ok_is_sign (P := l.prog) (w := w) (base := base) F21 (PySem.W.mg_of X G a21) T )
  have F22 : Fun W.K "is_cell" "is_cell" s_is_cell f22 _ := fun_mk (st := s_is_cell) l22 c22 k22
  have c_is_cell := (ok_is_cell (P := l.prog) (w := w) (base := base) F22 (PySem.W.mg_of X G a22) T c_is_sign)
  have F23 : Fun W.K "is_row" "is_row" s_is_row f23 _ := fun_mk (st := s_is_row) l23 c23 k23
  have c_is_row := (ok_is_row (P := l.prog) (w := w) (base := base) F23 (PySem.W.mg_of X G a23) T c_is_cell)
  have F24 : Fun W.K "need_row" "need_row" s_need_row f24 _ := fun_mk (st := s_need_row) l24 c24 k24
  have c_need_row := (ok_need_row (P := l.prog) (w := w) (base := base) F24 (PySem.W.mg_of X G a24) T c_is_row)
  have F25 : Fun W.K "change" "Sheet.change" s_Sheet_change f25 _ := fun_mk (st := s_Sheet_change) l25 c25 k25
  have c_Sheet_change := (ok_Sheet_change (P := l.prog) (w := w) (base := base) F25 ⟨a25, i25, k25⟩ T c_Sheet_need_number c_need_row c_Sheet_turn_to)
  have F26 : Fun W.K "strike" "Sheet.strike" s_Sheet_strike f26 _ := fun_mk (st := s_Sheet_strike) l26 c26 k26
  have c_Sheet_strike := (ok_Sheet_strike (P := l.prog) (w := w) (base := base) F26 ⟨a26, i26, k26⟩ T c_Sheet_need_place c_is_sign c_is_cell c_Sheet_change)
  have F27 : Fun W.K "_law_parted" "_law_parted" s_law_parted f27 _ := fun_mk (st := s_law_parted) l27 c27 k27
  have c_law_parted := (ok_law_parted (P := l.prog) (w := w) (base := base) F27 (PySem.W.mg_of X G a27) T c_Sheet_part c_Sheet_strike c_law_take)
  have F28 : Fun W.K "page" "Sheet.page" s_Sheet_page f28 _ := fun_mk (st := s_Sheet_page) l28 c28 k28
  have c_Sheet_page := (ok_Sheet_page (P := l.prog) (w := w) (base := base) F28 ⟨a28, i28, k28⟩ T )
  have F29 : Fun W.K "_law_typed" "_law_typed" s_law_typed f29 _ := fun_mk (st := s_law_typed) l29 c29 k29
  have c_law_typed := (ok_law_typed (P := l.prog) (w := w) (base := base) F29 (PySem.W.mg_of X G a29) T c_law_take c_Sheet_strike)
  have F30 : Fun W.K "begins" "Sheet.begins" s_Sheet_begins f30 _ := fun_mk (st := s_Sheet_begins) l30 c30 k30
  have c_Sheet_begins := (ok_Sheet_begins (P := l.prog) (w := w) (base := base) F30 ⟨a30, i30, k30⟩ T )
  have F31 : Fun W.K "need_page" "need_page" s_need_page f31 _ := fun_mk (st := s_need_page) l31 c31 k31
  have c_need_page := (ok_need_page (P := l.prog) (w := w) (base := base) F31 (PySem.W.mg_of X G a31) T c_is_row)
  have F32 : Fun W.K "need_style" "need_style" s_need_style f32 _ := fun_mk (st := s_need_style) l32 c32 k32
  have c_need_style := (ok_need_style (P := l.prog) (w := w) (base := base) F32 (PySem.W.mg_of X G a32) T c_is_number)
  have F33 : Fun W.K "laid" "laid" s_laid f33 _ := fun_mk (st := s_laid) l33 c33 k33
  have c_laid := (ok_laid (P := l.prog) (w := w) (base := base) F33 (PySem.W.mg_of X G a33) T c_need_page c_need_style c_begins_by c_all_stretches)
  have F34 : Fun W.K "back" "Sheet.back" s_Sheet_back f34 _ := fun_mk (st := s_Sheet_back) l34 c34 k34
  have c_Sheet_back := (ok_Sheet_back (P := l.prog) (w := w) (base := base) F34 ⟨a34, i34, k34⟩ T c_begins_by c_all_stretches)
  have F35 : Fun W.K "mine" "Cursor.mine" s_Cursor_mine f35 _ := fun_mk (st := s_Cursor_mine) l35 c35 k35
  have c_Cursor_mine := (ok_Cursor_mine (P := l.prog) (w := w) (base := base) F35 ⟨a35, i35, k35⟩ T )
  have F36 : Fun W.K "at" "Cursor.at" s_Cursor_at f36 _ := fun_mk (st := s_Cursor_at) l36 c36 k36
  have c_Cursor_at := (ok_Cursor_at (P := l.prog) (w := w) (base := base) F36 ⟨a36, i36, k36⟩ T )
  have F37 : Fun W.K "go" "Cursor.go" s_Cursor_go f37 _ := fun_mk (st := s_Cursor_go) l37 c37 k37
  have c_Cursor_go := (ok_Cursor_go (P := l.prog) (w := w) (base := base) F37 ⟨a37, i37, k37⟩ T c_Cursor_at)
  have F38 : Fun W.K "right" "Cursor.right" s_Cursor_right f38 _ := fun_mk (st := s_Cursor_right) l38 c38 k38
  have c_Cursor_right := (ok_Cursor_right (P := l.prog) (w := w) (base := base) F38 ⟨a38, i38, k38⟩ T c_Cursor_mine c_Cursor_go)
  have F39 : Fun W.K "erase" "Sheet.erase" s_Sheet_erase f39 _ := fun_mk (st := s_Sheet_erase) l39 c39 k39
  have c_Sheet_erase := (ok_Sheet_erase (P := l.prog) (w := w) (base := base) F39 ⟨a39, i39, k39⟩ T c_Sheet_need_place c_is_cell c_Sheet_change)
  have F40 : Fun W.K "unite" "Sheet.unite" s_Sheet_unite f40 _ := fun_mk (st := s_Sheet_unite) l40 c40 k40
  have c_Sheet_unite := (ok_Sheet_unite (P := l.prog) (w := w) (base := base) F40 ⟨a40, i40, k40⟩ T c_Sheet_need_number c_is_cell c_Sheet_turn_to)
  have F41 : Fun W.K "unite" "Cursor.unite" s_Cursor_unite f41 _ := fun_mk (st := s_Cursor_unite) l41 c41 k41
  have c_Cursor_unite := (ok_Cursor_unite (P := l.prog) (w := w) (base := base) F41 ⟨a41, i41, k41⟩ T c_Sheet_unite c_Cursor_go)
  have F42 : Fun W.K "rub" "Cursor.rub" s_Cursor_rub f42 _ := fun_mk (st := s_Cursor_rub) l42 c42 k42
  have c_Cursor_rub := (ok_Cursor_rub (P := l.prog) (w := w) (base := base) F42 ⟨a42, i42, k42⟩ T c_Sheet_erase c_Cursor_mine c_Cursor_go c_Cursor_unite)
  have F43 : Fun W.K "page" "Cursor.page" s_Cursor_page f43 _ := fun_mk (st := s_Cursor_page) l43 c43 k43
  have c_Cursor_page := (ok_Cursor_page (P := l.prog) (w := w) (base := base) F43 ⟨a43, i43, k43⟩ T c_Sheet_page)
  have F44 : Fun W.K "__init__" "Sheet.__init__" s_Sheet_init f44 _ := fun_mk (st := s_Sheet_init) l44 c44 k44
  have n_Sheet := (ok_Sheet_init (P := l.prog) (w := w) (base := base) F44 ⟨mk_Sheet, a44, i44, kc_Sheet⟩ (PySem.W.mg_of X G aC_Sheet) T c_need_page c_need_style c_begins_by c_all_stretches)
  have F45 : Fun W.K "__init__" "Cursor.__init__" s_Cursor_init f45 _ := fun_mk (st := s_Cursor_init) l45 c45 k45
  have n_Cursor := (ok_Cursor_init (P := l.prog) (w := w) (base := base) F45 ⟨mk_Cursor, a45, i45, kc_Cursor⟩ (PySem.W.mg_of X G aC_Cursor) T n_Sheet)
  have F46 : Fun W.K "law" "law" s_law fa _ := fun_mk (st := s_law) l46 c46 k46
  exact law_of (ok_law (P := l.prog) (w := w) (base := base) F46 T c_law_begun c_law_page c_law_style c_law_parted c_Sheet_page c_law_typed c_Sheet_begins c_laid c_Sheet_back c_Cursor_right c_Cursor_rub c_Cursor_page c_Cursor_at n_Sheet n_Cursor) HT rfl
theorem walk {l : PySem.W.OpenLaw} {q : Program} {loose : List Str} {XP : (Str → Option Value) → Heap → Prop} {YP : World → Heap → Prop} {d : DefRec} {K : Params → PySem.W.Frag} (hn : l.most = some 63) (hdf : d.params.defaults = []) (hL : ∀ w : World, noList (K w.params))
    (hY : ∀ (w : World) (h : Heap), YP w h → (K w.params).In h)
    (F : ∀ (w : World) (mg : Str → Option Value) (fa : Addr) (h : Heap), (K w.params).In h → h.Ns mainGlobals mg → mg d.name = some (.ref fa) →
      ∃ fd : FuncData, (∀ (s : Shared) (u : Value), BindsTo s fd ⟨[u], []⟩ [("_law_script", u)]) ∧ ∀ base : Heap, (K w.params).In base → base.Ns mainGlobals mg → FnOk l.prog w (K w.params) mg base (L2.CX l.prog w) 9 fa fd ["_law_script"] (spLaw 63)) :
    PySem.W.WalkO q loose XP YP l.row.toRowW d [] (fun f vs => PySem.call f vs) := law_walk (n := 63) (k := 9) (x := "_law_script") hn (by decide) hdf ⟨rfl, by decide, by decide⟩ hL hY F
end W13
open PySem PySem.W PyProof.Rows in
set_option maxRecDepth 100000 in
set_option maxHeartbeats 0 in
theorem PySem.Challenge.cw_tabgrow_k13_whole_in_whatever_order_it_i_holds : PySem.Challenge.rw_tabgrow_k13_whole_in_whatever_order_it_i.Holds := by
  w_on; o_law; k_head; (case hw => w_witness2)
  k_fill
  refine W13.walk (l := PySem.Challenge.rw_tabgrow_k13_whole_in_whatever_order_it_i) rfl rfl ?L (fun w h Y => PySem.W.kIn_of Y) ?F
  case L => exact fun w => Dl.noList_of rfl
  case F =>
    intro w mg fa h KX G hmg
    refine' W13.all_mk Dl.law_k13_true KX G hmg ?zb_len ?zb_int ?zb_list ?zb_str ?zb_range ?zb_tuple ?zb_min ?zb_max ?zb_isinstance ?zb_bool ?zb_enumerate ?zb_ord ?zb_sum ?zk_FIGURES ?zk_MOST_CELLS ?zk_MOST_ROWS ?zk_FIRST_SIGN ?zk_LAST_SIGN ?zk_BARRED ?zk_MOST_SIGNS ?zk_TAB ?zk_MOST_GAP ?zk_MOST_LEAST ?aC_Sheet ?pg_Sheet ?hd_Sheet ?po_Sheet ?sa_Sheet ?mk_Sheet ?kc_Sheet ?aC_Stretch ?pg_Stretch ?hd_Stretch ?po_Stretch ?sa_Stretch ?mk_Stretch ?kc_Stretch ?aC_Cursor ?pg_Cursor ?hd_Cursor ?po_Cursor ?sa_Cursor ?mk_Cursor ?kc_Cursor ?aC_BadRow ?aC_BadCell ?xe_BadRow ?xk_BadRow ?xs_BadRow ?xt_BadRow ?xe_BadCell ?xk_BadCell ?xs_BadCell ?xt_BadCell ?nf_Sheet_rows ?nf_Stretch_cells ?nf_Stretch_end ?nf_Stretch_begin ?nf_Stretch_column ?nf_Sheet_lefts ?nf_Sheet_past ?nf_Sheet_style ?nf_Cursor_sheet ?nf_Cursor_number ?nf_Cursor_place ?nf_Cursor_cell ?a1 ?l1 ?c1 ?k1 ?a2 ?l2 ?c2 ?k2 ?a3 ?l3 ?c3 ?k3 ?a4 ?l4 ?c4 ?k4 ?a5 ?l5 ?c5 ?k5 ?a6 ?l6 ?c6 ?k6 ?a7 ?l7 ?c7 ?k7 ?a8 ?l8 ?c8 ?k8 ?a9 ?i9 ?l9 ?c9 ?k9 ?a10 ?i10 ?l10 ?c10 ?k10 ?a11 ?i11 ?l11 ?c11 ?k11 ?a12 ?l12 ?c12 ?k12 ?a13 ?l13 ?c13 ?k13 ?a14 ?i14 ?l14 ?c14 ?k14 ?a15 ?l15 ?c15 ?k15 ?a16 ?i16 ?l16 ?c16 ?k16 ?a17 ?l17 ?c17 ?k17 ?a18 ?l18 ?c18 ?k18 ?a19 ?i19 ?l19 ?c19 ?k19 ?a20 ?i20 ?l20 ?c20 ?k20 ?a21 ?l21 ?c21 ?k21 ?a22 ?l22 ?c22 ?k22 ?a23 ?l23 ?c23 ?k23 ?a24 ?l24 ?c24 ?k24 ?a25 ?i25 ?l25 ?c25 ?k25 ?a26 ?i26 ?l26 ?c26 ?k26 ?a27 ?l27 ?c27 ?k27 ?a28 ?i28 ?l28 ?c28 ?k28 ?a29 ?l29 ?c29 ?k29 ?a30 ?i30 ?l30 ?c30 ?k30 ?a31 ?l31 ?c31 ?k31 ?a32 ?l32 ?c32 ?k32 ?a33 ?l33 ?c33 ?k33 ?a34 ?i34 ?l34 ?c34 ?k34 ?a35 ?i35 ?l35 ?c35 ?k35 ?a36 ?i36 ?l36 ?c36 ?k36 ?a37 ?i37 ?l37 ?c37 ?k37 ?a38 ?i38 ?l38 ?c38 ?k38 ?a39 ?i39 ?l39 ?c39 ?k39 ?a40 ?i40 ?l40 ?c40 ?k40 ?a41 ?i41 ?l41 ?c41 ?k41 ?a42 ?i42 ?l42 ?c42 ?k42 ?a43 ?i43 ?l43 ?c43 ?k43 ?a44 ?i44 ?l44 ?c44 ?k44 ?a45 ?i45 ?l45 ?c45 ?k45 ?a46 ?l46 ?c46 ?k46
    (case zb_len => k_is)
    (case zb_int => k_is)
    (case zb_list => k_is)
    (case zb_str => k_is)
    (case zb_range => k_is)
    (case zb_tuple => k_is)
    (case zb_min => k_is)
    (case zb_max => k_is)
    (case zb_isinstance => k_is)
    (case zb_bool => k_is)
    (case zb_enumerate => k_is)
    (case zb_ord => k_is)
    (case zb_sum => k_is)
    (case zk_FIGURES => k_is)
    (case zk_MOST_CELLS => k_is)
    (case zk_MOST_ROWS => k_is)
    (case zk_FIRST_SIGN => k_is)
    (case zk_LAST_SIGN => k_is)
    (case zk_BARRED => k_is)
    (case zk_MOST_SIGNS => k_is)
    (case zk_TAB => k_is)
    (case zk_MOST_GAP => k_is)
    (case zk_MOST_LEAST => k_is)
    (case aC_Sheet => k_is)
    (case pg_Sheet => k_is)
    (case hd_Sheet => k_is)
    (case po_Sheet => k_is)
    (case sa_Sheet => k_is)
    (case mk_Sheet => k_is)
    (case kc_Sheet => k_is)
    (case aC_Stretch => k_is)
    (case pg_Stretch => k_is)
    (case hd_Stretch => k_is)
    (case po_Stretch => k_is)
    (case sa_Stretch => k_is)
    (case mk_Stretch => k_is)
    (case kc_Stretch => k_is)
    (case aC_Cursor => k_is)
    (case pg_Cursor => k_is)
    (case hd_Cursor => k_is)
    (case po_Cursor => k_is)
    (case sa_Cursor => k_is)
    (case mk_Cursor => k_is)
    (case kc_Cursor => k_is)
    (case aC_BadRow => k_is)
    (case aC_BadCell => k_is)
    (case xe_BadRow => k_exc)
    (case xk_BadRow => k_is)
    (case xs_BadRow => k_is)
    (case xt_BadRow => k_is)
    (case xe_BadCell => k_exc)
    (case xk_BadCell => k_is)
    (case xs_BadCell => k_is)
    (case xt_BadCell => k_is)
    (case nf_Sheet_rows => k_is)
    (case nf_Stretch_cells => k_is)
    (case nf_Stretch_end => k_is)
    (case nf_Stretch_begin => k_is)
    (case nf_Stretch_column => k_is)
    (case nf_Sheet_lefts => k_is)
    (case nf_Sheet_past => k_is)
    (case nf_Sheet_style => k_is)
    (case nf_Cursor_sheet => k_is)
    (case nf_Cursor_number => k_is)
    (case nf_Cursor_place => k_is)
    (case nf_Cursor_cell => k_is)
    (case a1 => k_is)
    (case l1 => k_is)
    (case c1 => k_is)
    (case k1 => k_is)
    (case a2 => k_is)
    (case l2 => k_is)
    (case c2 => k_is)
    (case k2 => k_is)
    (case a3 => k_is)
    (case l3 => k_is)
    (case c3 => k_is)
    (case k3 => k_is)
    (case a4 => k_is)
    (case l4 => k_is)
    (case c4 => k_is)
    (case k4 => k_is)
    (case a5 => k_is)
    (case l5 => k_is)
    (case c5 => k_is)
    (case k5 => k_is)
    (case a6 => k_is)
    (case l6 => k_is)
    (case c6 => k_is)
    (case k6 => k_is)
    (case a7 => k_is)
    (case l7 => k_is)
    (case c7 => k_is)
    (case k7 => k_is)
    (case a8 => k_is)
    (case l8 => k_is)
    (case c8 => k_is)
    (case k8 => k_is)
    (case a9 => k_is)
    (case i9 => k_is)
    (case l9 => k_is)
    (case c9 => k_is)
    (case k9 => k_is)
    (case a10 => k_is)
    (case i10 => k_is)
    (case l10 => k_is)
    (case c10 => k_is)
    (case k10 => k_is)
    (case a11 => k_is)
    (case i11 => k_is)
    (case l11 => k_is)
    (case c11 => k_is)
    (case k11 => k_is)
    (case a12 => k_is)
    (case l12 => k_is)
    (case c12 => k_is)
    (case k12 => k_is)
    (case a13 => k_is)
    (case l13 => k_is)
    (case c13 => k_is)
    (case k13 => k_is)
    (case a14 => k_is)
    (case i14 => k_is)
    (case l14 => k_is)
    (case c14 => k_is)
    (case k14 => k_is)
    (case a15 => k_is)
    (case l15 => k_is)
    (case c15 => k_is)
    (case k15 => k_is)
    (case a16 => k_is)
    (case i16 => k_is)
    (case l16 => k_is)
    (case c16 => k_is)
    (case k16 => k_is)
    (case a17 => k_is)
    (case l17 => k_is)
    (case c17 => k_is)
    (case k17 => k_is)
    (case a18 => k_is)
    (case l18 => k_is)
    (case c18 => k_is)
    (case k18 => k_is)
    (case a19 => k_is)
    (case i19 => k_is)
    (case l19 => k_is)
    (case c19 => k_is)
    (case k19 => k_is)
    (case a20 => k_is)
    (case i20 => k_is)
    (case l20 => k_is)
    (case c20 => k_is)
    (case k20 => k_is)
    (case a21 => k_is)
    (case l21 => k_is)
    (case c21 => k_is)
    (case k21 => k_is)
    (case a22 => k_is)
    (case l22 => k_is)
    (case c22 => k_is)
    (case k22 => k_is)
    (case a23 => k_is)
    (case l23 => k_is)
    (case c23 => k_is)
    (case k23 => k_is)
    (case a24 => k_is)
    (case l24 => k_is)
    (case c24 => k_is)
    (case k24 => k_is)
    (case a25 => k_is)
    (case i25 => k_is)
    (case l25 => k_is)
    (case c25 => k_is)
    (case k25 => k_is)
    (case a26 => k_is)
    (case i26 => k_is)
    (case l26 => k_is)
    (case c26 => k_is)
    (case k26 => k_is)
    (case a27 => k_is)
    (case l27 => k_is)
    (case c27 => k_is)
    (case k27 => k_is)
    (case a28 => k_is)
    (case i28 => k_is)
    (case l28 => k_is)
    (case c28 => k_is)
    (case k28 => k_is)
    (case a29 => k_is)
    (case l29 => k_is)
    (case c29 => k_is)
    (case k29 => k_is)
    (case a30 => k_is)
    (case i30 => k_is)
    (case l30 => k_is)
    (case c30 => k_is)
    (case k30 => k_is)
    (case a31 => k_is)
    (case l31 => k_is)
    (case c31 => k_is)
    (case k31 => k_is)
    (case a32 => k_is)
    (case l32 => k_is)
    (case c32 => k_is)
    (case k32 => k_is)
    (case a33 => k_is)
    (case l33 => k_is)
    (case c33 => k_is)
    (case k33 => k_is)
    (case a34 => k_is)
    (case i34 => k_is)
    (case l34 => k_is)
    (case c34 => k_is)
    (case k34 => k_is)
    (case a35 => k_is)
    (case i35 => k_is)
    (case l35 => k_is)
    (case c35 => k_is)
    (case k35 => k_is)
    (case a36 => k_is)
    (case i36 => k_is)
    (case l36 => k_is)
    (case c36 => k_is)
    (case k36 => k_is)
    (case a37 => k_is)
    (case i37 => k_is)
    (case l37 => k_is)
    (case c37 => k_is)
    (case k37 => k_is)
    (case a38 => k_is)
    (case i38 => k_is)
    (case l38 => k_is)
    (case c38 => k_is)
    (case k38 => k_is)
    (case a39 => k_is)
    (case i39 => k_is)
    (case l39 => k_is)
    (case c39 => k_is)
    (case k39 => k_is)
    (case a40 => k_is)
    (case i40 => k_is)
    (case l40 => k_is)
    (case c40 => k_is)
    (case k40 => k_is)
    (case a41 => k_is)
    (case i41 => k_is)
    (case l41 => k_is)
    (case c41 => k_is)
    (case k41 => k_is)
    (case a42 => k_is)
    (case i42 => k_is)
    (case l42 => k_is)
    (case c42 => k_is)
    (case k42 => k_is)
    (case a43 => k_is)
    (case i43 => k_is)
    (case l43 => k_is)
    (case c43 => k_is)
    (case k43 => k_is)
    (case a44 => k_is)
    (case i44 => k_is)
    (case l44 => k_is)
    (case c44 => k_is)
    (case k44 => k_is)
    (case a45 => k_is)
    (case i45 => k_is)
    (case l45 => k_is)
    (case c45 => k_is)
    (case k45 => k_is)
    (case a46 => k_is)
    (case l46 => k_is)
    (case c46 => k_is)
    (case k46 => k_is)
#print axioms PySem.Challenge.cw_tabgrow_k13_whole_in_whatever_order_it_i_holds
