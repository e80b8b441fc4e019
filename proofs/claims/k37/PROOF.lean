import PyProof.Rows.All
import Wide.All
import OpenK.AllK
import Wide.FinOn
import HandS.ForMost
import HandS.ForExc
import HandS.Lambda
import HandS.TupAny
import HandS.TupMul
import HandS.Style
import HandS.Wide
import HandS.IsInst
import HandS.Zip
import KE.GoesEnum
import KE.GoesMore
import HandS.ExcOwn
import HandS.ExcIs
import HandS.TryOnly
import HandS.Conv
import KE.KDflt
import HandS.ExcInit
import OpenK.KCls
import HandS.ExcField
import HandS.TryMany
import HandS.ListEq
import HandS.EndOwn
import KE.KNestM
import HandS.Deep
import HandS.StrMore
import PyProof.Rows.StrCut
import HandS.ReplaceList
import PySem.Challenge.RW_tabgrow_k37_whole_one_sign_many_rubs
set_option Elab.async false
set_option linter.all false
set_option maxRecDepth 100000
namespace Dl
open PySem L2
/-- data: plain values, frozen tuples and lists, and references into the store -/
inductive D where
  | non | bl (b : Bool) | int (i : Int) | str (s : List Nat) | tup (ds : List D) | lst (ds : List D) | ref (n : Nat) | scr (ns : List Int)
  /-- an exception as an except suite holds it: where it stands, its dict, its field, its number -/
  | exn (a : Nat) (o : Option (Nat × Str × Int))
  deriving Inhabited
mutual
def D.beq : D → D → Bool
  | .non, .non => true
  | .bl a, .bl b => a == b
  | .int a, .int b => a == b
  | .str a, .str b => a == b
  | .tup a, .tup b => D.beqs a b
  | .lst a, .lst b => D.beqs a b
  | .ref a, .ref b => a == b
  | .scr a, .scr b => a == b
  | .exn a o, .exn b u => decide (a = b ∧ o = u)
  | _, _ => false
def D.beqs : List D → List D → Bool
  | [], [] => true
  | x :: xs, y :: ys => D.beq x y && D.beqs xs ys
  | _, _ => false
end
mutual
theorem D.beq_refl : ∀ d : D, D.beq d d = true
  | .non => rfl
  | .bl a => by simp [D.beq]
  | .int a => by simp [D.beq]
  | .str a => by simp [D.beq]
  | .tup a => by unfold D.beq; exact D.beqs_refl a
  | .lst a => by unfold D.beq; exact D.beqs_refl a
  | .ref a => by simp [D.beq]
  | .scr a => by simp [D.beq]
  | .exn a o => by simp [D.beq]
theorem D.beqs_refl : ∀ ds : List D, D.beqs ds ds = true
  | [] => rfl
  | x :: xs => by unfold D.beqs; rw [D.beq_refl x, D.beqs_refl xs]; rfl
end
mutual
theorem D.eq_of_beq : ∀ (d e : D), D.beq d e = true → d = e
  | .non, e, h => by cases e <;> simp_all [D.beq]
  | .bl a, e, h => by cases e <;> simp_all [D.beq]
  | .int a, e, h => by cases e <;> simp_all [D.beq]
  | .str a, e, h => by cases e <;> simp_all [D.beq]
  | .ref a, e, h => by cases e <;> simp_all [D.beq]
  | .scr a, e, h => by cases e <;> simp_all [D.beq]
  | .exn a o, e, h => by cases e <;> simp_all [D.beq]
  | .tup a, e, h => by
    cases e with
    | tup b => unfold D.beq at h; rw [D.eqs_of_beqs a b h]
    | _ => simp [D.beq] at h
  | .lst a, e, h => by
    cases e with
    | lst b => unfold D.beq at h; rw [D.eqs_of_beqs a b h]
    | _ => simp [D.beq] at h
theorem D.eqs_of_beqs : ∀ (ds es : List D), D.beqs ds es = true → ds = es
  | [], es, h => by cases es <;> simp_all [D.beqs]
  | x :: xs, es, h => by
    cases es with
    | nil => simp [D.beqs] at h
    | cons y ys =>
      unfold D.beqs at h
      rw [Bool.and_eq_true] at h
      rw [D.eq_of_beq x y h.1, D.eqs_of_beqs xs ys h.2]
end
/-- what stands in the store -/
inductive Ob where
  | lst (ds : List D)
  | ins (C : Nat) (fs : List (Str × D))
  | dK (kvs : List (Key × D))
  | dT (kvs : List (List Key × D))
  | dead
abbrev Store := List Ob
abbrev Env := List (Option D)
/-- the longest text, list -/
def LIM : Nat := 1000000
/-- how an end came: a value, an exception (its class, what it bears), or no word is said -/
inductive R (A : Type) where
  | ok (a : A)
  | exc (c : Nat) (p : Option D) (st : Store)
  | bad
def R.bind {A B : Type} (r : R A) (f : A → R B) : R B := match r with
  | .ok a => f a
  | .exc c p st => .exc c p st
  | .bad => .bad
@[simp] theorem R.bind_ok {A B : Type} (a : A) (f : A → R B) : (R.ok a).bind f = f a := rfl
@[simp] theorem R.bind_exc {A B : Type} (c : Nat) (p : Option D) (st : Store) (f : A → R B) : (R.exc c p st).bind f = .exc c p st := rfl
@[simp] theorem R.bind_bad {A B : Type} (f : A → R B) : (R.bad).bind f = R.bad := rfl
/-- a value that may lack -/
def R.of {A : Type} : Option A → R A
  | some a => .ok a
  | none => .bad
@[simp] theorem R.of_some {A : Type} (a : A) : R.of (some a) = .ok a := rfl
@[simp] theorem R.of_none {A : Type} : R.of (none : Option A) = .bad := rfl
/-- the world: the written part, the classes by number, the one field of an exception's class -/
structure Wd where
  K : PySem.W.Frag
  cls : Nat → Addr
  pay : Nat → Option Str
  /-- the tables of the defs that make lambdas, the lambdas' names -/
  tabs : List (Addr × Str)
/-- the script's list -/
def ScrAt (F : Hp) (a : Addr) (ns : List Int) : Prop := (∃ o, F a = some (.frz o (.lst (ns.map V.int)))) ∨ F a = some (.lst (ns.map V.int))
theorem ScrAt.mono {F F' : Hp} {a : Addr} {ns : List Int} (s : Same F F') : ScrAt F a ns → ScrAt F' a ns
  | .inl ⟨o, h⟩ => .inl ⟨o, s _ _ h⟩
  | .inr h => .inr (s _ _ h)
theorem ScrAt.sq {F H : Hp} {a : Addr} {ns : List Int} {K : PySem.W.Frag} (s : Same F H) : ScrAt F a ns → SqL K H a (ns.map V.int)
  | .inl ⟨o, h⟩ => .inl (.inr ⟨o, s _ _ h⟩)
  | .inr h => .of (s _ _ h)
mutual
inductive Rep (F : Hp) (rho : List Addr) : V → D → Prop
  | non : Rep F rho .non .non
  | bl (b : Bool) : Rep F rho (.bl b) (.bl b)
  | int (i : Int) : Rep F rho (.int i) (.int i)
  | str (s : List Nat) : s.all (fun c => decide (c < 128)) = true → s.length ≤ LIM → Rep F rho (.str ⟨s.toArray⟩) (.str s)
  | tup {a : Addr} {vs : List V} {ds : List D} : F a = some (.tup vs) → Reps F rho vs ds → Rep F rho (.ref a) (.tup ds)
  | lst {a : Addr} {vs : List V} {ds : List D} : F a = some (.lst vs) → Reps F rho vs ds → Rep F rho (.ref a) (.lst ds)
  | ref {a : Addr} {n : Nat} : rho[n]? = some a → Rep F rho (.ref a) (.ref n)
  | scr {a : Addr} {ns : List Int} : ScrAt F a ns → Rep F rho (.ref a) (.scr ns)
  | exn0 (a : Addr) : Rep F rho (.ref a) (.exn a none)
  | exn1 {a dd : Addr} {f : Str} {i : Int} : F dd = some (.xd [(f, .int i)]) → Rep F rho (.ref a) (.exn a (some (dd, f, i)))
inductive Reps (F : Hp) (rho : List Addr) : List V → List D → Prop
  | nil : Reps F rho [] []
  | cons {v : V} {vs : List V} {d : D} {ds : List D} : Rep F rho v d → Reps F rho vs ds → Reps F rho (v :: vs) (d :: ds)
end
def Ext (r r' : List Addr) : Prop := ∀ (i : Nat) (a : Addr), r[i]? = some a → r'[i]? = some a
theorem Ext.refl (r : List Addr) : Ext r r := fun _ _ h => h
theorem Ext.trans {a b c : List Addr} (h : Ext a b) (k : Ext b c) : Ext a c := fun i x e => k i x (h i x e)
theorem Ext.snoc (r : List Addr) (a : Addr) : Ext r (r ++ [a]) := fun i x e => by
  have h := (List.getElem?_eq_some_iff.mp e).1
  rw [List.getElem?_append_left h]; exact e
section
variable {F F' : Hp} {r r' : List Addr}
mutual
theorem Rep.mono (s : Same F F') (x : Ext r r') : ∀ {d : D} {v : V}, Rep F r v d → Rep F' r' v d
  | _, _, .non => .non
  | _, _, .bl b => .bl b
  | _, _, .int i => .int i
  | _, _, .str t h1 h2 => .str t h1 h2
  | _, _, .tup h k => .tup (s _ _ h) (Reps.mono s x k)
  | _, _, .lst h k => .lst (s _ _ h) (Reps.mono s x k)
  | _, _, .ref h => .ref (x _ _ h)
  | _, _, .scr h => .scr (h.mono s)
  | _, _, .exn0 a => .exn0 a
  | _, _, .exn1 h => .exn1 (s _ _ h)
theorem Reps.mono (s : Same F F') (x : Ext r r') : ∀ {ds : List D} {vs : List V}, Reps F r vs ds → Reps F' r' vs ds
  | _, _, .nil => .nil
  | _, _, .cons h k => .cons (Rep.mono s x h) (Reps.mono s x k)
end
end
section
variable {F : Hp} {r : List Addr}
theorem Reps.length : ∀ {vs : List V} {ds : List D}, Reps F r vs ds → vs.length = ds.length
  | _, _, .nil => rfl
  | _, _, .cons _ k => by simp [Reps.length k]
theorem Reps.get : ∀ {vs : List V} {ds : List D} {i : Nat} {d : D}, Reps F r vs ds → ds[i]? = some d → ∃ v, vs[i]? = some v ∧ Rep F r v d
  | _, _, _, _, .nil, e => by simp at e
  | _, _, 0, _, .cons h _, e => by simp at e; subst e; exact ⟨_, rfl, h⟩
  | _, _, i + 1, d, .cons _ k, e => by
    obtain ⟨v, h1, h2⟩ := Reps.get (i := i) k (by simpa using e)
    exact ⟨v, by simpa using h1, h2⟩
theorem Reps.append : ∀ {vs ws : List V} {ds es : List D}, Reps F r vs ds → Reps F r ws es → Reps F r (vs ++ ws) (ds ++ es)
  | _, _, _, _, .nil, k => k
  | _, _, _, _, .cons h t, k => .cons h (Reps.append t k)
theorem Reps.take : ∀ {vs : List V} {ds : List D} (n : Nat), Reps F r vs ds → Reps F r (vs.take n) (ds.take n)
  | _, _, 0, _ => .nil
  | _, _, _ + 1, .nil => .nil
  | _, _, n + 1, .cons h t => .cons h (Reps.take n t)
theorem Reps.drop : ∀ {vs : List V} {ds : List D} (n : Nat), Reps F r vs ds → Reps F r (vs.drop n) (ds.drop n)
  | _, _, 0, h => h
  | _, _, _ + 1, .nil => .nil
  | _, _, n + 1, .cons _ t => Reps.drop n t
theorem Reps.set {v : V} {d : D} (h : Rep F r v d) : ∀ {vs : List V} {ds : List D} (i : Nat), Reps F r vs ds → Reps F r (vs.set i v) (ds.set i d)
  | _, _, _, .nil => .nil
  | _, _, 0, .cons _ t => .cons h t
  | _, _, i + 1, .cons q t => .cons q (Reps.set h i t)
theorem Reps.eraseIdx : ∀ {vs : List V} {ds : List D} (i : Nat), Reps F r vs ds → Reps F r (vs.eraseIdx i) (ds.eraseIdx i)
  | _, _, _, .nil => .nil
  | _, _, 0, .cons _ t => t
  | _, _, i + 1, .cons q t => .cons q (Reps.eraseIdx i t)
theorem Reps.flat {vs : List V} {ds : List D} (h : Reps F r vs ds) : ∀ k : Nat, Reps F r (List.replicate k vs).flatten (List.replicate k ds).flatten
  | 0 => .nil
  | k + 1 => by rw [List.replicate_succ, List.replicate_succ, List.flatten_cons, List.flatten_cons]; exact Reps.append h (Reps.flat h k)
theorem Reps.snoc {vs : List V} {ds : List D} {v : V} {d : D} (h : Reps F r vs ds) (k : Rep F r v d) : Reps F r (vs ++ [v]) (ds ++ [d]) := Reps.append h (.cons k .nil)
end
/-- the fields of an instance -/
def Flds (F : Hp) (r : List Addr) : List (Str × V) → List (Str × D) → Prop
  | [], [] => True
  | (f, v) :: vs, (g, d) :: ds => f = g ∧ Rep F r v d ∧ Flds F r vs ds
  | _, _ => False
theorem Flds.mono {F F' : Hp} {r r' : List Addr} (s : Same F F') (x : Ext r r') : ∀ {vs : List (Str × V)} {ds : List (Str × D)}, Flds F r vs ds → Flds F' r' vs ds
  | [], [], _ => trivial
  | (f, v) :: vs, (g, d) :: ds, ⟨e, h, k⟩ => ⟨e, h.mono s x, Flds.mono s x k⟩
  | [], _ :: _, h => h.elim
  | _ :: _, [], h => h.elim
theorem Flds.look {F : Hp} {r : List Addr} {f : Str} : ∀ {vs : List (Str × V)} {ds : List (Str × D)} {d : D}, Flds F r vs ds → ds.lookup f = some d → ∃ v, vs.lookup f = some v ∧ Rep F r v d
  | [], [], _, _, e => by simp at e
  | (g, v) :: vs, (g', d') :: ds, d, ⟨e, h, k⟩, q => by
    subst e
    rw [List.lookup_cons] at q ⊢
    cases hb : f == g with
    | true => rw [hb] at q; cases q; exact ⟨v, rfl, h⟩
    | false => rw [hb] at q; exact Flds.look k q
  | [], _ :: _, _, h, _ => h.elim
  | _ :: _, [], _, h, _ => h.elim
theorem Flds.lookN {F : Hp} {r : List Addr} {f : Str} : ∀ {vs : List (Str × V)} {ds : List (Str × D)}, Flds F r vs ds → ds.lookup f = none → vs.lookup f = none
  | [], [], _, _ => rfl
  | (g, v) :: vs, (g', d') :: ds, ⟨e, h, k⟩, q => by
    subst e
    rw [List.lookup_cons] at q ⊢
    cases hb : f == g with
    | true => rw [hb] at q; cases q
    | false => rw [hb] at q; exact Flds.lookN k q
  | [], _ :: _, h, _ => h.elim
  | _ :: _, [], h, _ => h.elim
def putD (f : Str) (v : D) : List (Str × D) → List (Str × D)
  | [] => [(f, v)]
  | (g, u) :: r => if g = f then (g, v) :: r else (g, u) :: putD f v r
theorem Flds.put {F : Hp} {r : List Addr} {f : Str} {v : V} {d : D} (h : Rep F r v d) : ∀ {vs : List (Str × V)} {ds : List (Str × D)}, Flds F r vs ds → Flds F r (putF f v vs) (putD f d ds)
  | [], [], _ => ⟨rfl, h, trivial⟩
  | (g, v') :: vs, (g', d') :: ds, ⟨e, q, k⟩ => by
    subst e
    unfold putF putD
    split
    · exact ⟨rfl, h, k⟩
    · exact ⟨rfl, q, Flds.put h k⟩
  | [], _ :: _, h => h.elim
  | _ :: _, [], h => h.elim
theorem Flds.length {F : Hp} {r : List Addr} : ∀ {vs : List (Str × V)} {ds : List (Str × D)}, Flds F r vs ds → vs.length = ds.length
  | [], [], _ => rfl
  | (g, v) :: vs, (g', d) :: ds, ⟨_, _, k⟩ => by simp [Flds.length k]
  | [], _ :: _, h => h.elim
  | _ :: _, [], h => h.elim
def KVr {k : Type} (F : Hp) (r : List Addr) : List (k × V) → List (k × D) → Prop
  | [], [] => True
  | (f, v) :: vs, (g, d) :: ds => f = g ∧ Rep F r v d ∧ KVr F r vs ds
  | _, _ => False
theorem KVr.mono {k : Type} {F F' : Hp} {r r' : List Addr} (s : Same F F') (x : Ext r r') : ∀ {vs : List (k × V)} {ds : List (k × D)}, KVr F r vs ds → KVr F' r' vs ds
  | [], [], _ => trivial
  | (f, v) :: vs, (g, d) :: ds, ⟨e, h, k⟩ => ⟨e, h.mono s x, KVr.mono s x k⟩
  | [], _ :: _, h => h.elim
  | _ :: _, [], h => h.elim
/-- the object at a is the store's o -/
def ObOk (W : Wd) (F : Hp) (r : List Addr) (H : Hp) (a : Addr) : Ob → Prop
  | .lst ds => ∃ vs, H a = some (.lst vs) ∧ Reps F r vs ds
  | .ins C fs => ∃ dx vfs, H a = some (.ins (W.cls C) dx vfs) ∧ Flds F r vfs fs
  | .dK kvs => ∃ vs, H a = some (.dK vs) ∧ KVr F r vs kvs
  | .dT kvs => ∃ vs, H a = some (.dT vs) ∧ KVr F r vs kvs
  | .dead => ∃ o, H a = some o ∧ (∀ ps, o ≠ .tbl ps) ∧ ∀ φ, o ≠ .ext φ
theorem ObOk.mono {W : Wd} {F F' H H' : Hp} {r r' : List Addr} {a : Addr} (s : Same F F') (x : Ext r r') (h : H' a = H a) : ∀ {o : Ob}, ObOk W F r H a o → ObOk W F' r' H' a o
  | .lst _, ⟨vs, e, k⟩ => ⟨vs, h.trans e, k.mono s x⟩
  | .ins _ _, ⟨dx, vs, e, k⟩ => ⟨dx, vs, h.trans e, k.mono s x⟩
  | .dK _, ⟨vs, e, k⟩ => ⟨vs, h.trans e, k.mono s x⟩
  | .dT _, ⟨vs, e, k⟩ => ⟨vs, h.trans e, k.mono s x⟩
  | .dead, ⟨o, e, k⟩ => ⟨o, h.trans e, k⟩
theorem ObOk.ne {W : Wd} {F H : Hp} {r : List Addr} {a : Addr} : ∀ {o : Ob}, ObOk W F r H a o → H a ≠ none
  | .lst _, ⟨vs, e, k⟩ => by rw [e]; simp
  | .ins _ _, ⟨dx, vs, e, k⟩ => by rw [e]; simp
  | .dK _, ⟨vs, e, k⟩ => by rw [e]; simp
  | .dT _, ⟨vs, e, k⟩ => by rw [e]; simp
  | .dead, ⟨o, e, k⟩ => by rw [e]; simp
theorem ObOk.kind {W : Wd} {F H : Hp} {r : List Addr} {a : Addr} : ∀ {o : Ob}, ObOk W F r H a o → ∃ u, H a = some u ∧ (∀ ps, u ≠ .tbl ps) ∧ ∀ φ, u ≠ .ext φ
  | .lst _, ⟨vs, e, k⟩ => ⟨_, e, (fun _ z => by cases z), fun _ z => by cases z⟩
  | .ins _ _, ⟨dx, vs, e, k⟩ => ⟨_, e, (fun _ z => by cases z), fun _ z => by cases z⟩
  | .dK _, ⟨vs, e, k⟩ => ⟨_, e, (fun _ z => by cases z), fun _ z => by cases z⟩
  | .dT _, ⟨vs, e, k⟩ => ⟨_, e, (fun _ z => by cases z), fun _ z => by cases z⟩
  | .dead, h => h
/-- the tables are whole, and none of the rest -/
structure TabsOk (T : List (Addr × Str)) (F Rs H : Hp) (r : List Addr) : Prop where
  at_ : ∀ p ∈ T, LamX.TabS H p.1 p.2 ∧ F p.1 = none ∧ Rs p.1 = none ∧ p.1 ∉ r
  nF : ∀ a ps, F a ≠ some (.tbl ps)
  nR : ∀ a ps, Rs a ≠ some (.tbl ps)
theorem tabs_keep {H H' : Hp} {P : Addr} {q : Str} (t : LamX.TabS H P q) (k : ∀ a o, H a = some o → ((∃ ps, o = .tbl ps) ∨ ∃ φ, o = .ext φ) → H' a = some o) : LamX.TabS H' P q := by
  obtain ⟨ps, h1, h2, h3⟩ := t
  refine ⟨ps, k _ _ h1 (.inl ⟨ps, rfl⟩), h2, fun pos cv hc => ?_⟩
  obtain ⟨c, e1, e2⟩ := h3 pos cv hc
  exact ⟨c, e1, k _ _ e2 (.inr ⟨_, rfl⟩)⟩
theorem tabs_here {H : Hp} {P : Addr} {q : Str} (t : LamX.TabS H P q) : H P ≠ none := by
  obtain ⟨ps, h1, _⟩ := t
  rw [h1]; simp
/-- the heap H is the frozen part F, the store's objects at r, a part Rs that is none of ours, and waste -/
structure Holds (W : Wd) (Rs F H : Hp) (r : List Addr) (st : Store) : Prop where
  sF : Same F H
  sR : Same Rs H
  dj : ∀ a, F a ≠ none → Rs a = none
  len : r.length = st.length
  nd : r.Nodup
  own : ∀ a ∈ r, F a = none ∧ Rs a = none
  ob : ∀ (i : Nat) (a : Addr) (o : Ob), r[i]? = some a → st[i]? = some o → ObOk W F r H a o
  tb : TabsOk W.tabs F Rs H r
section
variable {W : Wd} {Rs F H : Hp} {r : List Addr} {st : Store}
theorem Same.none_of {F H : Hp} (s : Same F H) {a : Addr} (h : H a = none) : F a = none := s.free h
theorem Holds.freeF (h : Holds W Rs F H r st) {p : Addr} (e : H p = none) : F p = none := h.sF.free e
theorem Holds.freeR (h : Holds W Rs F H r st) {p : Addr} (e : H p = none) : Rs p = none := h.sR.free e
theorem Holds.there (h : Holds W Rs F H r st) {a : Addr} (e : a ∈ r) : H a ≠ none := by
  obtain ⟨i, hi, rfl⟩ := List.mem_iff_getElem.mp e
  have hs : i < st.length := by rw [← h.len]; exact hi
  exact (h.ob i r[i] st[i] (by simp [hi]) (by simp [hs])).ne
theorem Holds.notin (h : Holds W Rs F H r st) {p : Addr} (e : H p = none) : p ∉ r := fun m => h.there m e
/-- a new frozen object -/
theorem Holds.kindOf (h : Holds W Rs F H r st) {a : Addr} (e : a ∈ r) : ∃ u, H a = some u ∧ (∀ ps, u ≠ .tbl ps) ∧ ∀ φ, u ≠ .ext φ := by
  obtain ⟨i, hi, rfl⟩ := List.mem_iff_getElem.mp e
  have hs : i < st.length := by rw [← h.len]; exact hi
  exact (h.ob i r[i] st[i] (by simp [hi]) (by simp [hs])).kind
theorem Holds.frozen (h : Holds W Rs F H r st) {p : Addr} {o : HO} (e : H p = none) (hn : ∀ ps, o ≠ .tbl ps := by intro _ z; cases z) : Same F (upd F p o) ∧ Holds W Rs (upd F p o) (upd H p o) r st := by
  have sF : Same F (upd F p o) := fun b u q => by rw [upd_ne (ne_of_none q (h.freeF e))]; exact q
  refine ⟨sF, ⟨fun b u q => ?_, fun b u q => ?_, fun b q => ?_, h.len, h.nd, fun b m => ?_, fun i a o' e1 e2 => ?_, ⟨fun t ht => ?_, fun b ps => ?_, h.tb.nR⟩⟩⟩
  · by_cases hb : b = p
    · subst hb; rw [upd_same] at q ⊢; exact q
    · rw [upd_ne hb] at q ⊢; exact h.sF _ _ q
  · rw [upd_ne (ne_of_none q (h.freeR e))]; exact h.sR _ _ q
  · by_cases hb : b = p
    · rw [hb]; exact h.freeR e
    · rw [upd_ne hb] at q; exact h.dj b q
  · have hb : b ≠ p := fun z => h.notin e (z ▸ m)
    rw [upd_ne hb]; exact h.own b m
  · have hb : a ≠ p := fun z => h.notin e (z ▸ List.mem_of_getElem? e1)
    exact (h.ob i a o' e1 e2).mono sF (Ext.refl _) (upd_ne hb)
  · obtain ⟨t1, t2, t3, t4⟩ := h.tb.at_ t ht
    exact ⟨t1.ext fun b u q => by rw [upd_ne (ne_of_none q e)]; exact q, by rw [upd_ne (fun (z : t.1 = p) => tabs_here t1 (by rw [z]; exact e))]; exact t2, t3, t4⟩
  · by_cases hb : b = p
    · rw [hb, upd_same]; exact fun z => hn ps (Option.some.inj z)
    · rw [upd_ne hb]; exact h.tb.nF b ps
/-- a new object of the store -/
theorem Holds.fresh (h : Holds W Rs F H r st) {p : Addr} {o : HO} {b : Ob} (e : H p = none) (k : ObOk W F (r ++ [p]) (upd H p o) p b) : Holds W Rs F (upd H p o) (r ++ [p]) (st ++ [b]) := by
  refine ⟨fun c u q => ?_, fun c u q => ?_, h.dj, by simp [h.len], ?_, fun c m => ?_, fun i a o' e1 e2 => ?_, ⟨fun t ht => ?_, h.tb.nF, h.tb.nR⟩⟩
  · rw [upd_ne (ne_of_none q (h.freeF e))]; exact h.sF _ _ q
  · rw [upd_ne (ne_of_none q (h.freeR e))]; exact h.sR _ _ q
  · rw [List.nodup_append]
    refine ⟨h.nd, by simp, fun a ha b hb => ?_⟩
    have : b = p := by simpa using hb
    subst this
    exact fun z => h.notin e (z ▸ ha)
  · rcases List.mem_append.mp m with m | m
    · exact h.own c m
    · have : c = p := by simpa using m
      subst this
      exact ⟨h.freeF e, h.freeR e⟩
  · by_cases hi : i < r.length
    · rw [List.getElem?_append_left hi] at e1
      rw [List.getElem?_append_left (by rw [← h.len]; exact hi)] at e2
      have hb : a ≠ p := fun z => h.notin e (z ▸ List.mem_of_getElem? e1)
      exact (h.ob i a o' e1 e2).mono (Same.refl _) (Ext.snoc _ _) (upd_ne hb)
    · have hl : i = r.length := by
        have := (List.getElem?_eq_some_iff.mp e1).1
        simp at this; omega
      subst hl
      rw [List.getElem?_append_right (Nat.le_refl _)] at e1
      rw [List.getElem?_append_right (by rw [h.len]; exact Nat.le_refl _)] at e2
      simp at e1
      rw [h.len] at e2
      simp at e2
      subst e1; subst e2
      exact k
  · obtain ⟨t1, t2, t3, t4⟩ := h.tb.at_ t ht
    refine ⟨t1.ext fun b u q => by rw [upd_ne (ne_of_none q e)]; exact q, t2, t3, fun m => ?_⟩
    rcases List.mem_append.mp m with m | m
    · exact t4 m
    · exact tabs_here t1 (by rw [List.mem_singleton.mp m]; exact e)
/-- an object of the store is changed -/
theorem Holds.write (h : Holds W Rs F H r st) {n : Nat} {p : Addr} {o : HO} {b : Ob} (e : r[n]? = some p) (k : ObOk W F r (upd H p o) p b) : Holds W Rs F (upd H p o) r (st.set n b) := by
  have mp : p ∈ r := List.mem_of_getElem? e
  obtain ⟨o1, o2⟩ := h.own p mp
  refine ⟨fun c u q => ?_, fun c u q => ?_, h.dj, by simp [h.len], h.nd, h.own, fun i a o' e1 e2 => ?_, ⟨fun t ht => ?_, h.tb.nF, h.tb.nR⟩⟩
  · rw [upd_ne (fun z => by rw [z, o1] at q; cases q)]; exact h.sF _ _ q
  · rw [upd_ne (fun z => by rw [z, o2] at q; cases q)]; exact h.sR _ _ q
  · by_cases hi : i = n
    · subst hi
      rw [e] at e1; cases e1
      have hl : i < st.length := by rw [← h.len]; exact (List.getElem?_eq_some_iff.mp e).1
      rw [List.getElem?_set_self hl] at e2; cases e2
      exact k
    · rw [List.getElem?_set_ne (Ne.symm hi)] at e2
      have hb : a ≠ p := fun z => by
        subst z
        obtain ⟨h1, q1⟩ := List.getElem?_eq_some_iff.mp e
        obtain ⟨h2, q2⟩ := List.getElem?_eq_some_iff.mp e1
        exact hi ((List.getElem_inj h.nd).mp (q2.trans q1.symm))
      exact (h.ob i a o' e1 e2).mono (Same.refl _) (Ext.refl _) (upd_ne hb)
  · obtain ⟨t1, t2, t3, t4⟩ := h.tb.at_ t ht
    obtain ⟨u, hu, k1, k2⟩ := h.kindOf mp
    refine ⟨tabs_keep t1 fun a v q z => ?_, t2, t3, t4⟩
    rw [upd_ne fun w => ?_]
    · exact q
    · rw [w, hu] at q
      cases q
      rcases z with ⟨ps, z⟩ | ⟨φ, z⟩
      · exact k1 ps z
      · exact k2 φ z
theorem Holds.get (h : Holds W Rs F H r st) {n : Nat} {o : Ob} (e : st[n]? = some o) : ∃ a, r[n]? = some a ∧ ObOk W F r H a o := by
  have hl : n < r.length := by rw [h.len]; exact (List.getElem?_eq_some_iff.mp e).1
  exact ⟨r[n], by simp [hl], h.ob n _ o (by simp [hl]) e⟩
/-- all else is put aside -/
def isTbl : Option HO → Bool
  | some (.tbl _) => true
  | _ => false
end
/-- the slots hold what the environment says -/
structure EnvOk (F : Hp) (r : List Addr) (sg : St) (env : Env) : Prop where
  len : sg.length = env.length
  at_ : ∀ (i : Nat) (d : D), env[i]? = some (some d) → ∃ v, sg[i]? = some (some v) ∧ Rep F r v d
theorem EnvOk.mono {F F' : Hp} {r r' : List Addr} {sg : St} {env : Env} (s : Same F F') (x : Ext r r') (h : EnvOk F r sg env) : EnvOk F' r' sg env :=
  ⟨h.len, fun i d e => let ⟨v, q, k⟩ := h.at_ i d e; ⟨v, q, k.mono s x⟩⟩
theorem EnvOk.set {F : Hp} {r : List Addr} {sg : St} {env : Env} {v : V} {d : D} (h : EnvOk F r sg env) (k : Rep F r v d) (i : Nat) : EnvOk F r (sg.set i (some v)) (env.set i (some d)) := by
  refine ⟨by simp [h.len], fun j e q => ?_⟩
  by_cases hj : i = j
  · subst hj
    by_cases hl : i < env.length
    · rw [List.getElem?_set_self hl] at q; cases q
      exact ⟨v, by rw [List.getElem?_set_self (by rw [h.len]; exact hl)], k⟩
    · rw [List.getElem?_eq_none (by simp; omega)] at q; cases q
  · rw [List.getElem?_set_ne hj] at q ⊢
    exact h.at_ j e q
theorem EnvOk.start {F : Hp} {r : List Addr} {vs : List V} {ds : List D} {n : Nat} (h : Reps F r vs ds) : EnvOk F r (vs.map some ++ List.replicate (n - vs.length) none) (ds.map some ++ List.replicate (n - ds.length) none) := by
  have hl := h.length
  refine ⟨by simp [hl], fun i d e => ?_⟩
  by_cases hi : i < ds.length
  · rw [List.getElem?_append_left (by simpa using hi), List.getElem?_map] at e
    cases q : ds[i]? with
    | none => rw [q] at e; simp at e
    | some d' =>
      rw [q] at e; simp at e; subst e
      obtain ⟨v, h1, h2⟩ := h.get q
      exact ⟨v, by rw [List.getElem?_append_left (by simp; omega), List.getElem?_map, h1]; rfl, h2⟩
  · rw [List.getElem?_append_right (by simpa using hi), List.getElem?_replicate] at e
    split at e <;> simp at e
def PayOk (W : Wd) (F : Hp) (r : List Addr) (H : Hp) (c : Nat) (od : Option Addr) : Option D → Prop
  | none => od = none
  | some d => ∃ f a i, W.pay c = some f ∧ od = some a ∧ F a = some (.xd [(f, .int i)]) ∧ d = .int i
def ExcPost (W : Wd) (Rs F : Hp) (r : List Addr) (c : Nat) (p : Option D) (st' : Store) (E : XK) : Prop :=
  ∀ F' H' r' od, Same F F' → Ext r r' → Holds W Rs F' H' r' st' → PayOk W F' r' H' c od p → E (.ref (W.cls c)) od H'
def PostX {A : Type} (W : Wd) (Rs F : Hp) (r : List Addr) (res : R A) (K : A → Prop) (E : XK) : Prop := match res with
  | .ok a => K a
  | .exc c p st' => ExcPost W Rs F r c p st' E
  | .bad => False
def onE (W : Wd) (Rs F : Hp) (r : List Addr) (Q : VK) : D × Store → Prop := fun a => ∀ F' H' r' v, Same F F' → Ext r r' → Holds W Rs F' H' r' a.2 → Rep F' r' v a.1 → Q v H'
def onA (W : Wd) (Rs F : Hp) (r : List Addr) (Q : List V → Hp → Prop) : List D × Store → Prop := fun a => ∀ F' H' r' vs, Same F F' → Ext r r' → Holds W Rs F' H' r' a.2 → Reps F' r' vs a.1 → Q vs H'
def onT (W : Wd) (Rs F : Hp) (r : List Addr) (Q : Bool → Hp → Prop) : Bool × Store → Prop := fun a => ∀ F' H' r', Same F F' → Ext r r' → Holds W Rs F' H' r' a.2 → Q a.1 H'
abbrev Post (W : Wd) (Rs F : Hp) (r : List Addr) (res : R (D × Store)) (Q : VK) (E : XK) : Prop := PostX W Rs F r res (onE W Rs F r Q) E
abbrev PostA (W : Wd) (Rs F : Hp) (r : List Addr) (res : R (List D × Store)) (Q : List V → Hp → Prop) (E : XK) : Prop := PostX W Rs F r res (onA W Rs F r Q) E
abbrev PostT (W : Wd) (Rs F : Hp) (r : List Addr) (res : R (Bool × Store)) (Q : Bool → Hp → Prop) (E : XK) : Prop := PostX W Rs F r res (onT W Rs F r Q) E
theorem ExcPost.later {W : Wd} {Rs F F1 : Hp} {r r1 : List Addr} {c : Nat} {p : Option D} {st' : Store} {E : XK} (s : Same F F1) (x : Ext r r1) (h : ExcPost W Rs F r c p st' E) : ExcPost W Rs F1 r1 c p st' E :=
  fun F' H' r' od s' x' => h F' H' r' od (s.trans s') (x.trans x')
section
variable {W : Wd} {Rs F F1 : Hp} {r r1 : List Addr} {E : XK}
theorem bindX {A B : Type} {res : R A} {f : A → R B} {K : B → Prop} {K' : A → Prop} (h : PostX W Rs F r (res.bind f) K E) (k : ∀ a, res = .ok a → PostX W Rs F r (f a) K E → K' a) : PostX W Rs F r res K' E := by
  cases res with
  | ok a => exact k a rfl h
  | exc c p st' => exact h
  | bad => exact h
theorem PostX.imp {A : Type} {res : R A} {K K' : A → Prop} (s : Same F F1) (x : Ext r r1) (h : PostX W Rs F r res K E) (k : ∀ a, K a → K' a) : PostX W Rs F1 r1 res K' E := by
  cases res with
  | ok a => exact k a h
  | exc c p st' => exact ExcPost.later s x h
  | bad => exact h
theorem Post.later {res : R (D × Store)} {Q : VK} (s : Same F F1) (x : Ext r r1) (h : Post W Rs F r res Q E) : Post W Rs F1 r1 res Q E :=
  PostX.imp s x h fun _ q F' H' r' v s' x' => q F' H' r' v (s.trans s') (x.trans x')
theorem PostA.later {res : R (List D × Store)} {Q : List V → Hp → Prop} (s : Same F F1) (x : Ext r r1) (h : PostA W Rs F r res Q E) : PostA W Rs F1 r1 res Q E :=
  PostX.imp s x h fun _ q F' H' r' v s' x' => q F' H' r' v (s.trans s') (x.trans x')
theorem PostT.later {res : R (Bool × Store)} {Q : Bool → Hp → Prop} (s : Same F F1) (x : Ext r r1) (h : PostT W Rs F r res Q E) : PostT W Rs F1 r1 res Q E :=
  PostX.imp s x h fun _ q F' H' r' s' x' => q F' H' r' (s.trans s') (x.trans x')
end
abbrev EV := Env → Store → R (D × Store)
abbrev TV := Env → Store → R (Bool × Store)
abbrev AV := Env → Store → R (List D × Store)
/-- e means f -/
def tDE (W : Wd) (E : XK) (f : EV) : TE := fun sg H Q => ∃ Rs F r env st, Holds W Rs F H r st ∧ EnvOk F r sg env ∧ Post W Rs F r (f env st) Q E
def DE (W : Wd) (X : Cx) (E : XK) (e : Expr) (f : EV) : Prop := PE X e (tDE W E f)
theorem DE.mk {W : Wd} {X : Cx} {E : XK} {e : Expr} {f : EV} {t : TE} (p : PE X e t) (q : ∀ Rs F H r sg env st Q, Holds W Rs F H r st → EnvOk F r sg env → Post W Rs F r (f env st) Q E → t sg H Q) : DE W X E e f :=
  ⟨fun pins s sg H Q I ⟨Rs, F, r, env, st, a, b, c⟩ => p.run pins s sg H Q I (q Rs F H r sg env st Q a b c)⟩
theorem DE.ex {W : Wd} {X : Cx} {E : XK} {e : Expr} {f : EV} (h : DE W X E e f) : ∃ t, PE X e t ∧ ∀ Rs F H r sg env st Q, Holds W Rs F H r st → EnvOk F r sg env → Post W Rs F r (f env st) Q E → t sg H Q :=
  ⟨_, h, fun Rs F H r sg env st Q a b c => ⟨Rs, F, r, env, st, a, b, c⟩⟩
def tDT (W : Wd) (E : XK) (f : TV) : TT := fun sg H Q => ∃ Rs F r env st, Holds W Rs F H r st ∧ EnvOk F r sg env ∧ PostT W Rs F r (f env st) Q E
def DT (W : Wd) (X : Cx) (E : XK) (e : Expr) (f : TV) : Prop := PT X e (tDT W E f)
theorem DT.mk {W : Wd} {X : Cx} {E : XK} {e : Expr} {f : TV} {t : TT} (p : PT X e t) (q : ∀ Rs F H r sg env st Q, Holds W Rs F H r st → EnvOk F r sg env → PostT W Rs F r (f env st) Q E → t sg H Q) : DT W X E e f :=
  ⟨fun pins s sg H Q I ⟨Rs, F, r, env, st, a, b, c⟩ => p.run pins s sg H Q I (q Rs F H r sg env st Q a b c)⟩
theorem DT.ex {W : Wd} {X : Cx} {E : XK} {e : Expr} {f : TV} (h : DT W X E e f) : ∃ t, PT X e t ∧ ∀ Rs F H r sg env st Q, Holds W Rs F H r st → EnvOk F r sg env → PostT W Rs F r (f env st) Q E → t sg H Q :=
  ⟨_, h, fun Rs F H r sg env st Q a b c => ⟨Rs, F, r, env, st, a, b, c⟩⟩
def tDW (W : Wd) (E : XK) (f : TV) : TT := fun sg H Q => ∃ Rs F r env st, Holds W Rs F H r st ∧ EnvOk F r sg env ∧ PostT W Rs F r (f env st) Q E
def DW (W : Wd) (X : Cx) (E : XK) (e : Expr) (f : TV) : Prop := PW X e (tDW W E f)
theorem DW.mk {W : Wd} {X : Cx} {E : XK} {e : Expr} {f : TV} {t : TT} (p : PW X e t) (q : ∀ Rs F H r sg env st Q, Holds W Rs F H r st → EnvOk F r sg env → PostT W Rs F r (f env st) Q E → t sg H Q) : DW W X E e f :=
  ⟨fun wh pins s sg H Q I ⟨Rs, F, r, env, st, a, b, c⟩ => p.run wh pins s sg H Q I (q Rs F H r sg env st Q a b c)⟩
theorem DW.ex {W : Wd} {X : Cx} {E : XK} {e : Expr} {f : TV} (h : DW W X E e f) : ∃ t, PW X e t ∧ ∀ Rs F H r sg env st Q, Holds W Rs F H r st → EnvOk F r sg env → PostT W Rs F r (f env st) Q E → t sg H Q :=
  ⟨_, h, fun Rs F H r sg env st Q a b c => ⟨Rs, F, r, env, st, a, b, c⟩⟩
def tDA (W : Wd) (E : XK) (f : AV) : TA := fun sg H Q => ∃ Rs F r env st, Holds W Rs F H r st ∧ EnvOk F r sg env ∧ PostA W Rs F r (f env st) Q E
def DA (W : Wd) (X : Cx) (E : XK) (e : List Expr) (f : AV) : Prop := PA X e (tDA W E f)
theorem DA.mk {W : Wd} {X : Cx} {E : XK} {e : List Expr} {f : AV} {t : TA} (p : PA X e t) (q : ∀ Rs F H r sg env st Q, Holds W Rs F H r st → EnvOk F r sg env → PostA W Rs F r (f env st) Q E → t sg H Q) : DA W X E e f :=
  ⟨fun pos pins s sg H Q I ⟨Rs, F, r, env, st, a, b, c⟩ => p.run pos pins s sg H Q I (q Rs F H r sg env st Q a b c)⟩
theorem DA.ex {W : Wd} {X : Cx} {E : XK} {e : List Expr} {f : AV} (h : DA W X E e f) : ∃ t, PA X e t ∧ ∀ Rs F H r sg env st Q, Holds W Rs F H r st → EnvOk F r sg env → PostA W Rs F r (f env st) Q E → t sg H Q :=
  ⟨_, h, fun Rs F H r sg env st Q a b c => ⟨Rs, F, r, env, st, a, b, c⟩⟩
/-- the ends of a statement -/
inductive SR where
  | nx (env : Env) (st : Store)
  | rt (d : D) (st : Store)
  | bk (env : Env) (st : Store)
  | ct (env : Env) (st : Store)
  | exc (c : Nat) (p : Option D) (st : Store)
  | bad
abbrev SV := Env → Store → SR
def PostF (W : Wd) (Rs F : Hp) (r : List Addr) (env' : Env) (st' : Store) (N : St → Hp → Prop) : Prop :=
  ∀ F' H' r' sg', Same F F' → Ext r r' → Holds W Rs F' H' r' st' → EnvOk F' r' sg' env' → N sg' H'
theorem PostF.later {W : Wd} {Rs F F1 : Hp} {r r1 : List Addr} {env' : Env} {st' : Store} {N : St → Hp → Prop} (s : Same F F1) (x : Ext r r1) (h : PostF W Rs F r env' st' N) : PostF W Rs F1 r1 env' st' N :=
  fun F' H' r' sg' s' x' => h F' H' r' sg' (s.trans s') (x.trans x')
def PostS (W : Wd) (Rs F : Hp) (r : List Addr) (res : SR) (D : Ends) (E : XK) : Prop := match res with
  | .nx env' st' => PostF W Rs F r env' st' D.nx
  | .rt d st' => ∀ F' H' r' v, Same F F' → Ext r r' → Holds W Rs F' H' r' st' → Rep F' r' v d → D.rt v H'
  | .bk env' st' => PostF W Rs F r env' st' D.bk
  | .ct env' st' => PostF W Rs F r env' st' D.ct
  | .exc c p st' => ExcPost W Rs F r c p st' E
  | .bad => False
theorem PostS.later {W : Wd} {Rs F F1 : Hp} {r r1 : List Addr} {res : SR} {D : Ends} {E : XK} (s : Same F F1) (x : Ext r r1) (h : PostS W Rs F r res D E) : PostS W Rs F1 r1 res D E := by
  cases res with
  | nx e t => exact PostF.later s x h
  | rt d t => exact fun F' H' r' v s' x' => h F' H' r' v (s.trans s') (x.trans x')
  | bk e t => exact PostF.later s x h
  | ct e t => exact PostF.later s x h
  | exc c p st' => exact ExcPost.later s x h
  | bad => exact h
def tDS (W : Wd) (E : XK) (f : SV) : TS := fun D sg H => ∃ Rs F r env st, Holds W Rs F H r st ∧ EnvOk F r sg env ∧ PostS W Rs F r (f env st) D E
def DS (W : Wd) (X : Cx) (E : XK) (e : Stmt) (f : SV) : Prop := PS X e (tDS W E f)
theorem DS.mk {W : Wd} {X : Cx} {E : XK} {e : Stmt} {f : SV} {t : TS} (p : PS X e t) (q : ∀ Rs F H r sg env st D, Holds W Rs F H r st → EnvOk F r sg env → PostS W Rs F r (f env st) D E → t D sg H) : DS W X E e f :=
  ⟨fun pins s sg H D I ⟨Rs, F, r, env, st, a, b, c⟩ => p.run pins s sg H D I (q Rs F H r sg env st D a b c)⟩
theorem DS.ex {W : Wd} {X : Cx} {E : XK} {e : Stmt} {f : SV} (h : DS W X E e f) : ∃ t, PS X e t ∧ ∀ Rs F H r sg env st D, Holds W Rs F H r st → EnvOk F r sg env → PostS W Rs F r (f env st) D E → t D sg H :=
  ⟨_, h, fun Rs F H r sg env st D a b c => ⟨Rs, F, r, env, st, a, b, c⟩⟩
def tDB (W : Wd) (E : XK) (f : SV) : TS := fun D sg H => ∃ Rs F r env st, Holds W Rs F H r st ∧ EnvOk F r sg env ∧ PostS W Rs F r (f env st) D E
def DB (W : Wd) (X : Cx) (E : XK) (e : List Stmt) (f : SV) : Prop := PSs X e (tDB W E f)
theorem DB.mk {W : Wd} {X : Cx} {E : XK} {e : List Stmt} {f : SV} {t : TS} (p : PSs X e t) (q : ∀ Rs F H r sg env st D, Holds W Rs F H r st → EnvOk F r sg env → PostS W Rs F r (f env st) D E → t D sg H) : DB W X E e f :=
  ⟨fun pins s sg H D I ⟨Rs, F, r, env, st, a, b, c⟩ => p.run pins s sg H D I (q Rs F H r sg env st D a b c)⟩
theorem DB.ex {W : Wd} {X : Cx} {E : XK} {e : List Stmt} {f : SV} (h : DB W X E e f) : ∃ t, PSs X e t ∧ ∀ Rs F H r sg env st D, Holds W Rs F H r st → EnvOk F r sg env → PostS W Rs F r (f env st) D E → t D sg H :=
  ⟨_, h, fun Rs F H r sg env st D a b c => ⟨Rs, F, r, env, st, a, b, c⟩⟩
/-- a def's meaning -/
abbrev FV := List D → Store → R (D × Store)
/-- a def's promise: it means g, for n arguments -/
def spD (W : Wd) (n : Nat) (g : FV) : Sp := fun vs H Q E => ∃ Rs F r st ds, Holds W Rs F H r st ∧ Reps F r vs ds ∧ ds.length = n ∧ Post W Rs F r (g ds st) Q E
def funD (n : Nat) (b : SV) : FV := fun ds st => match b (ds.map some ++ List.replicate (n - ds.length) none) st with
  | .nx _ st' => .ok (.non, st')
  | .rt d st' => .ok (d, st')
  | .exc c p st' => .exc c p st'
  | _ => .bad
end Dl
namespace Dl
open PySem L2
section
variable {W : Wd} {X : Cx} {E : XK}
def eV (i : Nat) : EV := fun env st => match env[i]? with
  | some (some d) => .ok (d, st)
  | _ => .bad
def eC (d : D) : EV := fun _ st => .ok (d, st)
theorem onE_here {Rs F H : Hp} {r : List Addr} {st : Store} {Q : VK} {v : V} {d : D} (h : Holds W Rs F H r st) (k : Rep F r v d) (q : onE W Rs F r Q (d, st)) : Q v H := q F H r v (Same.refl _) (Ext.refl _) h k
theorem de_var {i : Nat} {x : Str} {pos : Pos} (hN : X.N[i]? = some x) (hv : Vis X.env.scope x) (hd : (x == ("__debug__" : Str)) = false := by decide) (hcd : (x == ("__classdict__" : Str)) = false := by decide) : DE W X E (.Name x pos) (eV i) := by
  refine .mk (pe_var hN hv hd hcd) fun Rs F H r sg env st Q hH hE hP => ?_
  unfold eV at hP
  split at hP
  · rename_i d e
    obtain ⟨v, h1, h2⟩ := hE.at_ i d e
    exact ⟨v, h1, onE_here hH h2 hP⟩
  · exact hP.elim
theorem de_c {e : Expr} {v : V} {d : D} (h : PE X e (tC v)) (k : ∀ F r, Rep F r v d) : DE W X E e (eC d) :=
  .mk h fun Rs F H r sg env st Q hH hE hP => onE_here hH (k F r) hP
theorem de_int {i j pos} : DE W X E (.Constant (.int i) j pos) (eC (.int i)) := de_c pe_int fun _ _ => .int i
theorem de_bl {b j pos} : DE W X E (.Constant (.bool b) j pos) (eC (.bl b)) := de_c pe_bl fun _ _ => .bl b
theorem de_non {j pos} : DE W X E (.Constant .none j pos) (eC .non) := de_c pe_non fun _ _ => .non
theorem rep_str {x : Str} {s : List Nat} (h : x.cps.toList = s) (a : (s.all (fun c => decide (c < 128)) && decide (s.length ≤ LIM)) = true) (F : Hp) (r : List Addr) : Rep F r (.str x) (.str s) := by
  have e : x = ⟨s.toArray⟩ := by subst h; cases x; rfl
  rw [Bool.and_eq_true] at a
  rw [e]
  exact .str s a.1 (of_decide_eq_true a.2)
theorem de_str {x : Str} {s : List Nat} {j pos} (h : x.cps.toList = s) (a : (s.all (fun c => decide (c < 128)) && decide (s.length ≤ LIM)) = true) : DE W X E (.Constant (.str x) j pos) (eC (.str s)) := de_c pe_str (rep_str h a)
/-- a constant of the module -/
theorem de_globI {x : Str} {i : Int} {t : Tok} {pos : Pos} (hg : Gl X x) (hm : X.mg x = some (.int i t)) (hd : (x == ("__debug__" : Str)) = false := by decide) : DE W X E (.Name x pos) (eC (.int i)) := de_c (pe_glob hg hm (v := .int i) ⟨_, rfl⟩ hd) fun _ _ => .int i
theorem de_globS {x y : Str} {s : List Nat} {t : Tok} {pos : Pos} (hg : Gl X x) (hm : X.mg x = some (.str y t)) (h : y.cps.toList = s) (a : (s.all (fun c => decide (c < 128)) && decide (s.length ≤ LIM)) = true) (hd : (x == ("__debug__" : Str)) = false := by decide) : DE W X E (.Name x pos) (eC (.str s)) :=
  de_c (pe_glob hg hm (v := .str y) ⟨_, rfl⟩ hd) (rep_str h a)
abbrev G2 := Store → D → D → R (D × Store)
def eOp (g : G2) (fa fb : EV) : EV := fun env st => (fa env st).bind fun a => (fb env a.2).bind fun b => g b.2 a.1 b.1
/-- an operation of two values means g -/
def DOp (W : Wd) (X : Cx) (f : Value → Value → Sem Value) (g : G2) : Prop :=
  ∃ r, OpR X f r ∧ ∀ Rs F H rr st x y dx dy Q E, Holds W Rs F H rr st → Rep F rr x dx → Rep F rr y dy → Post W Rs F rr (g st dx dy) Q E → r x y H Q
theorem eOp_post {ta tb : TE} {rd : R2} {fa fb : EV} {g : G2}
    (qa : ∀ Rs F H r sg env st Q, Holds W Rs F H r st → EnvOk F r sg env → Post W Rs F r (fa env st) Q E → ta sg H Q)
    (qb : ∀ Rs F H r sg env st Q, Holds W Rs F H r st → EnvOk F r sg env → Post W Rs F r (fb env st) Q E → tb sg H Q)
    (qr : ∀ Rs F H rr st x y dx dy Q E, Holds W Rs F H rr st → Rep F rr x dx → Rep F rr y dy → Post W Rs F rr (g st dx dy) Q E → rd x y H Q)
    {Rs F H r sg env st Q} (hH : Holds W Rs F H r st) (hE : EnvOk F r sg env) (hP : Post W Rs F r (eOp g fa fb env st) Q E) : tOp rd ta tb sg H Q := by
  refine qa Rs F H r sg env st _ hH hE (bindX hP fun a ea q F1 H1 r1 v1 s1 x1 h1 k1 => ?_)
  refine qb Rs F1 H1 r1 sg env a.2 _ h1 (hE.mono s1 x1) (bindX (Post.later s1 x1 (res := (fb env a.2).bind _) q) fun b eb q2 F2 H2 r2 v2 s2 x2 h2 k2 => ?_)
  exact qr Rs F2 H2 r2 b.2 v1 v2 a.1 b.1 Q E h2 (k1.mono s2 x2) k2 (Post.later s2 x2 q2)
variable {a b : Expr} {fa fb : EV} {pos : Pos}
theorem de_op {op : Operator} {g : G2} (ho : DOp W X (binaryOp op) g) (ha : DE W X E a fa) (hb : DE W X E b fb) : DE W X E (.BinOp a op b pos) (eOp g fa fb) := by
  obtain ⟨r, hr, qr⟩ := ho
  obtain ⟨ta, pa, qa⟩ := ha.ex
  obtain ⟨tb, pb, qb⟩ := hb.ex
  exact .mk (pe_op hr pa pb) fun Rs F H rr sg env st Q hH hE hP => eOp_post qa qb qr hH hE hP
theorem de_cmp {op : CmpOp} {g : G2} (ho : DOp W X (compareOp op) g) (ha : DE W X E a fa) (hb : DE W X E b fb) (hm : behindInMarks op b = false) : DE W X E (.Compare a [op] [b] pos) (eOp g fa fb) := by
  obtain ⟨r, hr, qr⟩ := ho
  obtain ⟨ta, pa, qa⟩ := ha.ex
  obtain ⟨tb, pb, qb⟩ := hb.ex
  exact .mk (pe_cmpR hr pa pb hm) fun Rs F H rr sg env st Q hH hE hP => eOp_post qa qb qr hH hE hP
/-- a value that is a bool, as a test -/
def tv (f : EV) : TV := fun env st => (f env st).bind fun a => match a.1 with
  | .bl b => .ok (b, a.2)
  | _ => .bad
theorem tv_post {ta : TE} {f : EV} (qa : ∀ Rs F H r sg env st Q, Holds W Rs F H r st → EnvOk F r sg env → Post W Rs F r (f env st) Q E → ta sg H Q)
    {Rs F H r sg env st} {Q : Bool → Hp → Prop} (hH : Holds W Rs F H r st) (hE : EnvOk F r sg env) (hP : PostT W Rs F r (tv f env st) Q E) : ta sg H fun x H1 => ∃ k, x = .bl k ∧ Q k H1 := by
  refine qa Rs F H r sg env st _ hH hE (bindX hP fun a ea q F1 H1 r1 v1 s1 x1 h1 k1 => ?_)
  obtain ⟨d, st1⟩ := a
  cases d with
  | bl c => cases k1; exact ⟨c, rfl, q F1 H1 r1 s1 x1 h1⟩
  | _ => exact q.elim
theorem dt_cmp {op : CmpOp} {g : G2} (ho : DOp W X (compareOp op) g) (ha : DE W X E a fa) (hb : DE W X E b fb) (hm : behindInMarks op b = false) : DT W X E (.Compare a [op] [b] pos) (tv (eOp g fa fb)) := by
  obtain ⟨r, hr, qr⟩ := ho
  obtain ⟨ta, pa, qa⟩ := ha.ex
  obtain ⟨tb, pb, qb⟩ := hb.ex
  exact .mk (pt_cmpR hr pa pb hm) fun Rs F H rr sg env st Q hH hE hP => tv_post (fun Rs F H r sg env st Q hH hE hP => eOp_post qa qb qr hH hE hP) hH hE hP
theorem dt_val {e : Expr} {f : EV} (h : DE W X E e f) (he : ∀ whole, isTrue e X.env whole = (do let v ← whole; standAt e.pos; holding [v] (truthy v)) := by intro _; rfl) : DT W X E e (tv f) := by
  obtain ⟨t, p, q⟩ := h.ex
  exact .mk (pt_val p he) fun Rs F H rr sg env st Q hH hE hP => tv_post q hH hE hP
/-- a < b < c -/
def eChain (g g' : G2) (fa fb fc : EV) : EV := fun env st => (fa env st).bind fun a => (fb env a.2).bind fun b => (g b.2 a.1 b.1).bind fun z => match z.1 with
  | .bl true => (fc env z.2).bind fun c => g' c.2 b.1 c.1
  | .bl false => .ok (.bl false, z.2)
  | _ => .bad
theorem chain_post {c : Expr} {ta tb tc : TE} {rd rd' : R2} {fa fb fc : EV} {g g' : G2}
    (qa : ∀ Rs F H r sg env st Q, Holds W Rs F H r st → EnvOk F r sg env → Post W Rs F r (fa env st) Q E → ta sg H Q)
    (qb : ∀ Rs F H r sg env st Q, Holds W Rs F H r st → EnvOk F r sg env → Post W Rs F r (fb env st) Q E → tb sg H Q)
    (qc : ∀ Rs F H r sg env st Q, Holds W Rs F H r st → EnvOk F r sg env → Post W Rs F r (fc env st) Q E → tc sg H Q)
    (qr : ∀ Rs F H rr st x y dx dy Q E, Holds W Rs F H rr st → Rep F rr x dx → Rep F rr y dy → Post W Rs F rr (g st dx dy) Q E → rd x y H Q)
    (qr' : ∀ Rs F H rr st x y dx dy Q E, Holds W Rs F H rr st → Rep F rr x dx → Rep F rr y dy → Post W Rs F rr (g' st dx dy) Q E → rd' x y H Q)
    {Rs F H r sg env st Q} (hH : Holds W Rs F H r st) (hE : EnvOk F r sg env) (hP : Post W Rs F r (eChain g g' fa fb fc env st) Q E) : tChain rd rd' ta tb tc sg H Q := by
  refine qa Rs F H r sg env st _ hH hE (bindX hP fun a ea q F1 H1 r1 v1 s1 x1 h1 k1 => ?_)
  refine qb Rs F1 H1 r1 sg env a.2 _ h1 (hE.mono s1 x1) (bindX (Post.later s1 x1 (res := (fb env a.2).bind _) q) fun b eb q2 F2 H2 r2 v2 s2 x2 h2 k2 => ?_)
  refine qr Rs F2 H2 r2 b.2 v1 v2 a.1 b.1 _ E h2 (k1.mono s2 x2) k2 (bindX (Post.later s2 x2 (res := (g b.2 a.1 b.1).bind _) q2) fun z ez q3 F3 H3 r3 v3 s3 x3 h3 k3 => ?_)
  obtain ⟨dz, st3⟩ := z
  cases dz with
  | bl k =>
    cases k3
    refine ⟨k, rfl, ?_⟩
    cases k with
    | true =>
      show tc sg H3 fun u H4 => rd' v2 u H4 Q
      refine qc Rs F3 H3 r3 sg env st3 _ h3 (hE.mono ((s1.trans s2).trans s3) ((x1.trans x2).trans x3)) (bindX (Post.later s3 x3 (res := (fc env st3).bind _) q3) fun c ec q4 F4 H4 r4 v4 s4 x4 h4 k4 => ?_)
      exact qr' Rs F4 H4 r4 c.2 v2 v4 b.1 c.1 Q E h4 (k2.mono (s3.trans s4) (x3.trans x4)) k4 (Post.later s4 x4 q4)
    | false => exact q3 F3 H3 r3 (.bl false) s3 x3 h3 (.bl false)
  | _ => exact q3.elim
theorem de_chain {c : Expr} {fc : EV} {op op' : CmpOp} {g g' : G2} (ho : DOp W X (compareOp op) g) (ho' : DOp W X (compareOp op') g') (ha : DE W X E a fa) (hb : DE W X E b fb) (hc : DE W X E c fc)
    (hm : lastMarks [op, op'] [b, c] = false) : DE W X E (.Compare a [op, op'] [b, c] pos) (eChain g g' fa fb fc) := by
  obtain ⟨r, hr, qr⟩ := ho
  obtain ⟨r', hr', qr'⟩ := ho'
  obtain ⟨ta, pa, qa⟩ := ha.ex
  obtain ⟨tb, pb, qb⟩ := hb.ex
  obtain ⟨tc, pc, qc⟩ := hc.ex
  exact .mk (pe_chain hr hr' pa pb pc hm) fun Rs F H rr sg env st Q hH hE hP => chain_post (c := c) qa qb qc qr qr' hH hE hP
theorem dt_chain {c : Expr} {fc : EV} {op op' : CmpOp} {g g' : G2} (ho : DOp W X (compareOp op) g) (ho' : DOp W X (compareOp op') g') (ha : DE W X E a fa) (hb : DE W X E b fb) (hc : DE W X E c fc)
    (hm : lastMarks [op, op'] [b, c] = false) : DT W X E (.Compare a [op, op'] [b, c] pos) (tv (eChain g g' fa fb fc)) := by
  obtain ⟨r, hr, qr⟩ := ho
  obtain ⟨r', hr', qr'⟩ := ho'
  obtain ⟨ta, pa, qa⟩ := ha.ex
  obtain ⟨tb, pb, qb⟩ := hb.ex
  obtain ⟨tc, pc, qc⟩ := hc.ex
  exact .mk (pt_chain hr hr' pa pb pc hm) fun Rs F H rr sg env st Q hH hE hP => tv_post (fun Rs F H r sg env st Q hH hE hP => chain_post (c := c) qa qb qc qr qr' hH hE hP) hH hE hP
def tAndD (f g : TV) : TV := fun env st => (f env st).bind fun a => if a.1 = true then g env a.2 else .ok (false, a.2)
def tOrD (f g : TV) : TV := fun env st => (f env st).bind fun a => if a.1 = true then .ok (true, a.2) else g env a.2
def tNotD (f : TV) : TV := fun env st => (f env st).bind fun a => .ok (!a.1, a.2)
variable {rest : List Expr} {ga gb : TV}
theorem onT_here {Rs F H : Hp} {r : List Addr} {st : Store} {Q : Bool → Hp → Prop} {b : Bool} (h : Holds W Rs F H r st) (q : onT W Rs F r Q (b, st)) : Q b H := q F H r (Same.refl _) (Ext.refl _) h
theorem dw_and1 (h : DT W X E a ga) : DW W X E (.BoolOp .And [a] pos) ga := let ⟨t, p, q⟩ := h.ex; .mk (pw_and1 p) q
theorem dw_or1 (h : DT W X E a ga) : DW W X E (.BoolOp .Or [a] pos) ga := let ⟨t, p, q⟩ := h.ex; .mk (pw_or1 p) q
theorem dw_and (ha : DT W X E a ga) (hb : DW W X E (.BoolOp .And (b :: rest) pos) gb) : DW W X E (.BoolOp .And (a :: b :: rest) pos) (tAndD ga gb) := by
  obtain ⟨ta, pa, qa⟩ := ha.ex
  obtain ⟨tb, pb, qb⟩ := hb.ex
  refine .mk (pw_and pa pb) fun Rs F H rr sg env st Q hH hE hP => ?_
  refine qa Rs F H rr sg env st _ hH hE (bindX hP fun a ea q F1 H1 r1 s1 x1 h1 => ?_)
  obtain ⟨c, st1⟩ := a
  cases c with
  | true => exact qb Rs F1 H1 r1 sg env st1 Q h1 (hE.mono s1 x1) (PostT.later s1 x1 q)
  | false => exact q F1 H1 r1 s1 x1 h1
theorem dw_or (ha : DT W X E a ga) (hb : DW W X E (.BoolOp .Or (b :: rest) pos) gb) : DW W X E (.BoolOp .Or (a :: b :: rest) pos) (tOrD ga gb) := by
  obtain ⟨ta, pa, qa⟩ := ha.ex
  obtain ⟨tb, pb, qb⟩ := hb.ex
  refine .mk (pw_or pa pb) fun Rs F H rr sg env st Q hH hE hP => ?_
  refine qa Rs F H rr sg env st _ hH hE (bindX hP fun a ea q F1 H1 r1 s1 x1 h1 => ?_)
  obtain ⟨c, st1⟩ := a
  cases c with
  | true => exact q F1 H1 r1 s1 x1 h1
  | false => exact qb Rs F1 H1 r1 sg env st1 Q h1 (hE.mono s1 x1) (PostT.later s1 x1 q)
theorem dt_w (h : DW W X E a ga) : DT W X E a ga := let ⟨t, p, q⟩ := h.ex; .mk (p.pt) q
theorem dt_not (h : DT W X E a ga) : DT W X E (.UnaryOp .Not a pos) (tNotD ga) := by
  obtain ⟨ta, pa, qa⟩ := h.ex
  refine .mk (pt_not pa) fun Rs F H rr sg env st Q hH hE hP => ?_
  exact qa Rs F H rr sg env st _ hH hE (bindX hP fun a ea q F1 H1 r1 s1 x1 h1 => q F1 H1 r1 s1 x1 h1)
def eAnd (f g : EV) : EV := fun env st => (f env st).bind fun a => match a.1 with
  | .bl true => g env a.2
  | .bl false => .ok (.bl false, a.2)
  | _ => .bad
def eOr (f g : EV) : EV := fun env st => (f env st).bind fun a => match a.1 with
  | .bl true => .ok (.bl true, a.2)
  | .bl false => g env a.2
  | _ => .bad
def eNot (f : EV) : EV := fun env st => (f env st).bind fun a => match a.1 with
  | .bl b => .ok (.bl (!b), a.2)
  | _ => .bad
theorem de_one {op} {f : EV} (h : DE W X E a f) : DE W X E (.BoolOp op [a] pos) f := let ⟨t, p, q⟩ := h.ex; .mk (pe_one p) q
theorem de_and (ha : DE W X E a fa) (hb : DE W X E (.BoolOp .And (b :: rest) pos) fb) : DE W X E (.BoolOp .And (a :: b :: rest) pos) (eAnd fa fb) := by
  obtain ⟨ta, pa, qa⟩ := ha.ex
  obtain ⟨tb, pb, qb⟩ := hb.ex
  refine .mk (pe_and pa pb) fun Rs F H rr sg env st Q hH hE hP => ?_
  refine qa Rs F H rr sg env st _ hH hE (bindX hP fun a ea q F1 H1 r1 v1 s1 x1 h1 k1 => ?_)
  obtain ⟨d, st1⟩ := a
  cases d with
  | bl c =>
    cases k1
    refine ⟨c, rfl, ?_⟩
    cases c with
    | true => exact qb Rs F1 H1 r1 sg env st1 Q h1 (hE.mono s1 x1) (Post.later s1 x1 q)
    | false => exact q F1 H1 r1 _ s1 x1 h1 (.bl false)
  | _ => exact q.elim
theorem de_not (h : DE W X E a fa) : DE W X E (.UnaryOp .Not a pos) (eNot fa) := by
  obtain ⟨ta, pa, qa⟩ := h.ex
  refine .mk (pe_not pa) fun Rs F H rr sg env st Q hH hE hP => ?_
  refine qa Rs F H rr sg env st _ hH hE (bindX hP fun a ea q F1 H1 r1 v1 s1 x1 h1 k1 => ?_)
  obtain ⟨d, st1⟩ := a
  cases d with
  | bl c => cases k1; exact ⟨c, rfl, q F1 H1 r1 _ s1 x1 h1 (.bl _)⟩
  | _ => exact q.elim
def eIf (t : TV) (f g : EV) : EV := fun env st => (t env st).bind fun a => if a.1 = true then f env a.2 else g env a.2
theorem de_if {c : Expr} (hc : DT W X E c ga) (ha : DE W X E a fa) (hb : DE W X E b fb) : DE W X E (.IfExp c a b pos) (eIf ga fa fb) := by
  obtain ⟨tc, pc, qc⟩ := hc.ex
  obtain ⟨ta, pa, qa⟩ := ha.ex
  obtain ⟨tb, pb, qb⟩ := hb.ex
  refine .mk (pe_ifExp pc pa pb) fun Rs F H rr sg env st Q hH hE hP => ?_
  refine qc Rs F H rr sg env st _ hH hE (bindX hP fun a ea q F1 H1 r1 s1 x1 h1 => ?_)
  obtain ⟨c, st1⟩ := a
  cases c with
  | true => exact qa Rs F1 H1 r1 sg env st1 Q h1 (hE.mono s1 x1) (Post.later s1 x1 q)
  | false => exact qb Rs F1 H1 r1 sg env st1 Q h1 (hE.mono s1 x1) (Post.later s1 x1 q)
def aNil : AV := fun _ st => .ok ([], st)
def aCons (f : EV) (g : AV) : AV := fun env st => (f env st).bind fun a => (g env a.2).bind fun b => .ok (a.1 :: b.1, b.2)
theorem da_nil : DA W X E [] aNil := .mk pa_nil fun Rs F H rr sg env st Q hH hE hP => hP F H rr [] (Same.refl _) (Ext.refl _) hH .nil
theorem da_cons {e : Expr} {es : List Expr} {f : EV} {g : AV} (he : DE W X E e f) (hr : DA W X E es g) (hs : starEach (e :: es) X.env = (false, eval e X.env) :: starEach es X.env := by rfl) : DA W X E (e :: es) (aCons f g) := by
  obtain ⟨te, pe, qe⟩ := he.ex
  obtain ⟨tr, pr, qr⟩ := hr.ex
  refine .mk (pa_cons pe pr hs) fun Rs F H rr sg env st Q hH hE hP => ?_
  refine qe Rs F H rr sg env st _ hH hE (bindX hP fun a ea q F1 H1 r1 v1 s1 x1 h1 k1 => ?_)
  refine qr Rs F1 H1 r1 sg env a.2 _ h1 (hE.mono s1 x1) (bindX (PostA.later s1 x1 (res := (g env a.2).bind _) q) fun b eb q2 F2 H2 r2 vs s2 x2 h2 k2 => ?_)
  exact q2 F2 H2 r2 (v1 :: vs) s2 x2 h2 (.cons (k1.mono s2 x2) k2)
/-- a list laid: frozen, or into the store -/
def newL (m : Bool) (ds : List D) (st : Store) : R (D × Store) := if m = true then .ok (.ref st.length, st ++ [.lst ds]) else .ok (.lst ds, st)
theorem newL_post {m : Bool} {Rs F H : Hp} {r : List Addr} {st : Store} {Q : VK} {vs : List V} {ds : List D} {p : Addr} (h : Holds W Rs F H r st) (k : Reps F r vs ds) (q : Post W Rs F r (newL m ds st) Q E) (e : H p = none) : Q (.ref p) (upd H p (.lst vs)) := by
  unfold newL at q
  cases m with
  | true =>
    refine q F (upd H p (.lst vs)) (r ++ [p]) (.ref p) (Same.refl _) (Ext.snoc _ _) (h.fresh e ⟨vs, upd_same, k.mono (Same.refl _) (Ext.snoc _ _)⟩) (.ref ?_)
    show (r ++ [p])[st.length]? = some p
    rw [← h.len, List.getElem?_append_right (Nat.le_refl _)]; simp
  | false =>
    obtain ⟨s, h'⟩ := h.frozen (o := .lst vs) e
    exact q _ _ r (.ref p) s (Ext.refl _) h' (.lst upd_same (k.mono s (Ext.refl _)))
theorem tup_post {Rs F H : Hp} {r : List Addr} {st : Store} {Q : VK} {vs : List V} {ds : List D} {p : Addr} (h : Holds W Rs F H r st) (k : Reps F r vs ds) (q : onE W Rs F r Q (.tup ds, st)) (e : H p = none) : Q (.ref p) (upd H p (.tup vs)) := by
  obtain ⟨s, h'⟩ := h.frozen (o := .tup vs) e
  exact q _ _ r (.ref p) s (Ext.refl _) h' (.tup upd_same (k.mono s (Ext.refl _)))
theorem lim_line {n : Nat} (h : n ≤ LIM) : n ≤ sizeLine := Nat.le_trans h (by decide)
theorem lim_lt {n : Nat} (h : n ≤ LIM) : n < sizeLine := Nat.lt_of_le_of_lt h (by decide)
def eTup (g : AV) : EV := fun env st => (g env st).bind fun a => if a.1.length ≤ LIM then .ok (.tup a.1, a.2) else .bad
def eLst (m : Bool) (g : AV) : EV := fun env st => (g env st).bind fun a => if a.1.length ≤ LIM then newL m a.1 a.2 else .bad
theorem de_tup {es : List Expr} {g : AV} {x1} (h : DA W X E es g) : DE W X E (.Tuple es x1 pos) (eTup g) := by
  obtain ⟨t, p, q⟩ := h.ex
  refine .mk (pe_tup p) fun Rs F H rr sg env st Q hH hE hP => ?_
  refine q Rs F H rr sg env st _ hH hE (bindX hP fun a ea q F1 H1 r1 vs s1 x1 h1 k1 => ?_)
  by_cases hl : a.1.length ≤ LIM
  · rw [if_pos hl] at q
    exact ⟨by rw [k1.length]; exact lim_line hl, fun pp hp => tup_post h1 k1 (Post.later s1 x1 (res := .ok (.tup a.1, a.2)) q) hp⟩
  · rw [if_neg hl] at q; exact q.elim
theorem de_lst (m : Bool) {es : List Expr} {g : AV} (h : DA W X E es g) : DE W X E (.List es pos) (eLst m g) := by
  obtain ⟨t, p, q⟩ := h.ex
  refine .mk (pe_lst p) fun Rs F H rr sg env st Q hH hE hP => ?_
  refine q Rs F H rr sg env st _ hH hE (bindX hP fun a ea q F1 H1 r1 vs s1 x1 h1 k1 => ?_)
  by_cases hl : a.1.length ≤ LIM
  · rw [if_pos hl] at q
    exact ⟨by rw [k1.length]; exact lim_line hl, fun pp hp => newL_post (m := m) h1 k1 (Post.later s1 x1 q) hp⟩
  · rw [if_neg hl] at q; exact q.elim
end
def lstOf (st : Store) : D → Option (List D)
  | .lst ds => some ds
  | .ref n => match st[n]? with
    | some (.lst ds) => some ds
    | _ => none
  | _ => none
theorem lstOf_ok {W : Wd} {Rs F H : Hp} {r : List Addr} {st : Store} {v : V} {d : D} {ds : List D} (h : Holds W Rs F H r st) (k : Rep F r v d) (e : lstOf st d = some ds) : ∃ a vs, v = .ref a ∧ H a = some (.lst vs) ∧ Reps F r vs ds := by
  cases k with
  | lst q k => cases e; exact ⟨_, _, rfl, h.sF _ _ q, k⟩
  | @ref a n q =>
    unfold lstOf at e
    simp only at e
    split at e
    · rename_i ds' e'
      cases e
      have hh := h.ob n a _ q e'
      obtain ⟨vs, e1, k⟩ := hh
      exact ⟨a, vs, rfl, e1, k⟩
    · cases e
  | _ => cases e
end Dl
namespace Dl
open PySem L2
section
variable {W : Wd} {X : Cx} {E : XK}
theorem DOp.of {f : Value → Value → Sem Value} {r : R2} {g : G2} (h : OpR X f r) (k : ∀ Rs F H rr st x y dx dy Q E, Holds W Rs F H rr st → Rep F rr x dx → Rep F rr y dy → Post W Rs F rr (g st dx dy) Q E → r x y H Q) : DOp W X f g := ⟨r, h, k⟩
def optAll {A : Type} : List (Option A) → Option (List A)
  | [] => some []
  | none :: _ => none
  | some a :: r => match optAll r with
    | some l => some (a :: l)
    | none => none
def toP (st : Store) : Nat → D → Option PyData
  | 0, _ => none
  | n + 1, d => match d with
    | .non => some .none
    | .bl b => some (.bool b)
    | .int i => some (.int i)
    | .str s => some (.str ⟨s.toArray⟩)
    | .tup ds => match optAll (ds.map (toP st n)) with
      | some ps => some (.tuple ps)
      | none => none
    | .lst ds => match optAll (ds.map (toP st n)) with
      | some ps => some (.list ps)
      | none => none
    | .ref k => match st[k]? with
      | some (.lst ds) => match optAll (ds.map (toP st n)) with
        | some ps => some (.list ps)
        | none => none
      | _ => none
    | .scr _ => none
    | .exn _ _ => none
theorem strOk_of {s : List Nat} (h : s.all (fun c => decide (c < 128)) = true) : PyData.strOk ⟨s.toArray⟩ = true := by
  unfold PyData.strOk
  rw [List.all_eq_true] at h
  simp only [List.size_toArray, List.all_toArray', List.all_eq_true, decide_eq_true_eq]
  intro x hx
  have := of_decide_eq_true (h x hx)
  omega
section
variable {Rs F H : Hp} {r : List Addr} {st : Store}
theorem toP_ok (h : Holds W Rs F H r st) : ∀ (n : Nat) (d : D) (v : V) (p : PyData), Rep F r v d → toP st n d = some p → Dp W.K H v p ∧ p.canLay0 = true ∧ p.depth ≤ n
  | 0, _, _, _, _, e => by cases e
  | n + 1, d, v, p, k, e => by
    have all : ∀ (ds : List D) (vs : List V) (ps : List PyData), Reps F r vs ds → optAll (ds.map (toP st n)) = some ps → DpAll W.K H vs ps ∧ PyData.canLayAll0 ps = true ∧ PyData.depthAll ps ≤ n := by
      intro ds
      induction ds with
      | nil => intro vs ps k e; cases k; cases e; exact ⟨.nil, rfl, Nat.zero_le _⟩
      | cons d ds ih =>
        intro vs ps k e
        cases k with
        | cons k1 k2 =>
          rw [List.map_cons] at e
          cases e1 : toP st n d with
          | none => rw [e1] at e; cases e
          | some p1 =>
            rw [e1] at e
            unfold optAll at e
            cases e2 : optAll (ds.map (toP st n)) with
            | none => rw [e2] at e; cases e
            | some ps2 =>
              rw [e2] at e
              cases e
              obtain ⟨a1, a2, a3⟩ := toP_ok h n d _ _ k1 e1
              obtain ⟨b1, b2, b3⟩ := ih _ _ k2 e2
              refine ⟨.cons a1 b1, ?_, ?_⟩
              · unfold PyData.canLayAll0; rw [a2, b2]; rfl
              · unfold PyData.depthAll; omega
    cases k with
    | non => cases e; exact ⟨.non, rfl, Nat.zero_le _⟩
    | bl b => cases e; exact ⟨.bl b, rfl, Nat.zero_le _⟩
    | int i => cases e; exact ⟨.int i, rfl, Nat.zero_le _⟩
    | str s a l => cases e; exact ⟨.str _, strOk_of a, Nat.zero_le _⟩
    | scr q => cases e
    | exn0 => cases e
    | exn1 q => cases e
    | tup q k =>
      unfold toP at e
      simp only at e
      split at e
      · rename_i ps e'
        cases e
        obtain ⟨a1, a2, a3⟩ := all _ _ _ k e'
        refine ⟨.tup (.of (h.sF _ _ q)) a1, ?_, ?_⟩
        · unfold PyData.canLay0; exact a2
        · unfold PyData.depth; omega
      · cases e
    | lst q k =>
      unfold toP at e
      simp only at e
      split at e
      · rename_i ps e'
        cases e
        obtain ⟨a1, a2, a3⟩ := all _ _ _ k e'
        refine ⟨.lst (.of (h.sF _ _ q)) a1, ?_, ?_⟩
        · unfold PyData.canLay0; exact a2
        · unfold PyData.depth; omega
      · cases e
    | @ref a m q =>
      unfold toP at e
      simp only at e
      split at e
      · rename_i ds e0
        split at e
        · rename_i ps e'
          cases e
          obtain ⟨vs, q', k⟩ := h.ob m a _ q e0
          obtain ⟨a1, a2, a3⟩ := all _ _ _ k e'
          refine ⟨.lst (.of q') a1, ?_, ?_⟩
          · unfold PyData.canLay0; exact a2
          · unfold PyData.depth; omega
        · cases e
      · cases e
end
def eqG (neg : Bool) : G2 := fun st d e => match toP st 40 d, toP st 40 e with
  | some p, some q => .ok (.bl (if neg = true then !PyData.eqv p q else PyData.eqv p q), st)
  | _, _ => .bad
theorem shaped_of {p : PyData} (a : p.canLay0 = true) (b : p.depth ≤ 40) : SeqAt.shaped p = true := by
  unfold SeqAt.shaped
  rw [a, decide_eq_true (show p.depth ≤ 64 by omega)]; rfl
theorem dop_eq (hK : X.K = W.K) (hu : X.A.units + 64 < cLine) : DOp W X (compareOp .Eq) (eqG false) := .of (op_eqD hu) fun Rs F H rr st x y dx dy Q E h kx ky hP => by
  unfold eqG at hP
  split at hP
  · rename_i p q e1 e2
    obtain ⟨a1, a2, a3⟩ := toP_ok h _ _ _ _ kx e1
    obtain ⟨b1, b2, b3⟩ := toP_ok h _ _ _ _ ky e2
    exact ⟨p, q, by rw [hK]; exact a1, by rw [hK]; exact b1, shaped_of a2 a3, shaped_of b2 b3, onE_here h (.bl _) hP⟩
  · exact hP.elim
theorem dop_ne (hK : X.K = W.K) (hu : X.A.units + 64 < cLine) : DOp W X (compareOp .NotEq) (eqG true) := .of (op_neD hu) fun Rs F H rr st x y dx dy Q E h kx ky hP => by
  unfold eqG at hP
  split at hP
  · rename_i p q e1 e2
    obtain ⟨a1, a2, a3⟩ := toP_ok h _ _ _ _ kx e1
    obtain ⟨b1, b2, b3⟩ := toP_ok h _ _ _ _ ky e2
    exact ⟨p, q, by rw [hK]; exact a1, by rw [hK]; exact b1, shaped_of a2 a3, shaped_of b2 b3, onE_here h (.bl _) hP⟩
  · exact hP.elim
def gtG : G2 := fun st d e => match d, e with
  | .int i, .int j => .ok (.bl (decide (j < i)), st)
  | _, _ => .bad
def geG : G2 := fun st d e => match d, e with
  | .int i, .int j => .ok (.bl (decide (j ≤ i)), st)
  | _, _ => .bad
def leG : G2 := fun st d e => match d, e with
  | .int i, .int j => .ok (.bl (decide (i ≤ j)), st)
  | .str a, .str b => .ok (.bl (!decide (b < a)), st)
  | _, _ => .bad
theorem dop_gt : DOp W X (compareOp .Gt) gtG := .of op_gt fun Rs F H rr st x y dx dy Q E h kx ky hP => by
  cases kx <;> cases ky <;> first | exact hP.elim | exact ⟨_, _, rfl, rfl, onE_here h (.bl _) hP⟩
theorem dop_ge : DOp W X (compareOp .GtE) geG := .of op_ge fun Rs F H rr st x y dx dy Q E h kx ky hP => by
  cases kx <;> cases ky <;> first | exact hP.elim | exact ⟨_, _, rfl, rfl, onE_here h (.bl _) hP⟩
theorem dop_le : DOp W X (compareOp .LtE) leG := .of (op_le.or op_le_str) fun Rs F H rr st x y dx dy Q E h kx ky hP => by
  cases kx <;> cases ky <;> first | exact hP.elim | exact .inl ⟨_, _, rfl, rfl, onE_here h (.bl _) hP⟩ | exact .inr ⟨_, _, rfl, rfl, onE_here h (.bl _) hP⟩
def isG (neg : Bool) : G2 := fun st d e => match d, e with
  | .bl a, .bl b => .ok (.bl (if neg = true then !decide (a = b) else decide (a = b)), st)
  | .non, .non => .ok (.bl (!neg), st)
  | _, .non => .ok (.bl neg, st)
  | _, _ => .bad
theorem dop_is : DOp W X (compareOp .Is) (isG false) := .of (op_isN.or op_isBl) fun Rs F H rr st x y dx dy Q E h kx ky hP => by
  cases kx <;> cases ky <;> first | exact hP.elim | exact .inl ⟨rfl, onE_here h (.bl _) hP⟩ | exact .inr ⟨_, _, rfl, rfl, onE_here h (.bl _) hP⟩
theorem dop_isnot : DOp W X (compareOp .IsNot) (isG true) := .of (op_notN.or op_notBl) fun Rs F H rr st x y dx dy Q E h kx ky hP => by
  cases kx <;> cases ky <;> first | exact hP.elim | exact .inl ⟨rfl, onE_here h (.bl _) hP⟩ | exact .inr ⟨_, _, rfl, rfl, onE_here h (.bl _) hP⟩
def addG (m : Bool) : G2 := fun st d e => match d, e with
  | .int i, .int j => .ok (.int (i + j), st)
  | .str a, .str b => if a.length + b.length ≤ LIM then .ok (.str (a ++ b), st) else .bad
  | .tup a, .tup b => if a.length + b.length ≤ LIM then .ok (.tup (a ++ b), st) else .bad
  | d, e => match lstOf st d, lstOf st e with
    | some a, some b => if a.length + b.length ≤ LIM then newL m (a ++ b) st else .bad
    | _, _ => .bad
theorem str_app (a b : List Nat) : ((⟨a.toArray⟩ : Str) ++ ⟨b.toArray⟩) = ⟨(a ++ b).toArray⟩ := TL.ext_tl (by rw [TL.tl_append])
theorem len_mk (a : List Nat) : (⟨a.toArray⟩ : Str).length = a.length := by simp [Str.length]
theorem rep_app {F : Hp} {r : List Addr} {a b : List Nat} (h1 : a.all (fun c => decide (c < 128)) = true) (h2 : b.all (fun c => decide (c < 128)) = true) (h : a.length + b.length ≤ LIM) : Rep F r (.str ((⟨a.toArray⟩ : Str) ++ ⟨b.toArray⟩)) (.str (a ++ b)) := by
  rw [str_app]
  exact .str _ (by rw [List.all_append, h1, h2]; rfl) (by simpa using h)
theorem dop_add (m : Bool) : DOp W X (binaryOp .Add) (addG m) := .of (op_add.or (op_add_str.or (op_catA.or op_cat))) fun Rs F H rr st x y dx dy Q E h kx ky hP => by
  have lists : (match lstOf st dx, lstOf st dy with
    | some a, some b => if a.length + b.length ≤ LIM then newL m (a ++ b) st else .bad
    | _, _ => (.bad : R (D × Store))) = addG m st dx dy → rCat x y H Q := fun eq => by
    rw [← eq] at hP
    split at hP
    · rename_i a b e1 e2
      by_cases hl : a.length + b.length ≤ LIM
      · rw [if_pos hl] at hP
        obtain ⟨p, vs, rfl, h1, k1⟩ := lstOf_ok h kx e1
        obtain ⟨q, ws, rfl, h2, k2⟩ := lstOf_ok h ky e2
        exact ⟨p, q, vs, ws, rfl, rfl, h1, h2, by rw [k1.length, k2.length]; exact lim_line hl, fun pp hp => newL_post h (Reps.append k1 k2) hP hp⟩
      · rw [if_neg hl] at hP; exact hP.elim
    · exact hP.elim
  cases kx with
  | int i =>
    cases ky with
    | int j => exact .inl ⟨_, _, rfl, rfl, onE_here h (.int _) hP⟩
    | _ => exact hP.elim
  | str a ha hal =>
    cases ky with
    | str b hb hbl =>
      refine .inr (.inl ⟨_, _, rfl, rfl, ?_⟩)
      by_cases hl : a.length + b.length ≤ LIM
      · unfold addG at hP
        simp only at hP
        rw [if_pos hl] at hP
        exact ⟨by rw [len_mk, len_mk]; exact lim_line hl, onE_here h (rep_app ha hb hl) hP⟩
      · unfold addG at hP
        simp only at hP
        rw [if_neg hl] at hP; exact hP.elim
    | _ => exact hP.elim
  | @tup p vs ds q1 k1 =>
    cases ky with
    | @tup p2 ws es q2 k2 =>
      refine .inr (.inr (.inl ?_))
      by_cases hl : ds.length + es.length ≤ LIM
      · unfold addG at hP
        simp only at hP
        rw [if_pos hl] at hP
        refine ⟨_, _, vs, ws, rfl, rfl, .of (h.sF _ _ q1), .of (h.sF _ _ q2), by rw [k1.length, k2.length]; exact lim_line hl, fun e => ?_, fun e1 e2 => ?_, fun e1 e2 pp hp => ?_⟩
        · subst e
          cases k1
          exact onE_here h (.tup q2 k2) hP
        · subst e2
          cases k2
          rw [List.append_nil] at hP
          exact onE_here h (.tup q1 k1) hP
        · exact tup_post h (Reps.append k1 k2) hP hp
      · unfold addG at hP
        simp only at hP
        rw [if_neg hl] at hP; exact hP.elim
    | _ => exact hP.elim
  | non => exact .inr (.inr (.inr (lists rfl)))
  | bl b => exact .inr (.inr (.inr (lists rfl)))
  | lst q k => exact .inr (.inr (.inr (lists rfl)))
  | ref q => exact .inr (.inr (.inr (lists rfl)))
  | scr q => exact .inr (.inr (.inr (lists rfl)))
  | exn0 => exact .inr (.inr (.inr (lists rfl)))
  | exn1 q => exact .inr (.inr (.inr (lists rfl)))
def subG : G2 := fun st d e => match d, e with
  | .int i, .int j => .ok (.int (i - j), st)
  | _, _ => .bad
theorem dop_sub : DOp W X (binaryOp .Sub) subG := .of op_sub fun Rs F H rr st x y dx dy Q E h kx ky hP => by
  cases kx <;> cases ky <;> first | exact hP.elim | exact ⟨_, _, rfl, rfl, onE_here h (.int _) hP⟩
def divG : G2 := fun st d e => match d, e with
  | .int i, .int j => if 0 < j ∧ j < 2 ^ 64 then .ok (.int (i / j), st) else .bad
  | _, _ => .bad
theorem dop_div : DOp W X (binaryOp .FloorDiv) divG := .of op_fdivW fun Rs F H rr st x y dx dy Q E h kx ky hP => by
  cases kx <;> cases ky <;> first | exact hP.elim | skip
  rename_i i j
  unfold divG at hP
  simp only at hP
  by_cases hl : 0 < j ∧ j < 2 ^ 64
  · rw [if_pos hl] at hP
    exact ⟨_, _, rfl, rfl, wide_div hl.1 (b := 64) (by omega) (by decide) (by decide), onE_here h (.int _) hP⟩
  · rw [if_neg hl] at hP; exact hP.elim
def modG : G2 := fun st d e => match d, e with
  | .int i, .int j => if 0 < j then .ok (.int (i % j), st) else .bad
  | _, _ => .bad
theorem dop_mod : DOp W X (binaryOp .Mod) modG := .of op_mod fun Rs F H rr st x y dx dy Q E h kx ky hP => by
  cases kx <;> cases ky <;> first | exact hP.elim | skip
  rename_i i j
  unfold modG at hP
  simp only at hP
  by_cases hl : 0 < j
  · rw [if_pos hl] at hP
    exact ⟨_, _, rfl, rfl, hl, onE_here h (.int _) hP⟩
  · rw [if_neg hl] at hP; exact hP.elim
/-- a text taken several times -/
def rMulS : R2 := fun x y H Q => ∃ z n, x = .str z ∧ y = .int n ∧ n ≤ 1000000 ∧ -1000000 ≤ n ∧ z.length * n.toNat ≤ 1000000 ∧ Q (.str ⟨(List.replicate n.toNat z.cps.toList).flatten.toArray⟩) H
theorem foldl_arr (a : Array Nat) : ∀ (k : Nat) (acc : Array Nat), (List.replicate k a).foldl (· ++ ·) acc = (acc.toList ++ (List.replicate k a.toList).flatten).toArray
  | 0, acc => by simp
  | k + 1, acc => by
    rw [List.replicate_succ, List.foldl_cons, foldl_arr a k, List.replicate_succ, List.flatten_cons]
    simp
theorem op_mulS : OpR X (binaryOp .Mult) rMulS := by
  intro pins s sg H x y v u Q I rx ry h
  obtain ⟨z, n, rfl, rfl, h1, h2, h3, q⟩ := h
  obtain ⟨t, rfl⟩ := rx
  obtain ⟨t', rfl⟩ := ry
  have fin : ∀ (w : Str) (u : Value) (s' : Shared), RelV (.str w) u → Inv X pins sg H s' → w = ⟨(List.replicate n.toNat z.cps.toList).flatten.toArray⟩ → EP X pins sg Q u s' := fun w u s' r I' e => ⟨.str w, H, I', r, by rw [e]; exact q⟩
  by_cases hn : n < 1
  · refine PySem.P.mul_str_none hn (by omega) (fin Str.empty _ _ ⟨_, rfl⟩ (I.tok _) ?_)
    have e : n.toNat = 0 := by omega
    rw [e]; rfl
  · refine PySem.P.mul_str ?_ ?_ ?_ ?_
    · rw [decide_eq_false (by omega), decide_eq_false (by omega)]; rfl
    · intro _ hb
      have hz : z.length ≤ 1000000 := by
        have : 1 ≤ n.toNat := by omega
        exact Nat.le_trans (Nat.le_mul_of_pos_right _ this) h3
      have : (1000000 : Int) ≤ (2 ^ 63 - 1 : Int) / n := by
        rw [Int.le_ediv_iff_mul_le (by omega)]
        omega
      omega
    · intro _ hb
      unfold Builtin.Str.tooLong
      have hs : (sizeLine : Nat) = 16777216 := sizeLine_eq
      simp only [decide_eq_false_iff_not]
      omega
    · rw [if_neg hn]
      by_cases hb : (n == 1 || z.length == 0) = true
      · rw [if_pos hb]
        refine fin z _ _ ⟨_, rfl⟩ I ?_
        rw [Bool.or_eq_true, beq_iff_eq, beq_iff_eq] at hb
        apply TL.ext_tl
        rw [TL.tl_mk]
        rcases hb with hb | hb
        · subst hb; simp [TL.tl]
        · have : z.cps.toList = [] := by
            have : z.cps.toList.length = 0 := by simpa [Str.length] using hb
            exact List.length_eq_zero_iff.mp this
          rw [this]; simp [TL.tl, this]
      · rw [if_neg hb]
        have e : (List.replicate n.toNat z.cps).foldl (· ++ ·) #[] = (List.replicate n.toNat z.cps.toList).flatten.toArray := by rw [foldl_arr]; simp
        refine ⟨?_, fin _ _ _ ⟨_, rfl⟩ (I.tok _) (by rw [e])⟩
        rw [e]
        show (List.replicate n.toNat z.cps.toList).flatten.toArray.size ≤ sizeLine
        have hs : (sizeLine : Nat) = 16777216 := sizeLine_eq
        rw [List.size_toArray, List.length_flatten, List.map_replicate, List.sum_replicate_nat]
        have : z.cps.toList.length = z.length := by simp [Str.length]
        rw [this, Nat.mul_comm]
        omega
def mulG (m : Bool) : G2 := fun st d e => match d, e with
  | .int i, .int j => if (-(2 ^ 64) < i ∧ i < 2 ^ 64) ∨ (-(2 ^ 64) < j ∧ j < 2 ^ 64) then .ok (.int (i * j), st) else .bad
  | .str s, .int n => if -1000000 ≤ n ∧ n ≤ 1000000 ∧ s.length * n.toNat ≤ LIM then .ok (.str (List.replicate n.toNat s).flatten, st) else .bad
  | .tup ds, .int n => if ds ≠ [] ∧ 2 ≤ n ∧ n ≤ 1000 ∧ ds.length ≤ 1000 then .ok (.tup (List.replicate n.toNat ds).flatten, st) else .bad
  | d, .int n => match lstOf st d with
    | some ds => if -1000000 ≤ n ∧ n ≤ 1000000 ∧ ds.length * n.toNat ≤ LIM then newL m (List.replicate n.toNat ds).flatten st else .bad
    | none => .bad
  | _, _ => .bad
theorem all_rep {s : List Nat} {p : Nat → Bool} (h : s.all p = true) : ∀ k : Nat, (List.replicate k s).flatten.all p = true
  | 0 => rfl
  | k + 1 => by rw [List.replicate_succ, List.flatten_cons, List.all_append, h, all_rep h k]; rfl
theorem len_rep {A : Type} (s : List A) (k : Nat) : (List.replicate k s).flatten.length = s.length * k := by
  rw [List.length_flatten, List.map_replicate, List.sum_replicate_nat, Nat.mul_comm]
theorem dop_mul (m : Bool) : DOp W X (binaryOp .Mult) (mulG m) := .of (op_mul.or (op_mulS.or (op_repT.or op_rep))) fun Rs F H rr st x y dx dy Q E h kx ky hP => by
  have lists : ∀ n, y = .int n → (match lstOf st dx with
    | some ds => if -1000000 ≤ n ∧ n ≤ 1000000 ∧ ds.length * n.toNat ≤ LIM then newL m (List.replicate n.toNat ds).flatten st else .bad
    | none => (.bad : R (D × Store))) = mulG m st dx dy → rRep x y H Q := fun n ey eq => by
    rw [← eq] at hP
    split at hP
    · rename_i a e1
      by_cases hl : -1000000 ≤ n ∧ n ≤ 1000000 ∧ a.length * n.toNat ≤ LIM
      · rw [if_pos hl] at hP
        obtain ⟨p, vs, rfl, h1, k1⟩ := lstOf_ok h kx e1
        exact ⟨p, n, vs, rfl, ey, h1, by omega, by omega, by rw [k1.length]; exact lim_line hl.2.2, fun pp hp => newL_post h (Reps.flat k1 _) hP hp⟩
      · rw [if_neg hl] at hP; exact hP.elim
    · exact hP.elim
  cases ky with
  | int n =>
    cases kx with
    | int i =>
      unfold mulG at hP
      simp only at hP
      split at hP
      · rename_i hc
        exact .inl ⟨_, _, rfl, rfl, hc, onE_here h (.int _) hP⟩
      · exact hP.elim
    | str a ha hal =>
      unfold mulG at hP
      simp only at hP
      split at hP
      · rename_i hc
        refine .inr (.inl ⟨_, _, rfl, rfl, hc.2.1, hc.1, by rw [len_mk]; exact hc.2.2, ?_⟩)
        refine onE_here h ?_ hP
        exact .str _ (all_rep ha _) (by rw [len_rep]; exact hc.2.2)
      · exact hP.elim
    | @tup p vs ds q1 k1 =>
      unfold mulG at hP
      simp only at hP
      split at hP
      · rename_i hc
        refine .inr (.inr (.inl ⟨_, _, vs, rfl, rfl, .of (h.sF _ _ q1), fun e => hc.1 ?_, hc.2.1, hc.2.2.1, by rw [k1.length]; exact hc.2.2.2, fun pp hp => tup_post h (Reps.flat k1 _) hP hp⟩))
        subst e; cases k1; rfl
      · exact hP.elim
    | non => exact .inr (.inr (.inr (lists _ rfl rfl)))
    | bl b => exact .inr (.inr (.inr (lists _ rfl rfl)))
    | lst q k => exact .inr (.inr (.inr (lists _ rfl rfl)))
    | ref q => exact .inr (.inr (.inr (lists _ rfl rfl)))
    | scr q => exact .inr (.inr (.inr (lists _ rfl rfl)))
    | exn0 => exact .inr (.inr (.inr (lists _ rfl rfl)))
    | exn1 q => exact .inr (.inr (.inr (lists _ rfl rfl)))
  | _ => cases kx <;> exact hP.elim
theorem str_beq (a b : List Nat) : ((⟨a.toArray⟩ : Str) == ⟨b.toArray⟩) = (a == b) := by
  by_cases e : a = b
  · subst e; simp
  · rw [beq_eq_false_iff_ne.mpr e, beq_eq_false_iff_ne]
    intro q
    apply e
    have := congrArg (fun (x : Str) => x.cps.toList) q
    simpa using this
end
end Dl
namespace Dl
open PySem L2
section
variable {W : Wd} {X : Cx} {E : XK} {Rs F F1 H : Hp} {r r1 : List Addr}
def sOf {A : Type} (res : R A) (k : A → SR) : SR := match res with
  | .ok a => k a
  | .exc c p st => .exc c p st
  | .bad => .bad
@[simp] theorem sOf_ok {A : Type} (a : A) (k : A → SR) : sOf (R.ok a) k = k a := rfl
@[simp] theorem sOf_exc {A : Type} (c : Nat) (p : Option D) (st : Store) (k : A → SR) : sOf (R.exc c p st : R A) k = .exc c p st := rfl
@[simp] theorem sOf_bad {A : Type} (k : A → SR) : sOf (R.bad : R A) k = .bad := rfl
theorem bindS {A : Type} {res : R A} {k : A → SR} {D : Ends} {K' : A → Prop} (h : PostS W Rs F r (sOf res k) D E) (q : ∀ a, res = .ok a → PostS W Rs F r (k a) D E → K' a) : PostX W Rs F r res K' E := by
  cases res with
  | ok a => exact q a rfl h
  | exc c p st' => exact h
  | bad => exact h
def sNext : SV := fun env st => .nx env st
def sCons (f g : SV) : SV := fun env st => match f env st with
  | .nx e s => g e s
  | .rt d s => .rt d s
  | .bk e s => .bk e s
  | .ct e s => .ct e s
  | .exc c p s => .exc c p s
  | .bad => .bad
def sExpr (f : EV) : SV := fun env st => sOf (f env st) fun a => .nx env a.2
def sRet (f : EV) : SV := fun env st => sOf (f env st) fun a => .rt a.1 a.2
def sIf (t : TV) (f g : SV) : SV := fun env st => sOf (t env st) fun a => if a.1 = true then f env a.2 else g env a.2
def sBad : SV := fun _ _ => .bad
theorem PostF.here {env : Env} {st : Store} {N : St → Hp → Prop} {sg : St} (h : Holds W Rs F H r st) (k : EnvOk F r sg env) (q : PostF W Rs F r env st N) : N sg H := q F H r sg (Same.refl _) (Ext.refl _) h k
variable {st : Stmt} {rest : List Stmt} {f g : SV} {e : Expr} {fe : EV} {pos : Pos}
theorem db_nil : DB W X E [] sNext := .mk pss_nil fun Rs F H r sg env st D hH hE hP => PostF.here hH hE hP
theorem db_one (h : DS W X E st f) : DB W X E [st] f := let ⟨t, p, q⟩ := h.ex; .mk (pss_one p) q
theorem db_cons (h1 : DS W X E st f) (h2 : DB W X E rest g) : DB W X E (st :: rest) (sCons f g) := by
  obtain ⟨t, p, q⟩ := h1.ex
  obtain ⟨t2, p2, q2⟩ := h2.ex
  refine .mk (pss_cons p p2) fun Rs F H r sg env st D hH hE hP => ?_
  refine q Rs F H r sg env st _ hH hE ?_
  unfold sCons at hP
  cases ef : f env st with
  | nx e1 s1 =>
    rw [ef] at hP
    exact fun F' H' r' sg' s x h k => q2 Rs F' H' r' sg' e1 s1 D h k (PostS.later s x hP)
  | rt d s1 => rw [ef] at hP; exact hP
  | bk e1 s1 => rw [ef] at hP; exact hP
  | ct e1 s1 => rw [ef] at hP; exact hP
  | exc c p s1 => rw [ef] at hP; exact hP
  | bad => rw [ef] at hP; exact hP
theorem ds_bad : DS W X E st sBad := .mk ps_never fun Rs F H r sg env st D hH hE hP => hP
theorem ds_expr (h : DE W X E e fe) (hs : swapsWith e none pos.line X.env = pure false := by rfl) : DS W X E (.Expr e pos) (sExpr fe) := by
  obtain ⟨t, p, q⟩ := h.ex
  refine .mk (ps_expr p hs) fun Rs F H r sg env st D hH hE hP => ?_
  exact q Rs F H r sg env st _ hH hE (bindS hP fun a ea k F1 H1 r1 v1 s1 x1 h1 k1 => k F1 H1 r1 sg s1 x1 h1 (hE.mono s1 x1))
theorem ds_ret (h : DE W X E e fe) : DS W X E (.Return (some e) pos) (sRet fe) := by
  obtain ⟨t, p, q⟩ := h.ex
  refine .mk (ps_ret p) fun Rs F H r sg env st D hH hE hP => ?_
  exact q Rs F H r sg env st _ hH hE (bindS hP fun a ea k F1 H1 r1 v1 s1 x1 h1 k1 => k F1 H1 r1 v1 s1 x1 h1 k1)
theorem ds_if {c : Expr} {a b : List Stmt} {tc : TV} (hc : DT W X E c tc) (ha : DB W X E a f) (hb : DB W X E b g) : DS W X E (.If c a b pos) (sIf tc f g) := by
  obtain ⟨t, p, q⟩ := hc.ex
  obtain ⟨t1, p1, q1⟩ := ha.ex
  obtain ⟨t2, p2, q2⟩ := hb.ex
  refine .mk (ps_if p p1 p2) fun Rs F H r sg env st D hH hE hP => ?_
  refine q Rs F H r sg env st _ hH hE (bindS hP fun a ea k F1 H1 r1 s1 x1 h1 => ?_)
  obtain ⟨c, st1⟩ := a
  cases c with
  | true => exact q1 Rs F1 H1 r1 sg env st1 D h1 (hE.mono s1 x1) (PostS.later s1 x1 k)
  | false => exact q2 Rs F1 H1 r1 sg env st1 D h1 (hE.mono s1 x1) (PostS.later s1 x1 k)
abbrev GV := D → Env → Store → R (Env × Store)
def DG (W : Wd) (X : Cx) (E : XK) (tg : Expr) (g : GV) : Prop := ∃ t, PG X tg t ∧ ∀ Rs F H r sg env st v d N, Holds W Rs F H r st → EnvOk F r sg env → Rep F r v d → PostX W Rs F r (g d env st) (fun a => PostF W Rs F r a.1 a.2 N) E → t v sg H N
abbrev GVs := List D → Env → Store → R (Env × Store)
def DGs (W : Wd) (X : Cx) (E : XK) (tg : List Expr) (g : GVs) : Prop := ∃ t, PGs X tg t ∧ ∀ Rs F H r sg env st vs ds N, Holds W Rs F H r st → EnvOk F r sg env → Reps F r vs ds → PostX W Rs F r (g ds env st) (fun a => PostF W Rs F r a.1 a.2 N) E → t vs sg H N
def gN (i : Nat) : GV := fun d env st => .ok (env.set i (some d), st)
theorem dg_name {i : Nat} {x : Str} {pos : Pos} (hN : X.N.Nodup) (hi : X.N[i]? = some x) (hx : Loc X.env.scope x) (hf : X.fn x = true ∨ X.env.scope.names.lookup x = some .local := by first | exact .inl rfl | exact .inr rfl | assumption) : DG W X E (.Name x pos) (gN i) :=
  ⟨_, pg_name hN hi hx hf, fun Rs F H r sg env st v d N hH hE k hP => PostF.here hH (hE.set k i) hP⟩
def gsNil : GVs := fun ds env st => match ds with
  | [] => .ok (env, st)
  | _ => .bad
def gsCons (g : GV) (h : GVs) : GVs := fun ds env st => match ds with
  | d :: ds => (g d env st).bind fun a => h ds a.1 a.2
  | [] => .bad
theorem dgs_nil : DGs W X E [] gsNil := ⟨_, pgs_nil, fun Rs F H r sg env st vs ds N hH hE k hP => by
  cases k with
  | nil => exact ⟨rfl, PostF.here hH hE hP⟩
  | cons _ _ => exact hP.elim⟩
theorem dgs_cons {tg : Expr} {tgs : List Expr} {g : GV} {h : GVs} (h1 : DG W X E tg g) (h2 : DGs W X E tgs h)
    (hs : (assignEach (tg :: tgs) X.env).map (·.2) = assign tg X.env :: (assignEach tgs X.env).map (·.2) := by rfl) : DGs W X E (tg :: tgs) (gsCons g h) := by
  obtain ⟨t, p, q⟩ := h1
  obtain ⟨t2, p2, q2⟩ := h2
  refine ⟨_, pgs_cons p p2 hs, fun Rs F H r sg env st vs ds N hH hE k hP => ?_⟩
  cases k with
  | nil => exact hP.elim
  | @cons v vs d ds k1 k2 =>
    refine ⟨v, vs, rfl, q Rs F H r sg env st v d _ hH hE k1 (bindX hP fun a ea z F1 H1 r1 sg1 s1 x1 h1 e1 => ?_)⟩
    exact q2 Rs F1 H1 r1 sg1 a.1 a.2 vs ds N h1 e1 (k2.mono s1 x1) (PostX.imp s1 x1 z fun _ y => PostF.later s1 x1 y)
/-- (a, b, ..) = a tuple -/
def gTp (n : Nat) (h : GVs) : GV := fun d env st => match d with
  | .tup ds => if ds.length = n then h ds env st else .bad
  | _ => .bad
theorem dg_tup {es : List Expr} {k n : Nat} {h : GVs} {pos : Pos} (hc : X.calm = true) (hh : DGs W X E es h)
    (hn : (assignEach es X.env).length = n := by rfl) (hst : (assignEach es X.env).findIdx? (·.1) = none := by rfl) : DG W X E (.Tuple es k pos) (gTp n h) := by
  obtain ⟨t, p, q⟩ := hh
  refine ⟨_, pg_tup hc p hn hst, fun Rs F H r sg env st v d N hH hE k hP => ?_⟩
  cases d with
  | tup ds =>
    unfold gTp at hP
    simp only at hP
    split at hP
    · rename_i hl
      cases k with
      | @tup a vs _ e k1 => exact ⟨a, vs, rfl, .of (hH.sF _ _ e), by rw [k1.length, hl], q Rs F H r sg env st vs ds N hH hE k1 hP⟩
    · exact hP.elim
  | _ => exact hP.elim
/-- o[i] = e, by values -/
abbrev SetV := Store → D → D → D → Option Store
def DSet (W : Wd) (X : Cx) (g : SetV) : Prop := ∃ t, PSet X t ∧ ∀ Rs F H r st o i v dO di dv N, Holds W Rs F H r st → Rep F r o dO → Rep F r i di → Rep F r v dv →
  ∀ st', g st dO di dv = some st' → (∀ H', Holds W Rs F H' r st' → N H') → t o i v H N
def gSb (fo fi : EV) (g : SetV) : GV := fun d env st => (fo env st).bind fun a => (fi env a.2).bind fun b => match g b.2 a.1 b.1 d with
  | some st' => .ok (env, st')
  | none => .bad
theorem dg_sub {o i : Expr} {fo fi : EV} {g : SetV} {pos : Pos} (ho : DE W X E o fo) (hi : DE W X E i fi) (hs : DSet W X g)
    (ha : ∀ v, assign (.Subscript o i pos) X.env v = (do
      let ov ← holding [v] (eval o X.env)
      let iv ← holding [v, ov] (eval i X.env)
      standAt pos
      holding [v, ov, iv] (setItem ov iv v)
      release [v, ov, iv] []) := by intro _; rfl) : DG W X E (.Subscript o i pos) (gSb fo fi g) := by
  obtain ⟨to, po, qo⟩ := ho.ex
  obtain ⟨ti, pi, qi⟩ := hi.ex
  obtain ⟨ts, ps, qs⟩ := hs
  refine ⟨_, pg_sub po pi ps ha, fun Rs F H r sg env st v d N hH hE k hP => ?_⟩
  refine qo Rs F H r sg env st _ hH hE (bindX hP fun a ea z F1 H1 r1 v1 s1 x1 h1 k1 => ?_)
  refine qi Rs F1 H1 r1 sg env a.2 _ h1 (hE.mono s1 x1) (bindX (PostX.imp s1 x1 z fun _ y => PostF.later s1 x1 y) fun b eb z2 F2 H2 r2 v2 s2 x2 h2 k2 => ?_)
  cases e : g b.2 a.1 b.1 d with
  | none => rw [e] at z2; exact z2.elim
  | some st' =>
    rw [e] at z2
    exact qs Rs F2 H2 r2 b.2 v1 v2 v a.1 b.1 d _ h2 (k1.mono s2 x2) k2 (k.mono (s1.trans s2) (x1.trans x2)) st' e fun H' h' => z2 F2 H' r2 sg s2 x2 h' (hE.mono (s1.trans s2) (x1.trans x2))
def setLG : SetV := fun st o i v => match o, i with
  | .ref n, .int k => match st[n]? with
    | some (.lst ds) => match ixN ds.length k with
      | some j => some (st.set n (.lst (ds.set j v)))
      | none => none
    | _ => none
  | _, _ => none
theorem dset_list : DSet W X setLG := ⟨_, set_list, fun Rs F H r st o i v dO di dv N hH ko ki kv st' e hN => by
  cases ko with
  | @ref a n q =>
    cases ki with
    | int k =>
      unfold setLG at e
      simp only at e
      split at e
      · rename_i ds e1
        split at e
        · rename_i j e2
          cases e
          obtain ⟨vs, h1, k1⟩ := hH.ob n a _ q e1
          refine ⟨a, vs, k, j, rfl, rfl, h1, by rw [k1.length]; exact e2, hN _ (hH.write q ⟨_, upd_same, Reps.set kv j k1⟩)⟩
        · cases e
      · cases e
    | _ => cases e
  | _ => cases e⟩
def sAsg (f : EV) (g : GV) : SV := fun env st => sOf (f env st) fun a => sOf (g a.1 env a.2) fun b => .nx b.1 b.2
theorem sAsg_post {te : TE} {tg : TG} {f : EV} {g : GV} (q : ∀ Rs F H r sg env st Q, Holds W Rs F H r st → EnvOk F r sg env → Post W Rs F r (f env st) Q E → te sg H Q)
    (qg : ∀ Rs F H r sg env st v d N, Holds W Rs F H r st → EnvOk F r sg env → Rep F r v d → PostX W Rs F r (g d env st) (fun a => PostF W Rs F r a.1 a.2 N) E → tg v sg H N)
    {Rs F H r sg env st D} (hH : Holds W Rs F H r st) (hE : EnvOk F r sg env) (hP : PostS W Rs F r (sAsg f g env st) D E) : tAsg te tg D sg H := by
  refine q Rs F H r sg env st _ hH hE (bindS hP fun a ea z F1 H1 r1 v1 s1 x1 h1 k1 => ?_)
  refine qg Rs F1 H1 r1 sg env a.2 v1 a.1 D.nx h1 (hE.mono s1 x1) k1 (bindS (D := D) (PostS.later s1 x1 z) fun b eb z2 => z2)
theorem ds_asg {tg e : Expr} {f : EV} {g : GV} (he : DE W X E e f) (hg : DG W X E tg g) (hs : swapsWithSole [tg] e pos.line X.env = pure false := by rfl) (hw : swappedStores [tg] e X.env = pure none := by rfl)
    (h1 : (assignEach [tg] X.env).map (·.2) = [assign tg X.env] := by rfl) : DS W X E (.Assign [tg] e pos) (sAsg f g) := by
  obtain ⟨t, p, q⟩ := he.ex
  obtain ⟨tg, pg, qg⟩ := hg
  exact .mk (ps_asg p pg hs hw h1) fun Rs F H r sg env st D hH hE hP => sAsg_post q qg hH hE hP
theorem gN_ok {i : Nat} : ∀ Rs F H r sg env st v d N, Holds W Rs F H r st → EnvOk F r sg env → Rep F r v d → PostX W Rs F r (gN i d env st) (fun a => PostF W Rs F r a.1 a.2 N) E → gName i v sg H N :=
  fun Rs F H r sg env st v d N hH hE k hP => PostF.here hH (hE.set k i) hP
theorem ds_set {i : Nat} {x : Str} {e : Expr} {f : EV} {pos' : Pos} (hN : X.N.Nodup) (hi : X.N[i]? = some x) (hx : Loc X.env.scope x) (he : DE W X E e f) (hs : swapsWith e (some (.Name x pos')) pos.line X.env = pure false := by rfl) (hf : X.fn x = true ∨ X.env.scope.names.lookup x = some .local := by first | exact .inl rfl | exact .inr rfl | assumption) :
    DS W X E (.Assign [.Name x pos'] e pos) (sAsg f (gN i)) := by
  obtain ⟨t, p, q⟩ := he.ex
  exact .mk (ps_set hN hi hx p hs hf) fun Rs F H r sg env st D hH hE hP => sAsg_post q gN_ok hH hE hP
/-- a, b = x, y by swapped stores -/
def sPar (i j : Nat) (f : AV) : SV := fun env st => sOf (f env st) fun a => match a.1 with
  | [d, e] => .nx ((env.set i (some d)).set j (some e)) a.2
  | _ => .bad
theorem ds_par {i j : Nat} {x y : Str} {a b : Expr} {fa : AV} {px py pt : Pos} {kt k2 pt2} (hc : X.calm = true) (hN : X.N.Nodup) (hi : X.N[i]? = some x) (hj : X.N[j]? = some y) (hij : i ≠ j)
    (hx : X.env.scope.names.lookup x = some .local) (hy : X.env.scope.names.lookup y = some .local) (ha : DA W X E [a, b] fa)
    (hw : swappedStores [.Tuple [.Name x px, .Name y py] kt pt] (.Tuple [a, b] k2 pt2) X.env = pure (some [x, y]))
    (hs : swapsWithSole [.Tuple [.Name x px, .Name y py] kt pt] (.Tuple [a, b] k2 pt2) pos.line X.env = pure false := by rfl) :
    DS W X E (.Assign [.Tuple [.Name x px, .Name y py] kt pt] (.Tuple [a, b] k2 pt2) pos) (sPar i j fa) := by
  obtain ⟨t, p, q⟩ := ha.ex
  refine .mk (ps_par hc hN hi hj hij hx hy p hw hs) fun Rs F H r sg env st D hH hE hP => ?_
  refine q Rs F H r sg env st _ hH hE (bindS hP fun a ea z F1 H1 r1 vs s1 x1 h1 k1 => ?_)
  obtain ⟨ds, st1⟩ := a
  cases k1 with
  | nil => exact z.elim
  | cons k1 k2 =>
    cases k2 with
    | nil => exact z.elim
    | cons k2 k3 =>
      cases k3 with
      | nil => exact ⟨_, _, rfl, z F1 H1 r1 _ s1 x1 h1 (((hE.mono s1 x1).set k1 i).set k2 j)⟩
      | cons _ _ => exact z.elim
def sPar3 (i j l : Nat) (f : AV) : SV := fun env st => sOf (f env st) fun a => match a.1 with
  | [d, e, c] => .nx (((env.set i (some d)).set j (some e)).set l (some c)) a.2
  | _ => .bad
def still (sub : List (Nat × List D)) (st : Store) : Bool := sub.all fun p => match st[p.1]? with
  | some (.lst ds) => D.beqs ds p.2
  | _ => false
theorem still_at {sub : List (Nat × List D)} {st : Store} (h : still sub st = true) {n : Nat} {ds : List D} (m : (n, ds) ∈ sub) : st[n]? = some (.lst ds) := by
  unfold still at h
  have q := List.all_eq_true.mp h (n, ds) m
  simp only at q
  split at q
  · rename_i es e
    rw [e, D.eqs_of_beqs _ _ q]
  · cases q
@[simp] theorem still_nil (st : Store) : still [] st = true := rfl
theorem still_one {n : Nat} {ds : List D} {st : Store} (h : st[n]? = some (.lst ds)) : still [(n, ds)] st = true := by
  unfold still
  simp [h, D.beqs_refl]
abbrev Wk := List D × List (Nat × List D)
abbrev IV := Env → Store → R (Wk × Store)
def Drv (W : Wd) (F0 : Hp) (r0 : List Addr) (J : It) (w : Wk) : Prop := ∀ (i : Nat) Rs F H r st, Same F0 F → Ext r0 r → Holds W Rs F H r st → still w.2 st = true →
  (∀ d, w.1[i]? = some d → J.go i H ∧ ∀ x H', J.yld i H x H' → ∃ F', Same F F' ∧ Holds W Rs F' H' r st ∧ Rep F' r x d) ∧ (w.1.length ≤ i → J.stop i H)
def DI (W : Wd) (X : Cx) (E : XK) (tg iter : Expr) (f : IV) : Prop := ∃ wi, PI X tg iter wi ∧ ∀ Rs F H r sg env st (Q : It → Hp → Prop), Holds W Rs F H r st → EnvOk F r sg env →
  PostX W Rs F r (f env st) (fun a => ∀ J F' H' r', Same F F' → Ext r r' → Holds W Rs F' H' r' a.2 → Drv W F' r' J a.1 → Q J H') E → wi sg H Q
def forGo (sub : List (Nat × List D)) (g : GV) (b : SV) : List D → Env → Store → SR
  | [], env, st => if still sub st = true then .nx env st else .bad
  | d :: ds, env, st => if still sub st = true then sOf (g d env st) fun a => (match b a.1 a.2 with
      | .nx e s => forGo sub g b ds e s
      | .ct e s => forGo sub g b ds e s
      | .bk e s => .nx e s
      | .rt d s => .rt d s
      | .exc c p s => .exc c p s
      | .bad => .bad) else .bad
def sFor (it : IV) (g : GV) (b : SV) : SV := fun env st => sOf (it env st) fun a => forGo a.1.2 g b a.1.1 env a.2
theorem ds_for {tg iter : Expr} {body : List Stmt} {it : IV} {g : GV} {tb : SV} (hp : PassesOwn (model X.prog X.w) X.A X.env X.xe) (hc : X.calm = true) (hi : DI W X E tg iter it) (hg : DG W X E tg g) (hb : DB W X E body tb)
    (hs : ∀ x, foldedSetIterable iter X.env x = pure x := by intro _; rfl) : DS W X E (.For tg iter body [] pos) (sFor it g tb) := by
  obtain ⟨wi, p, q⟩ := hi
  obtain ⟨t, pg, qg⟩ := hg
  obtain ⟨t1, p1, q1⟩ := hb.ex
  refine .mk (ps_for hp hc p pg p1 hs) fun Rs F H r sg env st D hH hE hP => ?_
  refine q Rs F H r sg env st _ hH hE (bindS hP fun a ea z J F0 H0 r0 s0 x0 h0 drv => ?_)
  obtain ⟨⟨items, sub⟩, st0⟩ := a
  refine ⟨fun i m sg' H' => m = items.length - i ∧ i ≤ items.length ∧ ∃ F' r' env' st', Same F0 F' ∧ Ext r0 r' ∧ Holds W Rs F' H' r' st' ∧ EnvOk F' r' sg' env' ∧ PostS W Rs F' r' (forGo sub g tb (items.drop i) env' st') D E,
    ⟨items.length, by simp, Nat.zero_le _, F0, r0, env, st0, Same.refl _, Ext.refl _, h0, hE.mono s0 x0, PostS.later s0 x0 z⟩, ?_⟩
  rintro i m sg H ⟨rfl, hi, F, r, env, st, s, x, hH, hE, hP⟩
  by_cases hl : i < items.length
  · rw [List.drop_eq_getElem_cons hl] at hP
    unfold forGo at hP
    by_cases hst : still sub st = true
    · rw [if_pos hst] at hP
      obtain ⟨d1, _⟩ := drv i Rs F H r st s x hH hst
      obtain ⟨go, yld⟩ := d1 items[i] (by simp [hl])
      refine .inr ⟨go, fun sg' H' => i + 1 ≤ items.length ∧ ∃ F' r' env' st', Same F0 F' ∧ Ext r0 r' ∧ Holds W Rs F' H' r' st' ∧ EnvOk F' r' sg' env' ∧ PostS W Rs F' r' (forGo sub g tb (items.drop (i + 1)) env' st') D E,
        fun sg' H' z => ⟨items.length - (i + 1), by omega, rfl, z⟩, fun v H1 y => ?_⟩
      obtain ⟨F1, s1, h1, k1⟩ := yld v H1 y
      have hP1 := PostS.later s1 (Ext.refl r) hP
      refine qg Rs F1 H1 r sg env st v items[i] _ h1 (hE.mono s1 (Ext.refl _)) k1 (bindS hP1 fun b eb z2 F2 H2 r2 sg2 s2 x2 h2 k2 => ?_)
      refine q1 Rs F2 H2 r2 sg2 b.1 b.2 _ h2 k2 ?_
      replace z2 := PostS.later s2 x2 z2
      cases ebb : tb b.1 b.2 with
      | nx e s' => rw [ebb] at z2; exact fun F3 H3 r3 sg3 s3 x3 h3 k3 => ⟨hl, F3, r3, e, s', ((s.trans s1).trans s2).trans s3, (x.trans x2).trans x3, h3, k3, PostS.later s3 x3 z2⟩
      | ct e s' => rw [ebb] at z2; exact fun F3 H3 r3 sg3 s3 x3 h3 k3 => ⟨hl, F3, r3, e, s', ((s.trans s1).trans s2).trans s3, (x.trans x2).trans x3, h3, k3, PostS.later s3 x3 z2⟩
      | bk e s' => rw [ebb] at z2; exact z2
      | rt d s' => rw [ebb] at z2; exact z2
      | exc c p s' => rw [ebb] at z2; exact z2
      | bad => rw [ebb] at z2; exact z2
    · rw [if_neg hst] at hP; exact hP.elim
  · have e : items.drop i = [] := List.drop_eq_nil_of_le (by omega)
    rw [e] at hP
    unfold forGo at hP
    by_cases hst : still sub st = true
    · rw [if_pos hst] at hP
      obtain ⟨_, d2⟩ := drv i Rs F H r st s x hH hst
      exact .inl ⟨d2 (by simpa using hl), PostF.here hH hE hP⟩
    · rw [if_neg hst] at hP; exact hP.elim
theorem drv_list {K : PySem.W.Frag} {F0 : Hp} {r0 : List Addr} {a : Addr} {w : Wk} (h : ∀ Rs F H r st, Same F0 F → Ext r0 r → Holds W Rs F H r st → still w.2 st = true → ∃ vs, SqL K H a vs ∧ Reps F r vs w.1) : Drv W F0 r0 (Itl K a) w := fun i Rs F H r st s x hH hst => by
  obtain ⟨vs, h1, k1⟩ := h Rs F H r st s x hH hst
  refine ⟨fun d e => ?_, fun hl => ⟨vs, h1, by rw [k1.length]; exact hl⟩⟩
  obtain ⟨v, e1, k⟩ := k1.get e
  refine ⟨⟨vs, v, h1, e1⟩, fun y H' yl => ?_⟩
  obtain ⟨e2, yl⟩ := yl
  subst e2
  have := yl vs h1
  rw [e1] at this; cases this
  exact ⟨F, Same.refl _, hH, k⟩
theorem drv_tup {K : PySem.W.Frag} {F0 : Hp} {r0 : List Addr} {a : Addr} {w : Wk} {vs : List V} (h : F0 a = some (.tup vs)) (k1 : Reps F0 r0 vs w.1) : Drv W F0 r0 (Itt K a) w := fun i Rs F H r st s x hH hst => by
  have h1 : SqT K H a vs := .of (hH.sF _ _ (s _ _ h))
  replace k1 := k1.mono s x
  refine ⟨fun d e => ?_, fun hl => ⟨vs, h1, by rw [k1.length]; exact hl⟩⟩
  obtain ⟨v, e1, k⟩ := k1.get e
  refine ⟨⟨vs, v, h1, e1⟩, fun y H' yl => ?_⟩
  obtain ⟨e2, yl⟩ := yl
  subst e2
  have := yl vs h1
  rw [e1] at this; cases this
  exact ⟨F, Same.refl _, hH, k⟩
theorem drv_str {F0 : Hp} {r0 : List Addr} {s : List Nat} {w : Wk} (hw : w.1 = s.map fun c => D.str [c]) (ha : s.all (fun c => decide (c < 128)) = true) : Drv W F0 r0 (Its ⟨s.toArray⟩) w := fun i Rs F H r st ss x hH hst => by
  refine ⟨fun d e => ?_, fun hl => by show s.toArray.size ≤ i; rw [hw, List.length_map] at hl; simpa using hl⟩
  rw [hw, List.getElem?_map] at e
  cases q : s[i]? with
  | none => rw [q] at e; cases e
  | some c =>
    rw [q] at e; cases e
    refine ⟨by show i < s.toArray.size; simpa using (List.getElem?_eq_some_iff.mp q).1, fun y H' yl => ?_⟩
    obtain ⟨e2, c', e3, e4⟩ := yl
    have e3' : s[i]? = some c' := by simpa using e3
    rw [q] at e3'; cases e3'
    subst e2 e4
    have hc := List.all_eq_true.mp ha c (List.mem_of_getElem? q)
    exact ⟨F, Same.refl _, hH, .str [c] (by simpa using hc) (by simp [LIM])⟩
def itemsOf (st : Store) : D → Option Wk
  | .lst ds => some (ds, [])
  | .tup ds => some (ds, [])
  | .str s => some (s.map fun c => D.str [c], [])
  | .scr ns => some (ns.map D.int, [])
  | .ref n => match st[n]? with
    | some (.lst ds) => some (ds, [(n, ds)])
    | _ => none
  | _ => none
def iSeq (f : EV) : IV := fun env st => (f env st).bind fun a => match itemsOf a.2 a.1 with
  | some w => .ok (w, a.2)
  | none => .bad
theorem reps_ints {F : Hp} {r : List Addr} : ∀ ns : List Int, Reps F r (ns.map V.int) (ns.map D.int)
  | [] => .nil
  | n :: ns => .cons (.int n) (reps_ints ns)
theorem pi_or {tg iter : Expr} {wi wi' : TI} (h : PI X tg iter wi) (h' : PI X tg iter wi') : PI X tg iter (fun sg H Q => wi sg H Q ∨ wi' sg H Q) :=
  ⟨fun pins s sg H Q I q => q.elim (h.run pins s sg H Q I) (h'.run pins s sg H Q I)⟩
theorem di_seq {tg e : Expr} {f : EV} (he : DE W X E e f) : DI W X E tg e (iSeq f) := by
  obtain ⟨t, p, q⟩ := he.ex
  refine ⟨_, pi_or (pi_list p) (pi_or (pi_tup p) (pi_str p)), fun Rs F H r sg env st Q hH hE hP => ?_⟩
  -- which one it is, by what the data are
  have lists : (∀ a, f env st = .ok a → ∀ w, itemsOf a.2 a.1 = some w → (∀ ds, a.1 ≠ .tup ds) ∧ (∀ s, a.1 ≠ .str s)) → iList X.K t sg H Q := fun hk => by
    refine q Rs F H r sg env st _ hH hE (bindX hP fun a ea z F1 H1 r1 v1 s1 x1 h1 k1 => ?_)
    cases ew : itemsOf a.2 a.1 with
    | none => rw [ew] at z; exact z.elim
    | some w =>
      rw [ew] at z
      obtain ⟨n1, n2⟩ := hk a ea w ew
      obtain ⟨d, st1⟩ := a
      have fin : ∀ p vs, v1 = .ref p → SqL X.K H1 p vs → Drv W F1 r1 (Itl X.K p) w → ∃ a, v1 = .ref a ∧ (∃ xs, SqL X.K H1 a xs) ∧ Q (Itl X.K a) H1 := fun p vs e h dr => ⟨p, e, ⟨vs, h⟩, z _ F1 H1 r1 s1 x1 h1 dr⟩
      cases k1 with
      | tup _ _ => exact absurd rfl (n1 _)
      | str _ _ _ => exact absurd rfl (n2 _)
      | lst e k => cases ew; exact fin _ _ rfl (.of (h1.sF _ _ e)) (drv_list fun Rs F H r st s x hH _ => ⟨_, .of (hH.sF _ _ (s _ _ e)), k.mono s x⟩)
      | @scr a ns e => cases ew; exact fin _ _ rfl (e.sq h1.sF) (drv_list fun Rs F H r st s x hH _ => ⟨_, e.sq (fun _ _ z => hH.sF _ _ (s _ _ z)), reps_ints ns⟩)
      | @ref a n e =>
        unfold itemsOf at ew
        simp only at ew
        split at ew
        · rename_i ds e1
          cases ew
          obtain ⟨vs, q1, k⟩ := h1.ob n a _ e e1
          refine fin a vs rfl (.of q1) (drv_list fun Rs F H r st s x hH hst => ?_)
          obtain ⟨vs', q1', k'⟩ := hH.ob n a _ (x _ _ e) (still_at (ds := ds) hst (List.mem_cons_self))
          exact ⟨vs', .of q1', k'⟩
        · cases ew
      | _ => cases ew
  cases ef : f env st with
  | bad => unfold iSeq at hP; rw [ef] at hP; exact hP.elim
  | exc c p' s' => exact .inl (lists fun a ea => by rw [ef] at ea; cases ea)
  | ok a =>
    obtain ⟨d, st1⟩ := a
    cases d with
    | tup ds =>
      refine .inr (.inl (q Rs F H r sg env st _ hH hE (bindX hP fun a ea z F1 H1 r1 v1 s1 x1 h1 k1 => ?_)))
      rw [ef] at ea; cases ea
      cases k1 with
      | tup e k => exact ⟨_, rfl, ⟨_, .of (h1.sF _ _ e)⟩, z _ F1 H1 r1 s1 x1 h1 (drv_tup e k)⟩
    | str s =>
      refine .inr (.inr (q Rs F H r sg env st _ hH hE (bindX hP fun a ea z F1 H1 r1 v1 s1 x1 h1 k1 => ?_)))
      rw [ef] at ea; cases ea
      cases k1 with
      | str s ha hl => exact ⟨_, rfl, z _ F1 H1 r1 s1 x1 h1 (drv_str rfl ha)⟩
    | _ => exact .inl (lists fun a ea w ew => by rw [ef] at ea; cases ea; exact ⟨(fun _ z => nomatch z), (fun _ z => nomatch z)⟩)
end
end Dl
namespace Dl
open PySem L2
section
variable {W : Wd} {Rs F H : Hp} {r : List Addr} {st : Store} {p : Addr} {o o' : HO}
theorem Holds.guard (h : Holds W Rs F H r st) (e : H p = none) (hn : ∀ ps, o ≠ .tbl ps := by intro _ z; cases z) : Holds W (upd Rs p o) F (upd H p o) r st := by
  refine ⟨fun c u q => ?_, fun c u q => ?_, fun c q => ?_, h.len, h.nd, fun c m => ⟨(h.own c m).1, ?_⟩, fun i a b e1 e2 => ?_, ⟨fun t ht => ?_, h.tb.nF, fun b ps => ?_⟩⟩
  · rw [upd_ne (ne_of_none q (h.freeF e))]; exact h.sF _ _ q
  · by_cases hc : c = p
    · subst hc; rw [upd_same] at q ⊢; exact q
    · rw [upd_ne hc] at q ⊢; exact h.sR _ _ q
  · by_cases hc : c = p
    · subst hc; exact absurd (h.freeF e) q
    · rw [upd_ne hc]; exact h.dj c q
  · have hc : c ≠ p := fun z => h.notin e (z ▸ m)
    rw [upd_ne hc]; exact (h.own c m).2
  · have hc : a ≠ p := fun z => h.notin e (z ▸ List.mem_of_getElem? e1)
    exact (h.ob i a b e1 e2).mono (Same.refl _) (Ext.refl _) (upd_ne hc)
  · obtain ⟨t1, t2, t3, t4⟩ := h.tb.at_ t ht
    exact ⟨t1.ext fun b u q => by rw [upd_ne (ne_of_none q e)]; exact q, t2, by rw [upd_ne (fun (z : t.1 = p) => tabs_here t1 (by rw [z]; exact e))]; exact t3, t4⟩
  · by_cases hb : b = p
    · rw [hb, upd_same]; exact fun z => hn ps (Option.some.inj z)
    · rw [upd_ne hb]; exact h.tb.nR b ps
theorem Holds.at_guard (h : Holds W (upd Rs p o) F H r st) : H p = some o ∧ F p = none ∧ p ∉ r := by
  refine ⟨h.sR _ _ upd_same, ?_, fun m => ?_⟩
  · cases q : F p with
    | none => rfl
    | some u =>
      have := h.dj p (by rw [q]; simp)
      rw [upd_same] at this; cases this
  · have := (h.own p m).2
    rw [upd_same] at this; cases this
theorem Holds.reguard (h : Holds W (upd Rs p o) F H r st) (hn : ∀ ps, o' ≠ .tbl ps := by intro _ z; cases z) (hx : ∀ φ, o ≠ .ext φ := by intro _ z; cases z) : Holds W (upd Rs p o') F (upd H p o') r st := by
  obtain ⟨e0, e1, e2⟩ := h.at_guard
  refine ⟨fun c u q => ?_, fun c u q => ?_, fun c q => ?_, h.len, h.nd, fun c m => ⟨(h.own c m).1, ?_⟩, fun i a b e1' e2' => ?_, ⟨fun t ht => ?_, h.tb.nF, fun b ps => ?_⟩⟩
  · rw [upd_ne (fun z => by rw [z, e1] at q; cases q)]; exact h.sF _ _ q
  · by_cases hc : c = p
    · subst hc; rw [upd_same] at q ⊢; exact q
    · rw [upd_ne hc] at q ⊢
      exact h.sR c u (by rw [upd_ne hc]; exact q)
  · by_cases hc : c = p
    · subst hc; exact absurd e1 q
    · have := h.dj c q
      rw [upd_ne hc] at this ⊢; exact this
  · have hc : c ≠ p := fun z => e2 (z ▸ m)
    have := (h.own c m).2
    rw [upd_ne hc] at this ⊢; exact this
  · have hc : a ≠ p := fun z => e2 (z ▸ List.mem_of_getElem? e1')
    exact (h.ob i a b e1' e2').mono (Same.refl _) (Ext.refl _) (upd_ne hc)
  · obtain ⟨t1, t2, t3, t4⟩ := h.tb.at_ t ht
    have hp : t.1 ≠ p := fun z => by rw [z, upd_same] at t3; cases t3
    refine ⟨tabs_keep t1 fun a v q z => ?_, t2, by rw [upd_ne hp] at t3 ⊢; exact t3, t4⟩
    rw [upd_ne fun w => ?_]
    · exact q
    · rw [w, e0] at q
      cases q
      rcases z with ⟨ps, z⟩ | ⟨φ, z⟩
      · exact h.tb.nR p ps (by rw [upd_same, z])
      · exact hx φ z
  · by_cases hb : b = p
    · rw [hb, upd_same]; exact fun z => hn ps (Option.some.inj z)
    · have := h.tb.nR b ps
      rw [upd_ne hb] at this ⊢; exact this
theorem Holds.thaw (h : Holds W (upd Rs p o) F H r st) (e : Rs p = none) : Same F (upd F p o) ∧ Holds W Rs (upd F p o) H r st := by
  obtain ⟨e0, e1, e2⟩ := h.at_guard
  have sF : Same F (upd F p o) := fun b u q => by rw [upd_ne (ne_of_none q e1)]; exact q
  refine ⟨sF, ⟨fun c u q => ?_, fun c u q => ?_, fun c q => ?_, h.len, h.nd, fun c m => ?_, fun i a b e1' e2' => ?_, ⟨fun t ht => ?_, fun b ps => ?_, fun b ps z => ?_⟩⟩⟩
  · by_cases hc : c = p
    · subst hc; rw [upd_same] at q; cases q; exact e0
    · rw [upd_ne hc] at q; exact h.sF _ _ q
  · have hc : c ≠ p := ne_of_none q e
    exact h.sR c u (by rw [upd_ne hc]; exact q)
  · by_cases hc : c = p
    · rw [hc]; exact e
    · rw [upd_ne hc] at q
      have := h.dj c q
      rw [upd_ne hc] at this; exact this
  · have hc : c ≠ p := fun z => e2 (z ▸ m)
    have := h.own c m
    rw [upd_ne hc] at this ⊢; exact this
  · exact (h.ob i a b e1' e2').mono sF (Ext.refl _) rfl
  · obtain ⟨t1, t2, t3, t4⟩ := h.tb.at_ t ht
    have hp : t.1 ≠ p := fun z => by rw [z, upd_same] at t3; cases t3
    exact ⟨t1, by rw [upd_ne hp]; exact t2, by rw [upd_ne hp] at t3; exact t3, t4⟩
  · by_cases hb : b = p
    · rw [hb, upd_same]
      intro z
      exact h.tb.nR p ps (by rw [upd_same]; exact z)
    · rw [upd_ne hb]; exact h.tb.nF b ps
  · by_cases hb : b = p
    · rw [hb, e] at z; cases z
    · exact h.tb.nR b ps (by rw [upd_ne hb]; exact z)
theorem Holds.adopt {b : Ob} (h : Holds W (upd Rs p o) F H r st) (e : Rs p = none) (k : ObOk W F (r ++ [p]) H p b) : Holds W Rs F H (r ++ [p]) (st ++ [b]) := by
  obtain ⟨e0, e1, e2⟩ := h.at_guard
  refine ⟨h.sF, fun c u q => ?_, fun c q => ?_, by simp [h.len], ?_, fun c m => ?_, fun i a o' e1' e2' => ?_, ⟨fun t ht => ?_, h.tb.nF, fun b ps z => ?_⟩⟩
  · have hc : c ≠ p := ne_of_none q e
    exact h.sR c u (by rw [upd_ne hc]; exact q)
  · by_cases hc : c = p
    · rw [hc]; exact e
    · have := h.dj c q
      rw [upd_ne hc] at this; exact this
  · rw [List.nodup_append]
    refine ⟨h.nd, by simp, fun a ha b hb => ?_⟩
    have : b = p := by simpa using hb
    subst this
    exact fun z => e2 (z ▸ ha)
  · rcases List.mem_append.mp m with m | m
    · have hc : c ≠ p := fun z => e2 (z ▸ m)
      have := h.own c m
      rw [upd_ne hc] at this; exact this
    · have : c = p := by simpa using m
      subst this
      exact ⟨e1, e⟩
  · by_cases hi : i < r.length
    · rw [List.getElem?_append_left hi] at e1'
      rw [List.getElem?_append_left (by rw [← h.len]; exact hi)] at e2'
      exact (h.ob i a o' e1' e2').mono (Same.refl _) (Ext.snoc _ _) rfl
    · have hl : i = r.length := by
        have := (List.getElem?_eq_some_iff.mp e1').1
        simp at this; omega
      subst hl
      rw [List.getElem?_append_right (Nat.le_refl _)] at e1'
      rw [List.getElem?_append_right (by rw [h.len]; exact Nat.le_refl _)] at e2'
      simp at e1'
      rw [h.len] at e2'
      simp at e2'
      subst e1'; subst e2'
      exact k
  · obtain ⟨t1, t2, t3, t4⟩ := h.tb.at_ t ht
    have hp : t.1 ≠ p := fun z => by rw [z, upd_same] at t3; cases t3
    refine ⟨t1, t2, by rw [upd_ne hp] at t3; exact t3, fun m => ?_⟩
    rcases List.mem_append.mp m with m | m
    · exact t4 m
    · exact hp (List.mem_singleton.mp m)
  · by_cases hb : b = p
    · rw [hb, e] at z; cases z
    · exact h.tb.nR b ps (by rw [upd_ne hb]; exact z)
end
section
variable {W : Wd} {X : Cx} {E : XK}
/-- no exception is borne -/
def noX {A : Type} (res : R A) : R A := match res with
  | .ok a => .ok a
  | _ => .bad
@[simp] theorem noX_ok {A : Type} (a : A) : noX (R.ok a) = .ok a := rfl
@[simp] theorem noX_exc {A : Type} (c : Nat) (p : Option D) (st : Store) : noX (R.exc c p st : R A) = .bad := rfl
@[simp] theorem noX_bad {A : Type} : noX (R.bad : R A) = .bad := rfl
theorem bindN {A B : Type} {Rs Rs' F F' : Hp} {r r' : List Addr} {E E' : XK} {res : R A} {f : A → R B} {K : B → Prop} {K' : A → Prop} (h : PostX W Rs F r ((noX res).bind f) K E) (k : ∀ a, res = .ok a → PostX W Rs F r (f a) K E → K' a) : PostX W Rs' F' r' res K' E' := by
  cases res with
  | ok a => exact k a rfl h
  | exc c p st' => exact h.elim
  | bad => exact h
def DTs (W : Wd) (X : Cx) (E : XK) (ifs : List Expr) (f : TV) : Prop := PTs X ifs (tDT W E f)
def tYesD : TV := fun _ st => .ok (true, st)
theorem dts_nil : DTs W X E [] tYesD := ⟨fun pins s sg H Q I ⟨Rs, F, r, env, st, a, b, c⟩ => pts_nil.run pins s sg H Q I (onT_here a c)⟩
theorem dts_one {c : Expr} {f : TV} (h : DT W X E c f) : DTs W X E [c] f := pts_one h
def wipeD (env : Env) : List Nat → Env
  | [] => env
  | v :: vs => (wipeD env vs).set v none
theorem wipe_ok {F : Hp} {r : List Addr} {sg : St} {env : Env} (h : EnvOk F r sg env) : ∀ vs : List Nat, EnvOk F r (wipe sg vs) (wipeD env vs)
  | [] => h
  | v :: vs => by
    have ih := wipe_ok h vs
    unfold wipe wipeD
    refine ⟨by simp [ih.len], fun j e q => ?_⟩
    by_cases hj : v = j
    · subst hj
      by_cases hl : v < (wipeD env vs).length
      · rw [List.getElem?_set_self hl] at q; cases q
      · rw [List.getElem?_eq_none (by simp; omega)] at q; cases q
    · rw [List.getElem?_set_ne hj] at q ⊢
      exact ih.at_ j e q
/-- the block's target: one name, or two -/
inductive Tg1 where
  | one (j : Nat)
  | two (j k : Nat)
def Tg1.put : Tg1 → D → Env → Option Env
  | .one j, d, env => some (env.set j (some d))
  | .two j k, .tup [a, b], env => some ((env.set j (some a)).set k (some b))
  | _, _, _ => none
def Tg1.inside : Tg1 → List Nat → Bool
  | .one j, vs => vs.contains j
  | .two j k, vs => vs.contains j && vs.contains k
def Tg1.rd (K : PySem.W.Frag) : Tg1 → TG
  | .one j => gName j
  | .two j k => gTup K 2 (gCons (gName j) (gCons (gName k) gNil))
def Tg1.On (X : Cx) (tg : Expr) (t : Tg1) : Prop := PG X tg (t.rd X.K)
theorem tg_one {x : Str} {pos : Pos} {j : Nat} (hN : X.N.Nodup) (hi : X.N[j]? = some x) (hx : Loc X.env.scope x) (hf : X.fn x = true ∨ X.env.scope.names.lookup x = some .local := by first | exact .inl rfl | exact .inr rfl | assumption) : Tg1.On X (.Name x pos) (.one j) := pg_name hN hi hx hf
theorem tg_two {x y : Str} {p1 p2 : Pos} {j k kk : Nat} {pos : Pos} (hc : X.calm = true) (h1 : PG X (.Name x p1) (gName j)) (h2 : PG X (.Name y p2) (gName k)) : Tg1.On X (.Tuple [.Name x p1, .Name y p2] kk pos) (.two j k) :=
  pg_tup hc (pgs_cons h1 (pgs_cons h2 pgs_nil (by rfl)) (by rfl)) (by rfl) (by rfl)
theorem wipe_set {sg : St} {x : Option V} {j : Nat} : ∀ {vs : List Nat}, vs.contains j = true → wipe (sg.set j x) vs = wipe sg vs
  | [], h => by simp at h
  | v :: vs, h => by
    unfold wipe
    by_cases hj : j = v
    · subst hj
      have : ∀ (vs : List Nat) (sg : St), (wipe (sg.set j x) vs).set j none = (wipe sg vs).set j none := by
        intro vs
        induction vs with
        | nil => intro sg; unfold wipe; rw [List.set_set]
        | cons u us ih =>
          intro sg
          unfold wipe
          by_cases hu : u = j
          · subst hu; rw [List.set_set, List.set_set, ih]
          · rw [List.set_comm _ _ hu, List.set_comm _ _ hu, ih]
      exact this vs sg
    · have : vs.contains j = true := by
        rw [List.contains_cons] at h
        simp [hj] at h
        simpa using h
      rw [wipe_set this]
theorem wipe_wipe {sg : St} : ∀ {vs : List Nat}, wipe (wipe sg vs) vs = wipe sg vs := by
  intro vs
  have : ∀ (us : List Nat) (sg : St), (∀ u ∈ us, vs.contains u = true) → wipe (wipe sg us) vs = wipe sg vs := by
    intro us
    induction us with
    | nil => intro sg _; rfl
    | cons u us ih =>
      intro sg h
      rw [wipe, wipe_set (h u (by simp)), ih sg fun v hv => h v (by simp [hv])]
  exact this vs sg fun u hu => by simpa using hu
theorem Tg1.post {t : Tg1} {vs : List Nat} (hin : t.inside vs = true) {Rs F H : Hp} {r : List Addr} {st : Store} {sg : St} {env : Env} {v : V} {d : D} {env1 : Env} {N : St → Hp → Prop} (hH : Holds W Rs F H r st) (hE : EnvOk F r (wipe sg vs) env) (k : Rep F r v d) (e : t.put d env = some env1)
    (q : ∀ sg2, EnvOk F r sg2 env1 → wipe sg2 vs = wipe sg vs → N sg2 H) : t.rd X.K v (wipe sg vs) H N := by
  cases t with
  | one j =>
    cases e
    exact q _ (hE.set k j) (by rw [wipe_set hin, wipe_wipe])
  | two j l =>
    unfold Tg1.inside at hin
    rw [Bool.and_eq_true] at hin
    cases d with
    | tup ds =>
      match ds, e, k with
      | [a, b], e, .tup h (.cons k1 (.cons k2 .nil)) =>
        cases e
        refine ⟨_, _, rfl, .of (hH.sF _ _ h), rfl, _, _, rfl, _, _, rfl, rfl, q _ ((hE.set k1 j).set k2 l) ?_⟩
        rw [wipe_set hin.2, wipe_set hin.1, wipe_wipe]
      | [], e, _ => cases e
      | [_], e, _ => cases e
      | _ :: _ :: _ :: _, e, _ => cases e
    | _ => cases e
def lcGo (sub : List (Nat × List D)) (t : Tg1) (tt : TV) (te : EV) (env0 : Env) : List D → List D → Store → R (List D × Store)
  | [], acc, st => if still sub st = true then .ok (acc, st) else .bad
  | d :: ds, acc, st => if still sub st = true then (match t.put d env0 with
    | some env1 => (noX (tt env1 st)).bind fun b => if b.1 = true then (noX (te env1 b.2)).bind fun y => lcGo sub t tt te env0 ds (acc ++ [y.1]) y.2 else lcGo sub t tt te env0 ds acc b.2
    | none => .bad) else .bad
def eLc (m : Bool) (it : IV) (vs : List Nat) (t : Tg1) (tt : TV) (te : EV) : EV := fun env st => (it env st).bind fun a => if a.1.1.length ≤ LIM then
  (lcGo a.1.2 t tt te (wipeD env vs) a.1.1 [] a.2).bind fun b => newL m b.1 b.2 else .bad
theorem lc_post {m : Bool} {tg iter : Expr} {wi : TI} {it : IV} {vs : List Nat} {t : Tg1} {tt : TV} {te : EV} (hin : t.inside vs = true)
    (qi : ∀ Rs F H r sg env st (Q : It → Hp → Prop), Holds W Rs F H r st → EnvOk F r sg env → PostX W Rs F r (it env st) (fun a => ∀ J F' H' r', Same F F' → Ext r r' → Holds W Rs F' H' r' a.2 → Drv W F' r' J a.1 → Q J H') E → wi sg H Q)
    {Rs F H r sg env st Q} (hH : Holds W Rs F H r st) (hE : EnvOk F r sg env) (hP : Post W Rs F r (eLc m it vs t tt te env st) Q E) : tLc wi (t.rd X.K) (tDT W E0 tt) (tDE W E0 te) vs sg H Q := by
  refine qi Rs F H r sg env st _ hH hE (bindX hP fun a ea z J F0 H0 r0 s0 x0 h0 drv => ?_)
  obtain ⟨⟨items, sub⟩, st0⟩ := a
  by_cases hl : items.length ≤ LIM
  · simp only [if_pos hl] at z
    intro D hD
    have z0 : Post W Rs F0 r0 ((lcGo sub t tt te (wipeD env vs) items [] st0).bind fun b => newL m b.1 b.2) Q E := Post.later s0 x0 z
    have hE0 := wipe_ok (hE.mono s0 x0) vs
    have hRD : Rs D = none := h0.freeR hD
    refine ⟨fun i mm H' => mm = items.length - i ∧ i ≤ items.length ∧ ∃ F' r' st' acc accV, Same F0 F' ∧ Ext r0 r' ∧ Holds W (upd Rs D (.lst accV)) F' H' r' st' ∧ Reps F' r' accV acc ∧ acc.length ≤ i ∧
      Post W Rs F' r' ((lcGo sub t tt te (wipeD env vs) (items.drop i) acc st').bind fun b => newL m b.1 b.2) Q E,
      ⟨items.length, by simp, Nat.zero_le _, F0, r0, st0, [], [], Same.refl _, Ext.refl _, h0.guard hD, .nil, Nat.le_refl _, z0⟩, ?_⟩
    rintro i mm H' ⟨rfl, hi, F', r', st', acc, accV, s, x, hH', kacc, hacc, hP'⟩
    have hlen := kacc.length
    by_cases hlt : i < items.length
    · rw [List.drop_eq_getElem_cons hlt] at hP'
      unfold lcGo at hP'
      by_cases hst : still sub st' = true
      · rw [if_pos hst] at hP'
        cases ep : t.put items[i] (wipeD env vs) with
        | none => rw [ep] at hP'; exact hP'.elim
        | some env1 =>
          rw [ep] at hP'
          simp only at hP'
          obtain ⟨d1, _⟩ := drv i _ F' H' r' st' s x hH' hst
          obtain ⟨go, yld⟩ := d1 items[i] (by simp [hlt])
          refine .inr ⟨go, fun H2 => i + 1 ≤ items.length ∧ ∃ F' r' st' acc accV, Same F0 F' ∧ Ext r0 r' ∧ Holds W (upd Rs D (.lst accV)) F' H2 r' st' ∧ Reps F' r' accV acc ∧ acc.length ≤ i + 1 ∧
            Post W Rs F' r' ((lcGo sub t tt te (wipeD env vs) (items.drop (i + 1)) acc st').bind fun b => newL m b.1 b.2) Q E, fun H2 y => ⟨items.length - (i + 1), by omega, rfl, y⟩, fun v H1 y => ?_⟩
          obtain ⟨F1, s1, h1, k1⟩ := yld v H1 y
          refine Tg1.post hin h1 (hE0.mono (s.trans s1) x) k1 ep fun sg2 hE2 hw => ⟨hw, ?_⟩
          have hP1 := Post.later s1 (Ext.refl _) hP'
          -- the tests
          have asc : ((noX (tt env1 st')).bind fun b => if b.1 = true then (noX (te env1 b.2)).bind fun y => lcGo sub t tt te (wipeD env vs) (items.drop (i + 1)) (acc ++ [y.1]) y.2 else lcGo sub t tt te (wipeD env vs) (items.drop (i + 1)) acc b.2).bind (fun b => newL m b.1 b.2) =
              (noX (tt env1 st')).bind fun b => (if b.1 = true then (noX (te env1 b.2)).bind fun y => lcGo sub t tt te (wipeD env vs) (items.drop (i + 1)) (acc ++ [y.1]) y.2 else lcGo sub t tt te (wipeD env vs) (items.drop (i + 1)) acc b.2).bind (fun b => newL m b.1 b.2) := by
            cases noX (tt env1 st') <;> rfl
          rw [asc] at hP1
          refine ⟨_, F1, r', env1, st', h1, hE2, bindN hP1 fun b eb z2 F2 H2 r2 s2 x2 h2 => ?_⟩
          obtain ⟨bb, st2⟩ := b
          cases bb with
          | false =>
            exact ⟨hlt, F2, r2, st2, acc, accV, (s.trans s1).trans s2, x.trans x2, h2, kacc.mono (s1.trans s2) x2, by omega, Post.later s2 x2 z2⟩
          | true =>
            have asc2 : ((noX (te env1 st2)).bind fun y => lcGo sub t tt te (wipeD env vs) (items.drop (i + 1)) (acc ++ [y.1]) y.2).bind (fun b => newL m b.1 b.2) = (noX (te env1 st2)).bind fun y => (lcGo sub t tt te (wipeD env vs) (items.drop (i + 1)) (acc ++ [y.1]) y.2).bind (fun b => newL m b.1 b.2) := by
              cases noX (te env1 st2) <;> rfl
            simp only [if_true] at z2
            rw [asc2] at z2
            refine ⟨_, F2, r2, env1, st2, h2, hE2.mono s2 x2, bindN (Post.later s2 x2 z2) fun y ey z3 F3 H3 r3 v3 s3 x3 h3 k3 => ?_⟩
            refine ⟨accV, h3.at_guard.1, by rw [hlen]; exact lim_lt (by omega), hlt, F3, r3, y.2, acc ++ [y.1], accV ++ [v3], ((s.trans s1).trans s2).trans s3, (x.trans x2).trans x3, h3.reguard, Reps.snoc (kacc.mono ((s1.trans s2).trans s3) (x2.trans x3)) k3, by simp; omega, Post.later s3 x3 z3⟩
      · rw [if_neg hst] at hP'; exact hP'.elim
    · have e : items.drop i = [] := List.drop_eq_nil_of_le (by omega)
      rw [e] at hP'
      unfold lcGo at hP'
      by_cases hst : still sub st' = true
      · rw [if_pos hst] at hP'
        obtain ⟨_, d2⟩ := drv i _ F' H' r' st' s x hH' hst
        refine .inl ⟨d2 (by simpa using hlt), ?_⟩
        change Post W Rs F' r' (newL m acc st') Q E at hP'
        unfold newL at hP'
        cases m with
        | true =>
          refine hP' F' H' (r' ++ [D]) (.ref D) (Same.refl _) (Ext.snoc _ _) (hH'.adopt hRD ⟨accV, hH'.at_guard.1, kacc.mono (Same.refl _) (Ext.snoc _ _)⟩) (.ref ?_)
          show (r' ++ [D])[st'.length]? = some D
          rw [← hH'.len, List.getElem?_append_right (Nat.le_refl _)]; simp
        | false =>
          obtain ⟨s2, h2⟩ := hH'.thaw hRD
          exact hP' _ H' r' (.ref D) s2 (Ext.refl _) h2 (.lst upd_same (kacc.mono s2 (Ext.refl _)))
      · rw [if_neg hst] at hP'; exact hP'.elim
  · simp only [if_neg hl] at z
    exact z.elim
theorem de_lc (m : Bool) {elt tg iter : Expr} {ifs : List Expr} {scope : Scope} {own : List (Str × Nat)} {vs : List Nat} {pos : Pos} {it : IV} {t : Tg1} {tt : TV} {te : EV} (hc : X.calm = true) (hN : X.N.Nodup) (hi : DI W X E tg iter it) (ok : BlkOk X.N X.env.scope scope own) (hv : own.map (·.2) = vs) (hin : t.inside vs = true)
    (hg : ∀ (s : Shared) (H : Hp) (C : Addr) (cl : List (Str × Addr)) (fp : List Addr), Tg1.On (X.blk s H scope (compEnvC scope cl C X.env) fp) tg t) (ht : ∀ (s : Shared) (H : Hp) (C : Addr) (cl : List (Str × Addr)) (fp : List Addr), DTs W (X.blk s H scope (compEnvC scope cl C X.env) fp) E0 ifs tt)
    (he : ∀ (s : Shared) (H : Hp) (C : Addr) (cl : List (Str × Addr)) (fp : List Addr), DE W (X.blk s H scope (compEnvC scope cl C X.env) fp) E0 elt te) (hs : ∀ x, foldedSetIterable iter X.env x = pure x := by intro _; rfl) :
    DE W X E (.ListComp elt [⟨tg, iter, ifs, 0⟩] scope pos) (eLc m it vs t tt te) := by
  obtain ⟨wi, pi, qi⟩ := hi
  subst hv
  exact .mk (pe_lc (g := t.rd X.K) hc hN pi ok (fun s H C cl fp => hg s H C cl fp) ht he hs) fun Rs F H r sg env st Q hH hE hP => lc_post (tg := tg) (iter := iter) hin qi hH hE hP
theorem ds_setLc (m : Bool) {i : Nat} {y : Str} {py : Pos} {elt tg iter : Expr} {ifs : List Expr} {scope : Scope} {own : List (Str × Nat)} {vs : List Nat} {pos spos : Pos} {it : IV} {t : Tg1} {tt : TV} {te : EV} (hc : X.calm = true) (hN : X.N.Nodup) (hy : X.N[i]? = some y) (hyl : X.env.scope.names.lookup y = some .local)
    (hsw : swapsWith (.ListComp elt [⟨tg, iter, ifs, 0⟩] scope pos) (some (.Name y py)) spos.line X.env = pure true) (hi : DI W X E tg iter it) (ok : BlkOk X.N X.env.scope scope own) (hv : own.map (·.2) = vs) (hin : t.inside vs = true)
    (hg : ∀ (s : Shared) (H : Hp) (C : Addr) (cl : List (Str × Addr)) (fp : List Addr), Tg1.On (X.blk s H scope (compEnvC scope cl C X.env) fp) tg t) (ht : ∀ (s : Shared) (H : Hp) (C : Addr) (cl : List (Str × Addr)) (fp : List Addr), DTs W (X.blk s H scope (compEnvC scope cl C X.env) fp) E0 ifs tt)
    (he : ∀ (s : Shared) (H : Hp) (C : Addr) (cl : List (Str × Addr)) (fp : List Addr), DE W (X.blk s H scope (compEnvC scope cl C X.env) fp) E0 elt te) (hs : ∀ x, foldedSetIterable iter X.env x = pure x := by intro _; rfl) :
    DS W X E (.Assign [.Name y py] (.ListComp elt [⟨tg, iter, ifs, 0⟩] scope pos) spos) (sAsg (eLc m it vs t tt te) (gN i)) := by
  obtain ⟨wi, pi, qi⟩ := hi
  subst hv
  exact .mk (ps_setLc (g := t.rd X.K) hc hN hy hyl hsw pi ok (fun s H C cl fp => hg s H C cl fp) ht he hs) fun Rs F H r sg env st D hH hE hP => sAsg_post (fun Rs F H r sg env st Q hH hE hP => lc_post (tg := tg) (iter := iter) hin qi hH hE hP) gN_ok hH hE hP
def intsD (lo : Int) (n : Nat) : List D := (List.range n).map fun (i : Nat) => D.int (lo + (i : Int))
theorem ints_at (lo : Int) (n i : Nat) (h : i < n) : (intsD lo n)[i]? = some (.int (lo + (i : Int))) := by simp [intsD, h]
theorem drv_range {F0 : Hp} {r0 : List Addr} {lo : Int} {n : Nat} : Drv W F0 r0 (Itr lo n) (intsD lo n, []) := fun i Rs F H r st s x hH hst => by
  refine ⟨fun d e => ?_, fun hl => by show n ≤ i; simpa [intsD] using hl⟩
  have hi : i < n := by
    have := (List.getElem?_eq_some_iff.mp e).1
    simpa [intsD] using this
  rw [show (intsD lo n, ([] : List (Nat × List D))).1 = intsD lo n from rfl, ints_at lo n i hi] at e
  cases e
  refine ⟨hi, fun y H' yl => ?_⟩
  obtain ⟨e2, e3⟩ := yl
  subst e2 e3
  exact ⟨F, Same.refl _, hH, .int _⟩
def iR1 (g : AV) : IV := fun env st => (g env st).bind fun a => match a.1 with
  | [.int n] => if -1000000 ≤ n ∧ n ≤ 1000000 then .ok ((intsD 0 n.toNat, []), a.2) else .bad
  | _ => .bad
def iR2 (g : AV) : IV := fun env st => (g env st).bind fun a => match a.1 with
  | [.int i, .int n] => if (-1000000 ≤ i ∧ i ≤ 1000000) ∧ -1000000 ≤ n ∧ n ≤ 1000000 then .ok ((intsD i (n - i).toNat, []), a.2) else .bad
  | _ => .bad
theorem di_r1 {tg a : Expr} {g : AV} {p pos : Pos} (hg : Gl X "range") (hm : X.mg "range" = none) (ha : DA W X E [a] g) (hs : starEach [a] X.env = [(false, eval a X.env)] := by rfl) : DI W X E tg (.Call (.Name "range" p) [a] [] pos) (iR1 g) := by
  obtain ⟨t, pa, q⟩ := ha.ex
  refine ⟨_, pi_range1 hg hm pa hs, fun Rs F H r sg env st Q hH hE hP => ?_⟩
  refine q Rs F H r sg env st _ hH hE (bindX hP fun a ea z F1 H1 r1 vs s1 x1 h1 k1 => ?_)
  obtain ⟨ds, st1⟩ := a
  simp only at z
  split at z
  · rename_i n
    split at z
    · rename_i hc
      match k1 with
      | .cons (.int _) .nil => exact ⟨n, rfl, by omega, by omega, z _ F1 H1 r1 s1 x1 h1 drv_range⟩
    · exact z.elim
  · exact z.elim
end
end Dl
namespace Dl
open PySem L2
section
variable {W : Wd} {X : Cx} {E : XK}
def pairUp (ds : List D) : List D := ds.mapIdx fun (i : Nat) d => D.tup [.int (i : Int), d]
theorem pairUp_len (ds : List D) : (pairUp ds).length = ds.length := by simp [pairUp]
theorem pairUp_at {ds : List D} {i : Nat} {e : D} (h : (pairUp ds)[i]? = some e) : ∃ d, ds[i]? = some d ∧ e = .tup [.int (i : Int), d] := by
  unfold pairUp at h
  rw [List.getElem?_mapIdx] at h
  cases q : ds[i]? with
  | none => rw [q] at h; cases h
  | some d => rw [q] at h; cases h; exact ⟨d, rfl, rfl⟩
/-- a list by its items, as it stands -/
def listOf (st : Store) : D → Option Wk
  | .lst ds => some (ds, [])
  | .ref n => match st[n]? with
    | some (.lst ds) => some (ds, [(n, ds)])
    | _ => none
  | _ => none
theorem listOf_ok {Rs F H : Hp} {r : List Addr} {st : Store} {v : V} {d : D} {w : Wk} (h : Holds W Rs F H r st) (k : Rep F r v d) (e : listOf st d = some w) :
    ∃ a, v = .ref a ∧ (∃ vs, H a = some (.lst vs) ∧ Reps F r vs w.1) ∧ ∀ Rs' F' H' r' st', Same F F' → Ext r r' → Holds W Rs' F' H' r' st' → still w.2 st' = true → ∃ vs, H' a = some (.lst vs) ∧ Reps F' r' vs w.1 := by
  cases k with
  | @lst a vs ds q k => cases e; exact ⟨a, rfl, ⟨vs, h.sF _ _ q, k⟩, fun Rs' F' H' r' st' s x h' _ => ⟨vs, h'.sF _ _ (s _ _ q), k.mono s x⟩⟩
  | @ref a n q =>
    unfold listOf at e
    simp only at e
    split at e
    · rename_i ds e1
      cases e
      obtain ⟨vs, q1, k⟩ := h.ob n a _ q e1
      refine ⟨a, rfl, ⟨vs, q1, k⟩, fun Rs' F' H' r' st' s x h' hst => ?_⟩
      obtain ⟨vs', q1', k'⟩ := h'.ob n a _ (x _ _ q) (still_at (ds := ds) hst List.mem_cons_self)
      exact ⟨vs', q1', k'⟩
    · cases e
  | _ => cases e
theorem drv_enum {K : PySem.W.Frag} {F0 : Hp} {r0 : List Addr} {a : Addr} {w : Wk} (h : ∀ Rs F H r st, Same F0 F → Ext r0 r → Holds W Rs F H r st → still w.2 st = true → ∃ vs, H a = some (.lst vs) ∧ Reps F r vs w.1) : Drv W F0 r0 (Ite K a) (pairUp w.1, w.2) := fun i Rs F H r st s x hH hst => by
  obtain ⟨vs, h1, k1⟩ := h Rs F H r st s x hH hst
  refine ⟨fun d e => ?_, fun hl => ⟨vs, .of h1, by rw [k1.length]; rw [pairUp_len] at hl; exact hl⟩⟩
  obtain ⟨d', e', rfl⟩ := pairUp_at e
  obtain ⟨v, e1, k⟩ := k1.get e'
  refine ⟨⟨vs, v, .of h1, e1⟩, fun y H' yl => ?_⟩
  obtain ⟨T, z, rfl, hT, rfl, yl⟩ := yl
  have := yl vs (.of h1)
  rw [e1] at this; cases this
  obtain ⟨s1, h2⟩ := hH.frozen (o := .tup [.int (i : Nat), v]) hT
  exact ⟨_, s1, h2, .tup upd_same (.cons (.int _) (.cons (k.mono s1 (Ext.refl _)) .nil))⟩
def iEn (g : AV) : IV := fun env st => (g env st).bind fun a => match a.1 with
  | [d] => match listOf a.2 d with
    | some w => .ok ((pairUp w.1, w.2), a.2)
    | none => .bad
  | _ => .bad
theorem di_enum {e : Expr} {g : AV} {p pos tpos : Pos} {elts : List Expr} {kk : Nat} (hg : Gl X "enumerate") (hm : X.mg "enumerate" = none) (ha : DA W X E [e] g) (hs : starEach [e] X.env = [(false, eval e X.env)] := by rfl) :
    DI W X E (.Tuple elts kk tpos) (.Call (.Name "enumerate" p) [e] [] pos) (iEn g) := by
  obtain ⟨t, pa, q⟩ := ha.ex
  refine ⟨_, pi_enum hg hm pa hs, fun Rs F H r sg env st Q hH hE hP => ?_⟩
  refine q Rs F H r sg env st _ hH hE (bindX hP fun a ea z F1 H1 r1 vs s1 x1 h1 k1 => ?_)
  obtain ⟨ds, st1⟩ := a
  simp only at z
  split at z
  · split at z
    · rename_i d w e
      match k1 with
      | .cons k .nil =>
        obtain ⟨a, rfl, ⟨vs, h2, k2⟩, hh⟩ := listOf_ok h1 k e
        exact ⟨a, vs, rfl, .of h2, z _ F1 H1 r1 s1 x1 h1 (drv_enum hh)⟩
    · exact z.elim
  · exact z.elim
def zipUp : List D → List D → List D
  | a :: as, b :: bs => .tup [a, b] :: zipUp as bs
  | _, _ => []
theorem zipUp_len : ∀ as bs : List D, (zipUp as bs).length = min as.length bs.length
  | [], _ => by simp [zipUp]
  | _ :: _, [] => by simp [zipUp]
  | a :: as, b :: bs => by simp [zipUp, zipUp_len as bs]
theorem zipUp_at : ∀ {as bs : List D} {i : Nat} {e : D}, (zipUp as bs)[i]? = some e → ∃ a b, as[i]? = some a ∧ bs[i]? = some b ∧ e = .tup [a, b]
  | [], _, i, e, h => by simp [zipUp] at h
  | _ :: _, [], i, e, h => by simp [zipUp] at h
  | a :: as, b :: bs, 0, e, h => by simp [zipUp] at h; exact ⟨a, b, rfl, rfl, h.symm⟩
  | a :: as, b :: bs, i + 1, e, h => by
    simp [zipUp] at h
    obtain ⟨x, y, h1, h2, h3⟩ := zipUp_at h
    exact ⟨x, y, by simpa using h1, by simpa using h2, h3⟩
theorem drv_zip {K : PySem.W.Frag} {F0 : Hp} {r0 : List Addr} {a b : Addr} {w w' : Wk} (h : ∀ Rs F H r st, Same F0 F → Ext r0 r → Holds W Rs F H r st → still w.2 st = true → ∃ vs, H a = some (.lst vs) ∧ Reps F r vs w.1)
    (h' : ∀ Rs F H r st, Same F0 F → Ext r0 r → Holds W Rs F H r st → still w'.2 st = true → ∃ vs, H b = some (.lst vs) ∧ Reps F r vs w'.1) : Drv W F0 r0 (Itz K a b) (zipUp w.1 w'.1, w.2 ++ w'.2) := fun i Rs F H r st s x hH hst => by
  have hst' : still w.2 st = true ∧ still w'.2 st = true := by
    unfold still at hst ⊢
    rw [List.all_append, Bool.and_eq_true] at hst
    exact hst
  obtain ⟨vs, h1, k1⟩ := h Rs F H r st s x hH hst'.1
  obtain ⟨ws, h2, k2⟩ := h' Rs F H r st s x hH hst'.2
  refine ⟨fun d e => ?_, fun hl => ⟨vs, ws, .of h1, .of h2, ?_⟩⟩
  · obtain ⟨d1, d2, e1, e2, rfl⟩ := zipUp_at e
    obtain ⟨v1, f1, m1⟩ := k1.get e1
    obtain ⟨v2, f2, m2⟩ := k2.get e2
    refine ⟨⟨vs, ws, v1, v2, .of h1, .of h2, f1, f2⟩, fun y H' yl => ?_⟩
    obtain ⟨T, z1, z2, rfl, hT, rfl, yl1, yl2⟩ := yl
    have q1 := yl1 vs (.of h1)
    have q2 := yl2 ws (.of h2)
    rw [f1] at q1; cases q1
    rw [f2] at q2; cases q2
    obtain ⟨s1, h3⟩ := hH.frozen (o := .tup [v1, v2]) hT
    exact ⟨_, s1, h3, .tup upd_same (.cons (m1.mono s1 (Ext.refl _)) (.cons (m2.mono s1 (Ext.refl _)) .nil))⟩
  · rw [zipUp_len] at hl
    rw [k1.length, k2.length]
    omega
def iZp (g : AV) : IV := fun env st => (g env st).bind fun a => match a.1 with
  | [d, e] => match listOf a.2 d, listOf a.2 e with
    | some w, some w' => .ok ((zipUp w.1 w'.1, w.2 ++ w'.2), a.2)
    | _, _ => .bad
  | _ => .bad
theorem di_zip {e e2 : Expr} {g : AV} {p pos tpos : Pos} {elts : List Expr} {kk : Nat} (hg : Gl X "zip") (hm : X.mg "zip" = none) (ha : DA W X E [e, e2] g)
    (hs : starEach [e, e2] X.env = (false, eval e X.env) :: starEach [e2] X.env := by rfl) (hpl : (backTo pos (starEach [e2] X.env)).any (·.1) = false := by rfl) :
    DI W X E (.Tuple elts kk tpos) (.Call (.Name "zip" p) [e, e2] [] pos) (iZp g) := by
  obtain ⟨t, pa, q⟩ := ha.ex
  refine ⟨_, pi_zip hg hm pa hs hpl, fun Rs F H r sg env st Q hH hE hP => ?_⟩
  refine q Rs F H r sg env st _ hH hE (bindX hP fun a ea z F1 H1 r1 vs s1 x1 h1 k1 => ?_)
  obtain ⟨ds, st1⟩ := a
  simp only at z
  split at z
  · split at z
    · rename_i d e w w' e1 e2
      match k1 with
      | .cons k (.cons k' .nil) =>
        obtain ⟨a, rfl, ⟨vs, h2, k2⟩, hh⟩ := listOf_ok h1 k e1
        obtain ⟨b, rfl, ⟨ws, h3, k3⟩, hh'⟩ := listOf_ok h1 k' e2
        exact ⟨a, b, vs, ws, rfl, .of h2, .of h3, z _ F1 H1 r1 s1 x1 h1 (drv_zip hh hh')⟩
    · exact z.elim
  · exact z.elim
end
end Dl
namespace Dl
open PySem L2
section
variable {P : Program} {w : World} {W : Wd} {X : Cx} {E : XK}
/-- THE RULE for a def -/
theorem fnD {mg : Str → Option Value} {base : Heap} {x qual : Str} {s : Stmt} {f : Addr} {fd : FuncData} {N ps : List Str} {k n : Nat} {b : SV} (F : Fun W.K x qual s f fd) (S : FnScope N ps (defScope s)) (hn : ps.length = n)
    (hbody : ∀ (cdv : Value) (A : Around) (outer : List PySem.Env) (sh : Shared) (H : Hp) (E : XK), Room k (A.deeper (PyProof.Rows.envOfC qual (defScope s) sh.heap.objs.size f cdv)) →
      DB W (cxOf (L2.CX P w) P w W.K mg base N qual (defScope s) f cdv A outer sh H E) E (defBody s) b) : FnOk P w W.K mg base (L2.CX P w) (k + 1) f fd ps (spD W n (funD N.length b)) := by
  refine F.okX S (fun vs H Q E h => ?_) (fun cdv A outer sh H vs Q E hr h => ?_)
  · obtain ⟨Rs, F, r, st, ds, _, h, hl, _⟩ := h
    rw [h.length, hl, hn]
  · obtain ⟨Rs, F, r, st, ds, hH, hk, hl, hP⟩ := h
    obtain ⟨t, p, q⟩ := (hbody cdv A outer sh H E hr).ex
    refine ⟨t, p, q Rs F H r _ _ st _ hH (EnvOk.start hk) ?_⟩
    unfold funD at hP
    cases eb : b (List.map some ds ++ List.replicate (N.length - ds.length) none) st with
    | nx e s' => rw [eb] at hP; exact fun F' H' r' sg' s1 x1 h1 k1 => hP F' H' r' .non s1 x1 h1 .non
    | rt d s' => rw [eb] at hP; exact hP
    | bk e s' => rw [eb] at hP; exact hP.elim
    | ct e s' => rw [eb] at hP; exact hP.elim
    | exc c p s' => rw [eb] at hP; exact hP
    | bad => rw [eb] at hP; exact hP.elim
def eCall (n : Nat) (g : FV) (ga : AV) : EV := fun env st => (ga env st).bind fun a => if a.1.length = n then g a.1 a.2 else .bad
section
variable {CX : CXT} {k j n : Nat} {f : Addr} {fd : FuncData} {ps : List Str} {g : FV} {x : Str} {e : Expr} {es : List Expr} {p pos apos : Pos} {ga : AV}
theorem de_call (hK : X.K = W.K) (F : FnOk X.prog X.w W.K X.mg X.base CX k f fd ps (spD W n g)) (hr : Room j X.A) (hj : k ≤ j) (hg : Gl X x) (hm : X.mg x = some (.ref f)) (hk : PySem.W.keepIn W.K (.ref f) = true) (hb : Binds W.K fd ps []) (hx : Passes CX X E)
    (ha : DA W X E (e :: es) ga) (hdb : (x == ("__debug__" : Str)) = false := by decide) (he : starEach (e :: es) X.env = (false, eval e X.env) :: starEach es X.env := by rfl) (hpl : (backTo pos (starEach es X.env)).any (·.1) = false := by rfl) :
    DE W X E (.Call (.Name x p) (e :: es) [] pos) (eCall n g ga) := by
  obtain ⟨t, pa, q⟩ := ha.ex
  refine .mk (pe_call (sp := spD W n g) (by rw [hK]; exact F) (hr.mono hj) hg hm (by rw [hK]; exact hk) (by rw [hK]; exact hb) .nil hx pa hdb he hpl) fun Rs F H r sg env st Q hH hE hP => ?_
  refine q Rs F H r sg env st _ hH hE (bindX hP fun a ea z F1 H1 r1 vs s1 x1 h1 k1 => ?_)
  by_cases hl : a.1.length = n
  · rw [if_pos hl] at z
    exact ⟨Rs, F1, r1, a.2, a.1, h1, by rw [List.append_nil]; exact k1, hl, Post.later s1 x1 z⟩
  · rw [if_neg hl] at z; exact z.elim
/-- o.m(..), o of the class c -/
def eMeth (c : Nat) (m : Str) (n : Nat) (g : FV) (fo : EV) (ga : AV) : EV := fun env st => (fo env st).bind fun o => match o.1 with
  | .ref i => match o.2[i]? with
    | some (.ins c' fs) => if c' = c ∧ fs.lookup m = none then (ga env o.2).bind fun a => if a.1.length + 1 = n then g (.ref i :: a.1) a.2 else .bad else .bad
    | _ => .bad
  | _ => .bad
theorem meth_post {m : Str} {c : Nat} {fo : EV} {to : TE} {ta : TA}
    (qo : ∀ Rs F H r sg env st Q, Holds W Rs F H r st → EnvOk F r sg env → Post W Rs F r (fo env st) Q E → to sg H Q)
    (qa : ∀ Rs F H r sg env st Q, Holds W Rs F H r st → EnvOk F r sg env → PostA W Rs F r (ga env st) Q E → ta sg H Q)
    {Rs F H r sg env st Q} (hH : Holds W Rs F H r st) (hE : EnvOk F r sg env) (hP : Post W Rs F r (eMeth c m n g fo ga env st) Q E) : tMeth (W.cls c) m (spD W n g) [] E to ta sg H Q := by
  refine qo Rs F H r sg env st _ hH hE (bindX hP fun o eo z F1 H1 r1 v1 s1 x1 h1 k1 => ?_)
  obtain ⟨d, st1⟩ := o
  cases k1 with
  | @ref a i e =>
    simp only at z
    split at z
    · rename_i c' fs e1
      split at z
      · rename_i hc
        obtain ⟨rfl, hm⟩ := hc
        obtain ⟨dx, vfs, e2, k2⟩ := h1.ob i a _ e e1
        refine ⟨a, dx, vfs, rfl, e2, k2.lookN hm, ?_⟩
        refine qa Rs F1 H1 r1 sg env st1 _ h1 (hE.mono s1 x1) (bindX (Post.later s1 x1 z) fun b eb z2 F2 H2 r2 vs s2 x2 h2 k2 => ?_)
        by_cases hl : b.1.length + 1 = n
        · rw [if_pos hl] at z2
          exact ⟨Rs, F2, r2, b.2, .ref i :: b.1, h2, by rw [List.append_nil]; exact .cons (.ref (x2 _ _ e)) k2, hl, Post.later s2 x2 z2⟩
        · rw [if_neg hl] at z2; exact z2.elim
      · exact z.elim
    · exact z.elim
  | _ => exact z.elim
theorem de_meth {o : Expr} {fo : EV} {c : Nat} {m : Str} {pl : Sem Bool} (hK : X.K = W.K) (he : DE W X E o fo) (cl : Cls W.K (W.cls c)) (hm : Meth W.K (W.cls c) m f) (F : FnOk X.prog X.w W.K X.mg X.base CX k f fd ps (spD W n g)) (hr : Room j X.A) (hj : k ≤ j) (hb : Binds W.K fd ps []) (hx : Passes CX X E) (ha : DA W X E (e :: es) ga)
    (hst : starEach (e :: es) X.env = (false, eval e X.env) :: starEach es X.env := by rfl) (hpl : (backTo pos (starEach es X.env)).any (·.1) = false := by rfl)
    (ht : eval (.Call (.Attribute o m apos) (e :: es) [] pos) X.env = (do
      let ov ← eval o X.env
      standAt apos.atName
      let (f, first) ← holding [ov] (getMethod ov m pl)
      callWith pos f first (backTo pos (starEach (e :: es) X.env)) (backToKw pos (keywordEach [] X.env))) := by rfl) :
    DE W X E (.Call (.Attribute o m apos) (e :: es) [] pos) (eMeth c m n g fo ga) := by
  obtain ⟨to, po, qo⟩ := he.ex
  obtain ⟨ta, pa, qa⟩ := ha.ex
  exact .mk (pe_meth (pl := pl) (C := W.cls c) (sp := spD W n g) po (by rw [hK]; exact cl) (by rw [hK]; exact hm) (by rw [hK]; exact F) (hr.mono hj) (by rw [hK]; exact hb) .nil hx pa hst hpl ht) fun Rs F H r sg env st Q hH hE hP => meth_post qo qa hH hE hP
theorem de_meth0 {o : Expr} {fo : EV} {c : Nat} {m : Str} {pl : Sem Bool} (hK : X.K = W.K) (he : DE W X E o fo) (cl : Cls W.K (W.cls c)) (hm : Meth W.K (W.cls c) m f) (F : FnOk X.prog X.w W.K X.mg X.base CX k f fd ps (spD W n g)) (hr : Room j X.A) (hj : k ≤ j) (hb : Binds W.K fd ps []) (hx : Passes CX X E)
    (h : ∀ {to : TE}, PE X o to → PE X (.Call (.Attribute o m apos) [] [] pos) (tMeth (W.cls c) m (spD W n g) [] E to tNil)) :
    DE W X E (.Call (.Attribute o m apos) [] [] pos) (eMeth c m n g fo aNil) := by
  obtain ⟨to, po, qo⟩ := he.ex
  exact .mk (h po) fun Rs F H r sg env st Q hH hE hP => meth_post (ga := aNil) qo (fun Rs F H r sg env st Q hH hE hP => hP F H r [] (Same.refl _) (Ext.refl _) hH .nil) hH hE hP
theorem Holds.waste {Rs F H : Hp} {r : List Addr} {st : Store} {q : Addr} {o : HO} (h : Holds W Rs F H r st) (e : H q = none) : Holds W Rs F (upd H q o) r st := by
  refine ⟨fun c u z => ?_, fun c u z => ?_, h.dj, h.len, h.nd, h.own, fun i a b e1 e2 => ?_, ⟨fun t ht => ?_, h.tb.nF, h.tb.nR⟩⟩
  · rw [upd_ne (ne_of_none z (h.freeF e))]; exact h.sF _ _ z
  · rw [upd_ne (ne_of_none z (h.freeR e))]; exact h.sR _ _ z
  · have hc : a ≠ q := fun z => h.notin e (z ▸ List.mem_of_getElem? e1)
    exact (h.ob i a b e1 e2).mono (Same.refl _) (Ext.refl _) (upd_ne hc)
  · obtain ⟨t1, t2, t3, t4⟩ := h.tb.at_ t ht
    exact ⟨t1.ext fun b u z => by rw [upd_ne (ne_of_none z e)]; exact z, t2, t3, t4⟩
/-- C(..) -/
def eMake (c : Nat) (n : Nat) (g : FV) (ga : AV) : EV := fun env st => (ga env st).bind fun a => if a.1.length + 1 = n then (g (.ref a.2.length :: a.1) (a.2 ++ [.ins c []])).bind fun b => match b.1 with
  | .non => .ok (.ref a.2.length, b.2)
  | _ => .bad else .bad
theorem make_post {c : Nat} {ta : TA}
    (qa : ∀ Rs F H r sg env st Q, Holds W Rs F H r st → EnvOk F r sg env → PostA W Rs F r (ga env st) Q E → ta sg H Q)
    {Rs F H r sg env st Q} (hH : Holds W Rs F H r st) (hE : EnvOk F r sg env) (hP : Post W Rs F r (eMake c n g ga env st) Q E) : tMake (W.cls c) (spD W n g) [] E ta sg H Q := by
  refine qa Rs F H r sg env st _ hH hE (bindX hP fun a ea z F1 H1 r1 vs s1 x1 h1 k1 => ?_)
  intro x dx hx hdx hne
  by_cases hl : a.1.length + 1 = n
  · rw [if_pos hl] at z
    have hx' : upd H1 dx (.own x) x = none := by rw [upd_ne (Ne.symm hne)]; exact hx
    have h2 := (h1.waste (o := .own x) hdx).fresh (o := .ins (W.cls c) dx []) (b := .ins c []) hx' ⟨dx, [], upd_same, trivial⟩
    have e1 : (r1 ++ [x])[a.2.length]? = some x := by rw [← h1.len, List.getElem?_append_right (Nat.le_refl _)]; simp
    refine ⟨Rs, F1, r1 ++ [x], a.2 ++ [.ins c []], .ref a.2.length :: a.1, h2, by rw [List.append_nil]; exact .cons (.ref e1) (k1.mono (Same.refl _) (Ext.snoc _ _)), hl, ?_⟩
    have z1 := Post.later s1 (x1.trans (Ext.snoc r1 x)) z
    refine bindX z1 fun b eb z2 F2 H2 r2 v2 s2 x2 h2 k2 => ?_
    obtain ⟨d, st2⟩ := b
    cases d with
    | non => cases k2; exact ⟨rfl, z2 F2 H2 r2 _ s2 x2 h2 (.ref (x2 _ _ e1))⟩
    | _ => exact z2.elim
  · rw [if_neg hl] at z; exact z.elim
theorem de_make {c : Nat} (hK : X.K = W.K) (M : Mk W.K (W.cls c) f) (F : FnOk X.prog X.w W.K X.mg X.base CX k f fd ps (spD W n g)) (hr : Room (j + 1) X.A) (hj : k ≤ j) (hg : Gl X x) (hm : X.mg x = some (.ref (W.cls c))) (hb : Binds W.K fd ps []) (hx : Passes CX X E)
    (ha : DA W X E (e :: es) ga) (hdb : (x == ("__debug__" : Str)) = false := by decide) (he : starEach (e :: es) X.env = (false, eval e X.env) :: starEach es X.env := by rfl) (hpl : (backTo pos (starEach es X.env)).any (·.1) = false := by rfl) :
    DE W X E (.Call (.Name x p) (e :: es) [] pos) (eMake c n g ga) := by
  obtain ⟨ta, pa, qa⟩ := ha.ex
  exact .mk (pe_make (C := W.cls c) (sp := spD W n g) (by rw [hK]; exact M) (by rw [hK]; exact F) (hr.mono (by omega)) hg hm (by rw [hK]; exact hb) .nil hx pa hdb he hpl) fun Rs F H r sg env st Q hH hE hP => make_post qa hH hE hP
end
def eFld (c : Nat) (f : Str) (fo : EV) : EV := fun env st => (fo env st).bind fun o => match o.1 with
  | .ref i => match o.2[i]? with
    | some (.ins c' fs) => if c' = c then (match fs.lookup f with
      | some d => .ok (d, o.2)
      | none => .bad) else .bad
    | _ => .bad
  | _ => .bad
theorem de_fld {o : Expr} {fo : EV} {c : Nat} {f : Str} {pos : Pos} (hK : X.K = W.K) (he : DE W X E o fo) (cl : Cls W.K (W.cls c)) (na : NoAttr W.K (W.cls c) f) (hb : attributeBase o f X.env (eval o X.env) = eval o X.env := by rfl) : DE W X E (.Attribute o f pos) (eFld c f fo) := by
  obtain ⟨to, po, qo⟩ := he.ex
  refine .mk (pe_fld po hb) fun Rs F H r sg env st Q hH hE hP => ?_
  refine qo Rs F H r sg env st _ hH hE (bindX hP fun o eo z F1 H1 r1 v1 s1 x1 h1 k1 => ?_)
  obtain ⟨d, st1⟩ := o
  cases k1 with
  | @ref a i e =>
    simp only at z
    split at z
    · rename_i c' fs e1
      split at z
      · rename_i hc
        subst hc
        split at z
        · rename_i d e3
          obtain ⟨dx, vfs, e2, k2⟩ := h1.ob i a _ e e1
          obtain ⟨v, e4, k4⟩ := k2.look e3
          rw [hK]
          exact ⟨a, _, dx, vfs, v, rfl, e2, cl, na, e4, z F1 H1 r1 v s1 x1 h1 k4⟩
        · exact z.elim
      · exact z.elim
    · exact z.elim
  | _ => exact z.elim
def sFldD (c : Nat) (f : Str) (fo fv : EV) : SV := fun env st => sOf (fv env st) fun v => sOf (fo env v.2) fun o => match o.1 with
  | .ref i => match o.2[i]? with
    | some (.ins c' fs) => if c' = c ∧ fs.length < 900 then .nx env (o.2.set i (.ins c' (putD f v.1 fs))) else .bad
    | _ => .bad
  | _ => .bad
theorem ds_fld {o value : Expr} {fo fv : EV} {c : Nat} {f : Str} {pos pos' : Pos} (hK : X.K = W.K) (he : DE W X E o fo) (hv : DE W X E value fv) (cl : Cls W.K (W.cls c)) (na : NoAttr W.K (W.cls c) f) (hs : swapsWith value (some (.Attribute o f pos')) pos.line X.env = pure false := by rfl) :
    DS W X E (.Assign [.Attribute o f pos'] value pos) (sFldD c f fo fv) := by
  obtain ⟨to, po, qo⟩ := he.ex
  obtain ⟨tv, pv, qv⟩ := hv.ex
  refine .mk (ps_fld po pv hs) fun Rs F H r sg env st D hH hE hP => ?_
  refine qv Rs F H r sg env st _ hH hE (bindS hP fun b eb zb F0 H0 r0 v0 s0 x0 h0 k0 => ?_)
  refine qo Rs F0 H0 r0 sg env b.2 _ h0 (hE.mono s0 x0) (bindS (PostS.later s0 x0 zb) fun o eo z F1 H1 r1 v1 s1 x1 h1 k1 => ?_)
  obtain ⟨d, st1⟩ := o
  cases k1 with
  | @ref a i e =>
    simp only at z
    split at z
    · rename_i c' fs e1
      split at z
      · rename_i hc
        obtain ⟨rfl, hl⟩ := hc
        obtain ⟨dx, vfs, e2, k2⟩ := h1.ob i a _ e e1
        rw [hK]
        refine ⟨a, _, dx, vfs, rfl, e2, cl, na, by rw [k2.length]; omega, ?_⟩
        exact z F1 _ r1 sg s1 x1 (h1.write e ⟨dx, _, upd_same, Flds.put (k0.mono s1 x1) k2⟩) (hE.mono (s0.trans s1) (x0.trans x1))
      · exact z.elim
    · exact z.elim
  | _ => exact z.elim
/-- e.f += value, ints -/
def sFldAdd (c : Nat) (f : Str) (fo fv : EV) : SV := fun env st => sOf (fo env st) fun o => match o.1 with
  | .ref i => match o.2[i]? with
    | some (.ins c' fs) => if c' = c then (match fs.lookup f with
      | some (.int a) => sOf (fv env o.2) fun v => match v.1, v.2[i]? with
        | .int b, some (.ins c2 fs2) => if c2 = c ∧ fs2.length < 900 then .nx env (v.2.set i (.ins c2 (putD f (.int (a + b)) fs2))) else .bad
        | _, _ => .bad
      | _ => .bad) else .bad
    | _ => .bad
  | _ => .bad
end
end Dl
namespace Dl
open PySem L2
section
variable {W : Wd} {X : Cx} {E : XK}
def ixG : G2 := fun st d e => match d, e with
  | .tup ds, .int i => R.of ((atI ds i).map fun x => (x, st))
  | .str s, .int i => R.of ((atI s i).map fun c => (.str [c], st))
  | d, .int i => match lstOf st d with
    | some ds => R.of ((atI ds i).map fun x => (x, st))
    | none => .bad
  | _, _ => .bad
theorem Reps.atI {F : Hp} {r : List Addr} {vs : List V} {ds : List D} {i : Int} {d : D} (h : Reps F r vs ds) (e : L2.atI ds i = some d) : ∃ v, L2.atI vs i = some v ∧ Rep F r v d := by
  unfold L2.atI at e ⊢
  rw [h.length]
  cases q : ixN ds.length i with
  | none => rw [q] at e; cases e
  | some j => rw [q] at e; exact h.get e
theorem de_ix {a b : Expr} {fa fb : EV} {pos : Pos} (hK : X.K = W.K) (ha : DE W X E a fa) (hb : DE W X E b fb) (hs : PlainIx b) : DE W X E (.Subscript a b pos) (eOp ixG fa fb) := by
  obtain ⟨ta, pa, qa⟩ := ha.ex
  obtain ⟨tb, pb, qb⟩ := hb.ex
  refine .mk (pe_ix ix_seq pa pb hs) fun Rs F H rr sg env st Q hH hE hP => eOp_post qa qb ?_ hH hE hP
  intro Rs F H rr st x y dx dy Q E h kx ky hP
  have lists : ∀ i, y = .int i → (match lstOf st dx with
    | some ds => R.of ((atI ds i).map fun x => (x, st))
    | none => (.bad : R (D × Store))) = ixG st dx dy → rIxL X.K x y H Q := fun i ey eq => by
    rw [← eq] at hP
    split at hP
    · rename_i ds e1
      obtain ⟨p, vs, rfl, h1, k1⟩ := lstOf_ok h kx e1
      cases e2 : atI ds i with
      | none => rw [e2] at hP; exact hP.elim
      | some d =>
        rw [e2] at hP
        obtain ⟨v, e3, k⟩ := k1.atI e2
        exact ⟨p, vs, i, v, rfl, ey, .of h1, e3, onE_here h k hP⟩
    · exact hP.elim
  cases ky with
  | int i =>
    cases kx with
    | @tup p vs ds q k1 =>
      unfold ixG at hP
      simp only at hP
      cases e2 : atI ds i with
      | none => rw [e2] at hP; exact hP.elim
      | some d =>
        rw [e2] at hP
        obtain ⟨v, e3, k⟩ := k1.atI e2
        exact .inr (.inl ⟨p, vs, i, v, rfl, rfl, .of (h.sF _ _ q), e3, onE_here h k hP⟩)
    | str s hs hl =>
      unfold ixG at hP
      simp only at hP
      cases e2 : atI s i with
      | none => rw [e2] at hP; exact hP.elim
      | some c =>
        rw [e2] at hP
        have hc : c < 128 := by
          obtain ⟨j, _, e3, _⟩ := atI_get e2
          exact of_decide_eq_true (List.all_eq_true.mp hs c (List.mem_of_getElem? e3))
        exact .inr (.inr ⟨_, i, c, rfl, rfl, by rw [len_mk]; exact lim_line hl, e2, onE_here h (.str [c] (by simp [hc]) (by simp [LIM])) hP⟩)
    | non => exact .inl (lists _ rfl rfl)
    | bl b => exact .inl (lists _ rfl rfl)
    | int b => exact .inl (lists _ rfl rfl)
    | lst q k => exact .inl (lists _ rfl rfl)
    | ref q => exact .inl (lists _ rfl rfl)
    | scr q => exact .inl (lists _ rfl rfl)
    | exn0 => exact .inl (lists _ rfl rfl)
    | exn1 q => exact .inl (lists _ rfl rfl)
  | _ => cases kx <;> exact hP.elim
/-- a part of a slice -/
def poNone : Env → Store → R (Option Int × Store) := fun _ st => .ok (none, st)
def poSome (f : EV) : Env → Store → R (Option Int × Store) := fun env st => (f env st).bind fun a => match a.1 with
  | .int i => .ok (some i, a.2)
  | _ => .bad
def DP (W : Wd) (X : Cx) (E : XK) (e : Option Expr) (f : Env → Store → R (Option Int × Store)) : Prop := ∃ t, PO X e t ∧ ∀ Rs F H r sg env st (Q : Option Int → Hp → Prop), Holds W Rs F H r st → EnvOk F r sg env →
  PostX W Rs F r (f env st) (fun a => ∀ F' H' r', Same F F' → Ext r r' → Holds W Rs F' H' r' a.2 → Q a.1 H') E → t sg H Q
theorem dp_none : DP W X E none poNone := ⟨_, po_none, fun Rs F H r sg env st Q hH hE hP => hP F H r (Same.refl _) (Ext.refl _) hH⟩
theorem dp_some {e : Expr} {f : EV} (h : DE W X E e f) : DP W X E (some e) (poSome f) := by
  obtain ⟨t, p, q⟩ := h.ex
  refine ⟨_, po_some p, fun Rs F H r sg env st Q hH hE hP => ?_⟩
  refine q Rs F H r sg env st _ hH hE (bindX hP fun a ea z F1 H1 r1 v1 s1 x1 h1 k1 => ?_)
  obtain ⟨d, st1⟩ := a
  cases k1 with
  | int i => exact ⟨i, rfl, z F1 H1 r1 s1 x1 h1⟩
  | _ => exact z.elim
/-- what xs[lo:hi] is -/
def cutD {A : Type} (xs : List A) (lo hi : Option Int) : List A := (xs.drop (HT.sIx xs.length 0 lo)).take (HT.sIx xs.length xs.length hi - HT.sIx xs.length 0 lo)
theorem cutD_le {A : Type} (xs : List A) (lo hi : Option Int) : (cutD xs lo hi).length ≤ xs.length := by
  unfold cutD
  rw [List.length_take, List.length_drop]
  omega
theorem Reps.cut {F : Hp} {r : List Addr} {vs : List V} {ds : List D} (h : Reps F r vs ds) (lo hi : Option Int) : Reps F r (cutV vs lo hi) (cutD ds lo hi) := by
  unfold cutV cutD
  rw [h.length]
  exact (h.drop _).take _
def slG (m : Bool) (st : Store) (d : D) (lo hi : Option Int) : R (D × Store) := match d with
  | .tup ds => .ok (.tup (cutD ds lo hi), st)
  | .str s => .ok (.str (cutD s lo hi), st)
  | d => match lstOf st d with
    | some ds => newL m (cutD ds lo hi) st
    | none => .bad
def eSl (m : Bool) (f : EV) (l h : Env → Store → R (Option Int × Store)) : EV := fun env st => (f env st).bind fun a => (l env a.2).bind fun b => (h env b.2).bind fun c => slG m c.2 a.1 b.1 c.1
theorem cutS_mk (s : List Nat) (lo hi : Option Int) : cutS ⟨s.toArray⟩ lo hi = ⟨(cutD s lo hi).toArray⟩ := by
  unfold cutS cutD
  simp [Str.length]
theorem cut_whole {A : Type} (xs : List A) (lo hi : Option Int) (h : HT.sIx xs.length 0 lo = 0 ∧ HT.sIx xs.length xs.length hi = xs.length) : cutD xs lo hi = xs := by
  unfold cutD
  rw [h.1, h.2]
  simp
theorem de_sl (m : Bool) {e : Expr} {lo hi : Option Expr} {f : EV} {l h : Env → Store → R (Option Int × Store)} {p2 pos : Pos} (hK : X.K = W.K) (he : DE W X E e f) (hl : DP W X E lo l) (hu : DP W X E hi h) : DE W X E (.Subscript e (.Slice lo hi none p2) pos) (eSl m f l h) := by
  obtain ⟨t, p, q⟩ := he.ex
  obtain ⟨tl, pl, ql⟩ := hl
  obtain ⟨tu, pu, qu⟩ := hu
  refine .mk (pe_slice (sl_tupA.or (sl_str.or sl_list)) p pl pu) fun Rs F H rr sg env st Q hH hE hP => ?_
  refine q Rs F H rr sg env st _ hH hE (bindX hP fun a ea z F1 H1 r1 v1 s1 x1 h1 k1 => ?_)
  refine ql Rs F1 H1 r1 sg env a.2 _ h1 (hE.mono s1 x1) (bindX (Post.later s1 x1 (res := (l env a.2).bind _) z) fun b eb z2 F2 H2 r2 s2 x2 h2 => ?_)
  refine qu Rs F2 H2 r2 sg env b.2 _ h2 (hE.mono (s1.trans s2) (x1.trans x2)) (bindX (Post.later s2 x2 (res := (h env b.2).bind _) z2) fun c ec z3 F3 H3 r3 s3 x3 h3 => ?_)
  replace z3 := Post.later s3 x3 z3
  replace k1 := k1.mono (s2.trans s3) (x2.trans x3)
  have lists : (match lstOf c.2 a.1 with
    | some ds => newL m (cutD ds b.1 c.1) c.2
    | none => (.bad : R (D × Store))) = slG m c.2 a.1 b.1 c.1 → rSlL X.K v1 b.1 c.1 H3 Q := fun eq => by
    rw [← eq] at z3
    split at z3
    · rename_i ds e1
      obtain ⟨p, vs, rfl, h4, k4⟩ := lstOf_ok h3 k1 e1
      exact ⟨p, vs, rfl, .of h4, fun pp hp => newL_post h3 (k4.cut _ _) z3 hp⟩
    · exact z3.elim
  obtain ⟨d, st1⟩ := a
  cases k1 with
  | @tup p vs ds q1 k1 =>
    refine .inl ⟨p, vs, rfl, .of (h3.sF _ _ q1), fun hw => ?_, fun _ pp hp => ?_⟩
    · have e : cutD ds b.1 c.1 = ds := cut_whole ds _ _ (by rw [← k1.length]; exact hw)
      refine onE_here h3 (.tup q1 k1) ?_
      have z4 : onE W Rs F3 r3 Q (.tup (cutD ds b.1 c.1), c.2) := z3
      rw [e] at z4; exact z4
    · exact tup_post h3 (k1.cut _ _) z3 hp
  | str s hs hl =>
    refine .inr (.inl ⟨_, rfl, by rw [len_mk]; exact lim_line hl, ?_⟩)
    rw [cutS_mk]
    refine onE_here h3 (.str _ ?_ (Nat.le_trans (cutD_le _ _ _) hl)) z3
    rw [List.all_eq_true] at hs ⊢
    intro x hx
    exact hs x (List.mem_of_mem_drop (List.mem_of_mem_take hx))
  | non => exact .inr (.inr (lists rfl))
  | bl b => exact .inr (.inr (lists rfl))
  | int b => exact .inr (.inr (lists rfl))
  | lst q k => exact .inr (.inr (lists rfl))
  | ref q => exact .inr (.inr (lists rfl))
  | scr q => exact .inr (.inr (lists rfl))
  | exn0 => exact .inr (.inr (lists rfl))
  | exn1 q => exact .inr (.inr (lists rfl))
abbrev GA := Store → List D → R (D × Store)
def DC (W : Wd) (X : Cx) (v : Value) (g : GA) : Prop := ∃ r, CallR X v r ∧ ∀ Rs F H rr st vs ds Q E, Holds W Rs F H rr st → Reps F rr vs ds → Post W Rs F rr (g st ds) Q E → r vs H Q
def eB (g : GA) (ga : AV) : EV := fun env st => (ga env st).bind fun a => g a.2 a.1
section
variable {x : Str} {e : Expr} {es : List Expr} {p pos : Pos} {ga : AV} {g : GA} {id T : String}
theorem de_callB (hc : DC W X (.builtin id) g) (hg : Gl X x) (hm : X.mg x = none) (hv : bootBuiltins x = some (.builtin id)) (ha : DA W X E (e :: es) ga) (h : ∀ {r : List V → Hp → VK → Prop} {t : TA}, CallR X (.builtin id) r → PA X (e :: es) t → PE X (.Call (.Name x p) (e :: es) [] pos) (tCB r t)) :
    DE W X E (.Call (.Name x p) (e :: es) [] pos) (eB g ga) := by
  obtain ⟨r, hr, qr⟩ := hc
  obtain ⟨t, pa, q⟩ := ha.ex
  refine .mk (h hr pa) fun Rs F H rr sg env st Q hH hE hP => ?_
  exact q Rs F H rr sg env st _ hH hE (bindX hP fun a ea z F1 H1 r1 vs s1 x1 h1 k1 => qr Rs F1 H1 r1 a.2 vs a.1 Q E h1 k1 (Post.later s1 x1 z))
theorem de_callTy (hc : DC W X (.type T) g) (hg : Gl X x) (hm : X.mg x = none) (hv : bootBuiltins x = some (.type T)) (ha : DA W X E (e :: es) ga) (h : ∀ {r : List V → Hp → VK → Prop} {t : TA}, CallR X (.type T) r → PA X (e :: es) t → PE X (.Call (.Name x p) (e :: es) [] pos) (tCB r t)) :
    DE W X E (.Call (.Name x p) (e :: es) [] pos) (eB g ga) := by
  obtain ⟨r, hr, qr⟩ := hc
  obtain ⟨t, pa, q⟩ := ha.ex
  refine .mk (h hr pa) fun Rs F H rr sg env st Q hH hE hP => ?_
  exact q Rs F H rr sg env st _ hH hE (bindX hP fun a ea z F1 H1 r1 vs s1 x1 h1 k1 => qr Rs F1 H1 r1 a.2 vs a.1 Q E h1 k1 (Post.later s1 x1 z))
end
def lenG : GA := fun st ds => match ds with
  | [.str s] => .ok (.int s.length, st)
  | [.tup ds] => .ok (.int ds.length, st)
  | [.scr ns] => .ok (.int ns.length, st)
  | [d] => match lstOf st d with
    | some ds => .ok (.int ds.length, st)
    | none => .bad
  | _ => .bad
theorem dc_len : DC W X (.builtin "len") lenG := ⟨_, call_len, fun Rs F H rr st vs ds Q E h k hP => by
  match vs, ds, k with
  | [v], [d], .cons k .nil =>
    have lists : (match lstOf st d with
      | some ds => .ok (.int ds.length, st)
      | none => (.bad : R (D × Store))) = lenG st [d] → LenV X.K v H (match lstOf st d with | some ds => ds.length | none => 0) ∧ Q (.int (match lstOf st d with | some ds => (ds.length : Nat) | none => 0 : Nat)) H := fun eq => by
      rw [← eq] at hP
      split at hP
      · rename_i ds e1
        obtain ⟨p, vs, rfl, h1, k1⟩ := lstOf_ok h k e1
        exact ⟨.inl ⟨vs, .of h1, k1.length.symm⟩, onE_here h (.int _) hP⟩
      · exact hP.elim
    cases k with
    | str s hs hl => exact ⟨_, _, rfl, ⟨by rw [len_mk]; exact lim_line hl, (len_mk s).symm⟩, onE_here h (.int _) hP⟩
    | tup q k1 => exact ⟨_, _, rfl, .inr ⟨_, .of (h.sF _ _ q), k1.length.symm⟩, onE_here h (.int _) hP⟩
    | @scr a ns q => exact ⟨_, ns.length, rfl, .inl ⟨_, q.sq h.sF, by simp⟩, onE_here h (.int _) hP⟩
    | non => exact ⟨_, _, rfl, lists rfl⟩
    | bl b => exact ⟨_, _, rfl, lists rfl⟩
    | int b => exact ⟨_, _, rfl, lists rfl⟩
    | lst q k => exact ⟨_, _, rfl, lists rfl⟩
    | ref q => exact ⟨_, _, rfl, lists rfl⟩
    | exn0 => exact ⟨_, _, rfl, lists rfl⟩
    | exn1 q => exact ⟨_, _, rfl, lists rfl⟩
  | [], [], _ => exact hP.elim
  | _ :: _ :: _, d :: e :: _, _ => cases d <;> exact hP.elim⟩
/-- all ints -/
def intsOf : List D → Option (List Int)
  | [] => some []
  | .int i :: r => match intsOf r with
    | some l => some (i :: l)
    | none => none
  | _ => none
@[simp] theorem intsOf_map (ns : List Int) : intsOf (ns.map D.int) = some ns := by
  induction ns with
  | nil => rfl
  | cons n ns ih => simp [intsOf, ih]
/-- the greatest, the least of some -/
def maxL : List Int → Int
  | [] => 0
  | [a] => a
  | a :: b :: r => max a (maxL (b :: r))
def minL : List Int → Int
  | [] => 0
  | [a] => a
  | a :: b :: r => min a (minL (b :: r))
def maxG : GA := fun st ds => match ds with
  | [.int i, .int j] => .ok (.int (max i j), st)
  | [d] => match (lstOf st d).bind intsOf with
    | some ns => if ns ≠ [] then .ok (.int (maxL ns), st) else .bad
    | none => .bad
  | _ => .bad
def minG : GA := fun st ds => match ds with
  | [.int i, .int j] => .ok (.int (min i j), st)
  | [d] => match (lstOf st d).bind intsOf with
    | some ns => if ns ≠ [] then .ok (.int (minL ns), st) else .bad
    | none => .bad
  | _ => .bad
def intG : GA := fun st ds => match ds with
  | [.int i] => .ok (.int i, st)
  | [.bl b] => .ok (.int (if b then 1 else 0), st)
  | _ => .bad
theorem dc_int : DC W X (.type "int") intG := ⟨_, call_int1, fun Rs F H rr st vs ds Q E h k hP => by
  unfold intG at hP
  split at hP
  · match k with
    | .cons (.int i) .nil => exact .inl ⟨i, rfl, onE_here h (.int _) hP⟩
  · match k with
    | .cons (.bl b) .nil => exact .inr ⟨b, rfl, onE_here h (.int _) hP⟩
  · exact hP.elim⟩
def ordG : GA := fun st ds => match ds with
  | [.str [c]] => .ok (.int c, st)
  | _ => .bad
theorem dc_ord : DC W X (.builtin "ord") ordG := ⟨_, call_ord, fun Rs F H rr st vs ds Q E h k hP => by
  unfold ordG at hP
  split at hP
  · cases k with
    | cons k k2 =>
      cases k2
      cases k
      exact ⟨_, rfl, rfl, onE_here h (.int _) hP⟩
  · exact hP.elim⟩
def listG (m : Bool) : GA := fun st ds => match ds with
  | [.tup ds] => newL m ds st
  | [.scr ns] => newL m (ns.map .int) st
  | [d] => match lstOf st d with
    | some ds => newL m ds st
    | none => .bad
  | _ => .bad
theorem dc_list (m : Bool) : DC W X (.type "list") (listG m) := ⟨_, call_list_of, fun Rs F H rr st vs ds Q E h k hP => by
  unfold listG at hP
  split at hP
  · match k with
    | .cons (.tup q k) .nil => exact ⟨_, _, rfl, .inr (.of (h.sF _ _ q)), fun l hl => newL_post h k hP hl⟩
  · rename_i ns
    match k with
    | .cons (.scr q) .nil => exact ⟨_, _, rfl, .inl (q.sq h.sF), fun l hl => newL_post h (reps_ints ns) hP hl⟩
  · rename_i d _ _
    match k with
    | .cons k .nil =>
      split at hP
      · rename_i ds e1
        obtain ⟨p, vs, rfl, h1, k1⟩ := lstOf_ok h k e1
        exact ⟨p, vs, rfl, .inl (.of h1), fun l hl => newL_post h k1 hP hl⟩
      · exact hP.elim
  · exact hP.elim⟩
def tupG : GA := fun st ds => match ds with
  | [.tup ds] => .ok (.tup ds, st)
  | [d] => match lstOf st d with
    | some ds => .ok (.tup ds, st)
    | none => .bad
  | _ => .bad
theorem dc_tup : DC W X (.type "tuple") tupG := ⟨_, call_tuple_of, fun Rs F H rr st vs ds Q E h k hP => by
  unfold tupG at hP
  split at hP
  · match k with
    | .cons (.tup q k) .nil => exact ⟨_, _, rfl, .inr ⟨.of (h.sF _ _ q), onE_here h (.tup q k) hP⟩⟩
  · rename_i d _
    match k with
    | .cons k .nil =>
      split at hP
      · rename_i ds e1
        obtain ⟨p, vs, rfl, h1, k1⟩ := lstOf_ok h k e1
        exact ⟨p, vs, rfl, .inl ⟨.of h1, fun l hl => tup_post h k1 hP hl⟩⟩
      · exact hP.elim
  · exact hP.elim⟩
def tyOf (st : Store) : D → Option String
  | .non => some "NoneType"
  | .bl _ => some "bool"
  | .int _ => some "int"
  | .str _ => some "str"
  | .tup _ => some "tuple"
  | .lst _ => some "list"
  | .scr _ => some "list"
  | .exn _ _ => none
  | .ref n => match st[n]? with
    | some (.lst _) => some "list"
    | some (.dK _) => some "dict"
    | some (.dT _) => some "dict"
    | _ => none
theorem tyOf_ok {Rs F H : Hp} {r : List Addr} {st : Store} {v : V} {d : D} {t : String} {K : PySem.W.Frag} (h : Holds W Rs F H r st) (k : Rep F r v d) (e : tyOf st d = some t) : TyX K H v (.type t) := by
  cases k with
  | non => cases e; exact .base .non
  | bl b => cases e; exact .base (.bl b)
  | int b => cases e; exact .base (.int b)
  | str b => cases e; exact .base (.str _)
  | tup q k => cases e; exact .base (.tup (h.sF _ _ q))
  | lst q k => cases e; exact .base (.lst (h.sF _ _ q))
  | scr q =>
    cases e
    rcases q with ⟨o, q⟩ | q
    · exact .base (.frz (h.sF _ _ q))
    · exact .base (.lst (h.sF _ _ q))
  | exn0 => cases e
  | exn1 q => cases e
  | @ref a n q =>
    unfold tyOf at e
    simp only at e
    split at e
    · rename_i e1; cases e; obtain ⟨vs, q1, _⟩ := h.ob n a _ q e1; exact .base (.lst q1)
    · rename_i e1; cases e; obtain ⟨vs, q1, _⟩ := h.ob n a _ q e1; exact .base (.dK q1)
    · rename_i e1; cases e; obtain ⟨vs, q1, _⟩ := h.ob n a _ q e1; exact .base (.dT q1)
    · cases e
/-- whether the class t is T or under it -/
def subTy (t T : String) : Bool := t == T || (t == "bool" && T == "int")
def isG1 (T : String) : GA := fun st ds => match ds with
  | [d] => match tyOf st d with
    | some t => .ok (.bl (subTy t T), st)
    | none => .bad
  | _ => .bad
def eIs (T : String) (f : EV) : EV := fun env st => (f env st).bind fun a => isG1 T a.2 [a.1]
theorem kits {T : String} (hT : T = "int" ∨ T = "bool" ∨ T = "str" ∨ T = "tuple" ∨ T = "list" ∨ T = "dict") {st : Store} {d : D} {t : String} (e : tyOf st d = some t) {K : PySem.W.Frag} : PySem.W.kitOne K (.type t) (.type T) = some (subTy t T) := by
  have ht : t = "NoneType" ∨ t = "bool" ∨ t = "int" ∨ t = "str" ∨ t = "tuple" ∨ t = "list" ∨ t = "dict" := by
    cases d with
    | ref n =>
      unfold tyOf at e
      simp only at e
      split at e <;> cases e <;> simp
    | _ => cases e <;> simp
  refine kit_ty ?_
  rcases hT with rfl | rfl | rfl | rfl | rfl | rfl <;> rcases ht with rfl | rfl | rfl | rfl | rfl | rfl | rfl <;> decide +kernel
theorem de_isinst {x y : Str} {e : Expr} {f : EV} {T : String} {p p2 pos : Pos} (hT : T = "int" ∨ T = "bool" ∨ T = "str" ∨ T = "tuple" ∨ T = "list" ∨ T = "dict") (he : DE W X E e f) (hy : PE X (.Name y p2) (tC (.ty T)))
    (h : ∀ {r : List V → Hp → VK → Prop} {t : TA}, CallR X (.builtin "isinstance") r → PA X [e, .Name y p2] t → PE X (.Call (.Name x p) [e, .Name y p2] [] pos) (tCB r t))
    (h2 : ∀ {te : TE}, PE X e te → PA X [e, .Name y p2] (tCons te (tCons (tC (.ty T)) tNil))) : DE W X E (.Call (.Name x p) [e, .Name y p2] [] pos) (eIs T f) := by
  obtain ⟨t, p, q⟩ := he.ex
  refine .mk (h call_isi (h2 p)) fun Rs F H rr sg env st Q hH hE hP => ?_
  refine q Rs F H rr sg env st _ hH hE (bindX hP fun a ea z F1 H1 r1 v1 s1 x1 h1 k1 => ?_)
  unfold isG1 at z
  simp only at z
  split at z
  · rename_i t e1
    exact ⟨v1, .ty T, .type t, .type T, _, rfl, .ty T, tyOf_ok h1 k1 e1, kits hT e1, z F1 H1 r1 _ s1 x1 h1 (.bl _)⟩
  · exact z.elim
end
end Dl
namespace Dl
open PySem L2
section
variable {W : Wd} {X : Cx} {E : XK}
abbrev GM := Store → D → List D → R (D × Store)
def DM (W : Wd) (X : Cx) (id : String) (g : GM) : Prop := ∃ r, MtR X id r ∧ ∀ Rs F H rr st v d vs ds Q E, Holds W Rs F H rr st → Rep F rr v d → Reps F rr vs ds → Post W Rs F rr (g st d ds) Q E → r v vs H Q
/-- the type at which a method is looked up -/
def tyM (st : Store) : D → Option String
  | .str _ => some "str"
  | .lst _ => some "list"
  | .scr _ => some "list"
  | .ref n => match st[n]? with
    | some (.lst _) => some "list"
    | some (.dK _) => some "dict"
    | some (.dT _) => some "dict"
    | _ => none
  | _ => none
theorem tyM_ok {Rs F H : Hp} {r : List Addr} {st : Store} {v : V} {d : D} {t : String} {K : PySem.W.Frag} (h : Holds W Rs F H r st) (k : Rep F r v d) (e : tyM st d = some t) : tyV K t v H := by
  cases k with
  | str => cases e; rfl
  | lst q k => cases e; exact .inl ⟨rfl, _, .of (h.sF _ _ q)⟩
  | @scr a ns q => cases e; exact .inl ⟨rfl, _, q.sq h.sF⟩
  | @ref a n q =>
    unfold tyM at e
    simp only at e
    split at e
    · rename_i e1; cases e; obtain ⟨vs, q1, _⟩ := h.ob _ a _ q e1; exact .inl ⟨rfl, _, .of q1⟩
    · rename_i e1; cases e; obtain ⟨vs, q1, _⟩ := h.ob _ a _ q e1; exact .inr (.inr (.inl ⟨rfl, .inl ⟨_, q1⟩⟩))
    · rename_i e1; cases e; obtain ⟨vs, q1, _⟩ := h.ob _ a _ q e1; exact .inr (.inr (.inl ⟨rfl, .inr ⟨_, q1⟩⟩))
    · cases e
  | _ => cases e
def eMt (T : String) (g : GM) (fo : EV) (ga : AV) : EV := fun env st => (fo env st).bind fun o => if tyM o.2 o.1 = some T then (ga env o.2).bind fun a => g a.2 o.1 a.1 else .bad
section
variable {o e : Expr} {es : List Expr} {fo : EV} {ga : AV} {name : Str} {apos cpos : Pos} {T id : String} {g : GM}
theorem de_mt (pa : PlainAttrs T) (slot : Slot T name id) (hty : typeOf (.builtin id) = pure (.type "method_descriptor")) (hm : DM W X id g) (ho : DE W X E o fo) (ha : DA W X E (e :: es) ga)
    (h : ∀ {r : V → List V → Hp → VK → Prop} {to : TE} {t : TA}, MtR X id r → PE X o to → PA X (e :: es) t → PE X (.Call (.Attribute o name apos) (e :: es) [] cpos) (tBM X.K T r to t)) :
    DE W X E (.Call (.Attribute o name apos) (e :: es) [] cpos) (eMt T g fo ga) := by
  obtain ⟨r, hr, qr⟩ := hm
  obtain ⟨to, po, qo⟩ := ho.ex
  obtain ⟨t, pa, qa⟩ := ha.ex
  refine .mk (h hr po pa) fun Rs F H rr sg env st Q hH hE hP => ?_
  refine qo Rs F H rr sg env st _ hH hE (bindX hP fun b eb z F1 H1 r1 v1 s1 x1 h1 k1 => ?_)
  split at z
  · rename_i ht
    refine ⟨tyM_ok h1 k1 ht, ?_⟩
    refine qa Rs F1 H1 r1 sg env b.2 _ h1 (hE.mono s1 x1) (bindX (Post.later s1 x1 z) fun c ec z2 F2 H2 r2 vs s2 x2 h2 k2 => ?_)
    exact qr Rs F2 H2 r2 c.2 v1 b.1 vs c.1 Q E h2 (k1.mono s2 x2) k2 (Post.later s2 x2 z2)
  · exact z.elim
theorem de_mt0 (pa : PlainAttrs T) (slot : Slot T name id) (hty : typeOf (.builtin id) = pure (.type "method_descriptor")) (hm : DM W X id g) (ho : DE W X E o fo)
    (h : ∀ {r : V → List V → Hp → VK → Prop} {to : TE}, MtR X id r → PE X o to → PE X (.Call (.Attribute o name apos) [] [] cpos) (tBM0 X.K T r to)) :
    DE W X E (.Call (.Attribute o name apos) [] [] cpos) (eMt T g fo aNil) := by
  obtain ⟨r, hr, qr⟩ := hm
  obtain ⟨to, po, qo⟩ := ho.ex
  refine .mk (h hr po) fun Rs F H rr sg env st Q hH hE hP => ?_
  refine qo Rs F H rr sg env st _ hH hE (bindX hP fun b eb z F1 H1 r1 v1 s1 x1 h1 k1 => ?_)
  split at z
  · rename_i ht
    exact ⟨tyM_ok h1 k1 ht, qr Rs F1 H1 r1 b.2 v1 b.1 [] [] Q E h1 k1 .nil (Post.later s1 x1 z)⟩
  · exact z.elim
end
def appendG : GM := fun st o ds => match o, ds with
  | .ref n, [d] => match st[n]? with
    | some (.lst xs) => if xs.length < LIM then .ok (.non, st.set n (.lst (xs ++ [d]))) else .bad
    | _ => .bad
  | _, _ => .bad
theorem dm_append : DM W X "list.append" appendG := ⟨_, mt_append, fun Rs F H rr st v d vs ds Q E h ko k hP => by
  unfold appendG at hP
  split at hP
  · split at hP
    · rename_i n d xs e1
      split at hP
      · rename_i hl
        cases ko with
        | @ref a n q =>
          match k with
          | .cons k .nil =>
            obtain ⟨ws, q1, k1⟩ := h.ob _ a _ q e1
            exact ⟨a, ws, _, rfl, rfl, q1, by rw [k1.length]; exact lim_lt (Nat.le_of_lt hl), onE_here (h.write (b := .lst _) q ⟨_, upd_same, Reps.snoc k1 k⟩) .non hP⟩
      · exact hP.elim
    · exact hP.elim
  · exact hP.elim⟩
def popG : GM := fun st o ds => match o, ds with
  | .ref n, [] => match st[n]? with
    | some (.lst xs) => match xs[xs.length - 1]? with
      | some y => .ok (y, st.set n (.lst xs.dropLast))
      | none => .bad
    | _ => .bad
  | .ref n, [.int i] => match st[n]? with
    | some (.lst xs) => match ixN xs.length i with
      | some j => match xs[j]? with
        | some y => if -1000000 ≤ i ∧ i ≤ 1000000 then .ok (y, st.set n (.lst (xs.eraseIdx j))) else .bad
        | none => .bad
      | none => .bad
    | _ => .bad
  | _, _ => .bad
theorem Reps.dropLast {F : Hp} {r : List Addr} {vs : List V} {ds : List D} (h : Reps F r vs ds) : Reps F r vs.dropLast ds.dropLast := by
  rw [List.dropLast_eq_take, List.dropLast_eq_take, h.length]
  exact h.take _
theorem dm_pop : DM W X "list.pop" popG := ⟨_, MtR.or mt_pop mt_popAt, fun Rs F H rr st v d vs ds Q E h ko k hP => by
  unfold popG at hP
  split at hP
  · split at hP
    · rename_i n xs e1
      split at hP
      · rename_i y e2
        cases ko with
        | @ref a n q =>
          match k with
          | .nil =>
            obtain ⟨ws, q1, k1⟩ := h.ob _ a _ q e1
            obtain ⟨z, e3, k3⟩ := k1.get e2
            exact .inl ⟨a, ws, z, rfl, rfl, q1, by rw [k1.length]; exact e3, onE_here (h.write (b := .lst _) q ⟨_, upd_same, k1.dropLast⟩) k3 hP⟩
      · exact hP.elim
    · exact hP.elim
  · split at hP
    · rename_i n i xs e1
      split at hP
      · rename_i j e2
        split at hP
        · rename_i y e3
          split at hP
          · rename_i hb
            cases ko with
            | @ref a n q =>
              match k with
              | .cons (.int _) .nil =>
                obtain ⟨ws, q1, k1⟩ := h.ob _ a _ q e1
                obtain ⟨z, e4, k4⟩ := k1.get e3
                exact .inr ⟨a, ws, _, j, z, rfl, rfl, q1, by omega, by omega, by rw [k1.length]; exact (ixN_seq e2).1, e4, onE_here (h.write (b := .lst _) q ⟨_, upd_same, k1.eraseIdx _⟩) k4 hP⟩
          · exact hP.elim
        · exact hP.elim
      · exact hP.elim
    · exact hP.elim
  · exact hP.elim⟩
def asciiS (s : List Nat) : Bool := s.all fun c => decide (c < 128)
def strsOf : List D → Option (List (List Nat))
  | [] => some []
  | .str s :: r => match strsOf r with
    | some l => some (s :: l)
    | none => none
  | _ => none
@[simp] theorem strsOf_map (ss : List (List Nat)) : strsOf (ss.map D.str) = some ss := by
  induction ss with
  | nil => rfl
  | cons s ss ih => simp [strsOf, ih]
theorem strsOf_ok {F : Hp} {r : List Addr} : ∀ {ds : List D} {vs : List V} {ss : List (List Nat)}, Reps F r vs ds → strsOf ds = some ss → vs = (ss.map fun s => (⟨s.toArray⟩ : Str)).map V.str ∧ ∀ s ∈ ss, asciiS s = true
  | [], _, _, .nil, e => by cases e; exact ⟨rfl, fun _ h => nomatch h⟩
  | .str s :: ds, _, ns, .cons (.str _ h1 h2) k, e => by
    unfold strsOf at e
    cases q : strsOf ds with
    | none => rw [q] at e; cases e
    | some l =>
      rw [q] at e
      cases e
      obtain ⟨a, b⟩ := strsOf_ok k q
      rw [a]
      refine ⟨rfl, fun t ht => ?_⟩
      rcases List.mem_cons.mp ht with rfl | ht
      · exact h1
      · exact b t ht
  | .non :: _, _, _, _, e => by cases e
  | .bl _ :: _, _, _, _, e => by cases e
  | .int _ :: _, _, _, _, e => by cases e
  | .tup _ :: _, _, _, _, e => by cases e
  | .lst _ :: _, _, _, _, e => by cases e
  | .ref _ :: _, _, _, _, e => by cases e
  | .scr _ :: _, _, _, _, e => by cases e
  | .exn _ _ :: _, _, _, _, e => by cases e
def joinG : GM := fun st o ds => match o, ds with
  | .str s, [d] => match (lstOf st d).bind strsOf with
    | some ss => if (ss.map List.length).sum + ss.length * s.length ≤ LIM then .ok (.str (TL.joinL s ss), st) else .bad
    | none => .bad
  | _, _ => .bad
theorem joinL_len (s : List Nat) : ∀ ss : List (List Nat), (TL.joinL s ss).length ≤ (ss.map List.length).sum + ss.length * s.length
  | [] => by simp [TL.joinL]
  | [p] => by simp [TL.joinL]
  | p :: q :: r => by
    have ih := joinL_len s (q :: r)
    simp only [TL.joinL, List.length_append, List.map_cons, List.sum_cons, List.length_cons, Nat.succ_mul] at ih ⊢
    omega
theorem joinL_all {s : List Nat} (hs : asciiS s = true) : ∀ {ss : List (List Nat)}, (∀ t ∈ ss, asciiS t = true) → asciiS (TL.joinL s ss) = true
  | [], _ => rfl
  | [p], h => by simpa [TL.joinL] using h p (by simp)
  | p :: q :: r, h => by
    have ih := joinL_all hs (ss := q :: r) fun t ht => h t (by simp at ht ⊢; exact .inr ht)
    have hp := h p (by simp)
    unfold asciiS at *
    simp only [TL.joinL, List.all_append, hp, hs, ih, Bool.and_self]
theorem join_mk (s : List Nat) (ss : List (List Nat)) : Txt.join ⟨s.toArray⟩ (ss.map fun s => (⟨s.toArray⟩ : Str)) = ⟨(TL.joinL s ss).toArray⟩ := by
  apply TL.ext_tl
  rw [TL.join_eq, TL.tl_join]
  have e : ∀ t : List Nat, TL.tl ⟨t.toArray⟩ = t := fun t => TL.tl_mk t
  rw [List.map_map]
  have e2 : (TL.tl ∘ fun s => (⟨List.toArray s⟩ : Str)) = fun (t : List Nat) => t := by funext t; exact e t
  rw [e, e, e2, List.map_id']
theorem dm_join : DM W X "str.join" joinG := ⟨_, mt_join, fun Rs F H rr st v d vs ds Q E h ko k hP => by
  unfold joinG at hP
  split at hP
  · rename_i s d
    match k with
    | .cons k .nil =>
      cases e1 : lstOf st d with
      | none => rw [e1] at hP; exact hP.elim
      | some ds =>
        rw [e1] at hP
        simp only [Option.bind_some] at hP
        split at hP
        · rename_i ss e2
          split at hP
          · rename_i hl
            cases ko with
            | str s hs hsl =>
              obtain ⟨p, ws, rfl, h1, k1⟩ := lstOf_ok h k e1
              obtain ⟨ev, ha⟩ := strsOf_ok k1 e2
              refine ⟨_, p, ss.map fun s => (⟨s.toArray⟩ : Str), rfl, rfl, .inl (.of (by rw [← ev]; exact h1)), ?_, ?_⟩
              · rw [List.map_map, List.length_map, len_mk]
                have e3 : ((fun (x : Str) => x.length) ∘ fun (s : List Nat) => (⟨s.toArray⟩ : Str)) = List.length := by funext t; exact len_mk t
                rw [e3]
                exact Nat.le_trans hl (by decide)
              · rw [join_mk]
                exact onE_here h (.str _ (joinL_all hs ha) (Nat.le_trans (joinL_len s ss) hl)) hP
          · exact hP.elim
        · exact hP.elim
  · exact hP.elim⟩
/-- s cut at each S -/
def splitL (S s : List Nat) : List (List Nat) := TL.spl S 0 [] s
theorem spl_in (S : List Nat) : ∀ (s : List Nat) (k : Nat) (acc : List Nat), asciiS acc = true → asciiS s = true → ∀ t ∈ TL.spl S k acc s, asciiS t = true ∧ t.length ≤ acc.length + s.length
  | [], k, acc, ha, hs, t, ht => by
    rw [TL.spl_nil] at ht
    simp at ht
    subst ht
    exact ⟨ha, by simp⟩
  | c :: r, 0, acc, ha, hs, t, ht => by
    have hs' : c < 128 ∧ asciiS r = true := by
      unfold asciiS at hs ⊢
      rw [List.all_cons, Bool.and_eq_true] at hs
      exact ⟨of_decide_eq_true hs.1, hs.2⟩
    unfold TL.spl at ht
    split at ht
    · rcases List.mem_cons.mp ht with rfl | ht
      · exact ⟨ha, by simp⟩
      · obtain ⟨a, b⟩ := spl_in S r _ [] rfl hs'.2 t ht
        exact ⟨a, by simp at b ⊢; omega⟩
    · obtain ⟨a, b⟩ := spl_in S r 0 (acc ++ [c]) (by unfold asciiS at ha ⊢; simp [ha, hs'.1]) hs'.2 t ht
      exact ⟨a, by simp at b ⊢; omega⟩
  | c :: r, k + 1, acc, ha, hs, t, ht => by
    have hs' : asciiS r = true := by
      unfold asciiS at hs ⊢
      rw [List.all_cons, Bool.and_eq_true] at hs
      exact hs.2
    unfold TL.spl at ht
    obtain ⟨a, b⟩ := spl_in S r k acc ha hs' t ht
    exact ⟨a, by simp at b ⊢; omega⟩
theorem reps_strs {F : Hp} {r : List Addr} : ∀ {ys : List Str} {ss : List (List Nat)}, ys.map TL.tl = ss → (∀ s ∈ ss, asciiS s = true ∧ s.length ≤ LIM) → Reps F r (ys.map V.str) (ss.map D.str)
  | [], _, e, _ => by subst e; exact .nil
  | y :: ys, _, e, h => by
    subst e
    rw [List.map_cons] at h
    refine .cons ?_ (reps_strs rfl fun s hs => h s (List.mem_cons_of_mem _ hs))
    have := h (TL.tl y) List.mem_cons_self
    have e : y = ⟨(TL.tl y).toArray⟩ := (TL.mk_tl y).symm
    rw [e, TL.tl_mk]
    exact .str _ this.1 this.2
def splitG (m : Bool) : GM := fun st o ds => match o, ds with
  | .str s, [.str t] => if t ≠ [] then newL m ((splitL t s).map D.str) st else .bad
  | _, _ => .bad
theorem dm_split (m : Bool) : DM W X "str.split" (splitG m) := ⟨_, mt_split, fun Rs F H rr st v d vs ds Q E h ko k hP => by
  unfold splitG at hP
  split at hP
  · rename_i s t
    split at hP
    · rename_i hne
      cases ko with
      | str s hs hsl =>
        cases k with
        | cons k k2 =>
          cases k2
          cases k with
          | str t ht htl =>
            refine ⟨_, _, rfl, rfl, ?_, ?_, ?_⟩
            · rw [len_mk, beq_eq_false_iff_ne]
              exact fun z => hne (List.length_eq_zero_iff.mp z)
            · rw [len_mk]
              exact Nat.le_trans (Nat.add_le_add_right hsl 2) (by decide)
            · intro p hp
              have e : (Txt.split ⟨s.toArray⟩ ⟨t.toArray⟩).map TL.tl = splitL t s := TL.split_spl _ _ (by rw [TL.tl_mk]; exact hne) (TL.kind_ok (by
                rw [List.all_eq_true] at ht
                simp only [List.size_toArray, List.all_toArray', List.all_eq_true, decide_eq_true_eq]
                intro x hx
                have := of_decide_eq_true (ht x hx)
                omega))
              exact newL_post h (reps_strs e fun u hu => by
                obtain ⟨a, b⟩ := spl_in t s 0 [] rfl hs u hu
                exact ⟨a, Nat.le_trans b (by simpa using hsl)⟩) hP hp
    · exact hP.elim
  · exact hP.elim⟩
end
mutual
def D.wf (n : Nat) : D → Bool
  | .ref k => decide (k < n)
  | .tup ds => D.wfs n ds
  | .lst ds => D.wfs n ds
  | _ => true
def D.wfs (n : Nat) : List D → Bool
  | [] => true
  | d :: ds => D.wf n d && D.wfs n ds
end
def Ob.wf (n : Nat) : Ob → Bool
  | .lst ds => D.wfs n ds
  | .ins _ fs => fs.all fun p => p.2.wf n
  | .dK kvs => kvs.all fun p => p.2.wf n
  | .dT kvs => kvs.all fun p => p.2.wf n
  | .dead => true
def wfS (st : Store) : Prop := ∀ o ∈ st, o.wf st.length = true
section
variable {F F' : Hp} {r : List Addr}
mutual
theorem Rep.wf : ∀ {d : D} {v : V}, Rep F r v d → d.wf r.length = true
  | _, _, .non => rfl
  | _, _, .bl _ => rfl
  | _, _, .int _ => rfl
  | _, _, .str _ _ _ => rfl
  | _, _, .tup _ k => by unfold D.wf; exact Reps.wf k
  | _, _, .lst _ k => by unfold D.wf; exact Reps.wf k
  | _, _, .ref h => by unfold D.wf; exact decide_eq_true (List.getElem?_eq_some_iff.mp h).1
  | _, _, .scr _ => rfl
  | _, _, .exn0 _ => rfl
  | _, _, .exn1 _ => rfl
theorem Reps.wf : ∀ {ds : List D} {vs : List V}, Reps F r vs ds → D.wfs r.length ds = true
  | _, _, .nil => rfl
  | _, _, .cons h k => by unfold D.wfs; rw [Rep.wf h, Reps.wf k]; rfl
end
theorem Flds.wf {vs : List (Str × V)} {fs : List (Str × D)} (h : Flds F r vs fs) : (fs.all fun p => p.2.wf r.length) = true := by
  induction fs generalizing vs with
  | nil => rfl
  | cons p fs ih =>
    cases vs with
    | nil => exact h.elim
    | cons q vs =>
      obtain ⟨_, k, t⟩ := h
      rw [List.all_cons, k.wf, ih t]; rfl
theorem KVr.wf {A : Type} {vs : List (A × V)} {fs : List (A × D)} (h : KVr F r vs fs) : (fs.all fun p => p.2.wf r.length) = true := by
  induction fs generalizing vs with
  | nil => rfl
  | cons p fs ih =>
    cases vs with
    | nil => exact h.elim
    | cons q vs =>
      obtain ⟨_, k, t⟩ := h
      rw [List.all_cons, k.wf, ih t]; rfl
theorem Holds.wf {W : Wd} {Rs H : Hp} {st : Store} (h : Holds W Rs F H r st) : wfS st := fun o m => by
  obtain ⟨i, hi, rfl⟩ := List.mem_iff_getElem.mp m
  obtain ⟨a, e, k⟩ := h.get (n := i) (o := st[i]) (by simp [hi])
  rw [← h.len]
  cases eo : st[i] with
  | lst ds => rw [eo] at k; obtain ⟨vs, _, k⟩ := k; exact k.wf
  | ins C fs => rw [eo] at k; obtain ⟨dx, vs, _, k⟩ := k; exact k.wf
  | dK kvs => rw [eo] at k; obtain ⟨vs, _, k⟩ := k; exact k.wf
  | dT kvs => rw [eo] at k; obtain ⟨vs, _, k⟩ := k; exact k.wf
  | dead => rfl
end
/-- the new references of d told by what they hold -/
def rsv (n : Nat) (st : Store) : Nat → D → Option D
  | 0, _ => none
  | k + 1, d => match d with
    | .tup ds => match optAll (ds.map (rsv n st k)) with
      | some es => some (.tup es)
      | none => none
    | .lst ds => match optAll (ds.map (rsv n st k)) with
      | some es => some (.lst es)
      | none => none
    | .ref i => if i < n then some (.ref i) else match st[i]? with
      | some (.lst ds) => match optAll (ds.map (rsv n st k)) with
        | some es => some (.lst es)
        | none => none
      | _ => none
    | d => some d
section
variable {W : Wd} {Rs F F' H H' : Hp} {r r' : List Addr} {st st1 junk : Store} {E : XK}
/-- the frozen part with all that was laid -/
def froz (F' H' : Hp) (js : List Addr) : Hp := fun a => if a ∈ js then H' a else F' a
theorem froz_same (h : Holds W Rs F' H' r' st) {js : List Addr} (hj : ∀ a ∈ js, a ∈ r') : Same F' (froz F' H' js) := fun a o e => by
  unfold froz
  rw [if_neg fun m => by rw [(h.own a (hj a m)).1] at e; cases e]
  exact e
theorem rep_cut {n : Nat} : ∀ {d : D} {v : V}, Rep F' r' v d → d.wf n = true → Rep F' (r'.take n) v d := by
  have : (∀ (d : D) (v : V), Rep F' r' v d → d.wf n = true → Rep F' (r'.take n) v d) := by
    intro d
    refine D.rec (motive_1 := fun d => ∀ (v : V), Rep F' r' v d → d.wf n = true → Rep F' (r'.take n) v d) (motive_2 := fun ds => ∀ (vs : List V), Reps F' r' vs ds → D.wfs n ds = true → Reps F' (r'.take n) vs ds) ?_ ?_ ?_ ?_ ?_ ?_ ?_ ?_ ?_ ?_ ?_ d
    · intro v k _; cases k; exact .non
    · intro b v k _; cases k; exact .bl b
    · intro b v k _; cases k; exact .int b
    · intro b v k _; cases k with | str _ h1 h2 => exact .str b h1 h2
    · intro ds ih v k w; cases k with | tup q k => exact .tup q (ih _ k (by unfold D.wf at w; exact w))
    · intro ds ih v k w; cases k with | lst q k => exact .lst q (ih _ k (by unfold D.wf at w; exact w))
    · intro i v k w
      cases k with
      | ref q =>
        unfold D.wf at w
        exact .ref (by rw [List.getElem?_take_of_lt (of_decide_eq_true w)]; exact q)
    · intro ns v k _; cases k with | scr q => exact .scr q
    · intro a o v k _; cases k with
      | exn0 => exact .exn0 _
      | exn1 q => exact .exn1 q
    · intro vs k _; cases k; exact .nil
    · intro d ds ih1 ih2 vs k w
      cases k with
      | cons k1 k2 =>
        unfold D.wfs at w
        rw [Bool.and_eq_true] at w
        exact .cons (ih1 _ k1 w.1) (ih2 _ k2 w.2)
  exact fun {d v} => this d v
theorem reps_cut {n : Nat} : ∀ {ds : List D} {vs : List V}, Reps F' r' vs ds → D.wfs n ds = true → Reps F' (r'.take n) vs ds
  | [], _, .nil, _ => .nil
  | d :: ds, _, .cons k1 k2, w => by
    unfold D.wfs at w
    rw [Bool.and_eq_true] at w
    exact .cons (rep_cut k1 w.1) (reps_cut k2 w.2)
theorem flds_cut {n : Nat} : ∀ {vs : List (Str × V)} {fs : List (Str × D)}, Flds F' r' vs fs → (fs.all fun p => p.2.wf n) = true → Flds F' (r'.take n) vs fs
  | [], [], _, _ => trivial
  | _ :: _, _ :: _, ⟨e, k, t⟩, w => by
    rw [List.all_cons, Bool.and_eq_true] at w
    exact ⟨e, rep_cut k w.1, flds_cut t w.2⟩
  | [], _ :: _, h, _ => h.elim
  | _ :: _, [], h, _ => h.elim
theorem kvr_cut {A : Type} {n : Nat} : ∀ {vs : List (A × V)} {fs : List (A × D)}, KVr F' r' vs fs → (fs.all fun p => p.2.wf n) = true → KVr F' (r'.take n) vs fs
  | [], [], _, _ => trivial
  | _ :: _, _ :: _, ⟨e, k, t⟩, w => by
    rw [List.all_cons, Bool.and_eq_true] at w
    exact ⟨e, rep_cut k w.1, kvr_cut t w.2⟩
  | [], _ :: _, h, _ => h.elim
  | _ :: _, [], h, _ => h.elim
/-- the store cut off at n, the rest frozen -/
theorem Holds.cut (h : Holds W Rs F' H' r' (st1 ++ junk)) (w : ∀ o ∈ st1, o.wf st1.length = true) : Holds W Rs (froz F' H' (r'.drop st1.length)) H' (r'.take st1.length) st1 := by
  have sF := froz_same h (js := r'.drop st1.length) fun a m => List.mem_of_mem_drop m
  have hl : st1.length ≤ r'.length := by rw [h.len]; simp
  refine ⟨fun a o e => ?_, h.sR, fun a e => ?_, by simp [hl], h.nd.sublist (List.take_sublist _ _), fun a m => ?_, fun i a o e1 e2 => ?_, ⟨fun t ht => ?_, fun a ps z => ?_, h.tb.nR⟩⟩
  · unfold froz at e
    split at e
    · exact e
    · exact h.sF _ _ e
  · unfold froz at e
    split at e
    · rename_i m; exact (h.own a (List.mem_of_mem_drop m)).2
    · exact h.dj a e
  · have o := h.own a (List.mem_of_mem_take m)
    refine ⟨?_, o.2⟩
    unfold froz
    rw [if_neg fun m2 => ?_]
    · exact o.1
    · have nd := h.nd
      rw [← List.take_append_drop st1.length r', List.nodup_append] at nd
      exact nd.2.2 a m a m2 rfl
  · have hi : i < st1.length := (List.getElem?_eq_some_iff.mp e2).1
    rw [List.getElem?_take_of_lt hi] at e1
    have k := h.ob i a o e1 (by rw [List.getElem?_append_left hi]; exact e2)
    have wo := w o (List.mem_of_getElem? e2)
    cases o with
    | lst ds => obtain ⟨vs, q, k⟩ := k; exact ⟨vs, q, (reps_cut k wo).mono sF (Ext.refl _)⟩
    | ins C fs => obtain ⟨dx, vs, q, k⟩ := k; exact ⟨dx, vs, q, (flds_cut k wo).mono sF (Ext.refl _)⟩
    | dK kvs => obtain ⟨vs, q, k⟩ := k; exact ⟨vs, q, (kvr_cut k wo).mono sF (Ext.refl _)⟩
    | dT kvs => obtain ⟨vs, q, k⟩ := k; exact ⟨vs, q, (kvr_cut k wo).mono sF (Ext.refl _)⟩
    | dead => exact k
  · obtain ⟨t1, t2, t3, t4⟩ := h.tb.at_ t ht
    refine ⟨t1, ?_, t3, fun m => t4 (List.mem_of_mem_take m)⟩
    unfold froz
    rw [if_neg fun m => t4 (List.mem_of_mem_drop m)]
    exact t2
  · unfold froz at z
    split at z
    · rename_i m
      obtain ⟨u, hu, k1, _⟩ := h.kindOf (List.mem_of_mem_drop m)
      rw [hu] at z
      exact k1 ps (Option.some.inj z)
    · exact h.tb.nF a ps z
/-- res is res' but for what was laid on the way -/
def Frz (n : Nat) (res res' : R (D × Store)) : Prop := match res' with
  | .ok (d', st1) => ∃ d junk, res = .ok (d, st1 ++ junk) ∧ st1.length = n ∧ (∀ o ∈ st1, o.wf n = true) ∧ rsv n (st1 ++ junk) 50 d = some d'
  | .exc c none st1 => ∃ junk, res = .exc c none (st1 ++ junk) ∧ st1.length = n ∧ (∀ o ∈ st1, o.wf n = true)
  | .exc c (some d') st1 => ∃ d junk, res = .exc c (some d) (st1 ++ junk) ∧ st1.length = n ∧ (∀ o ∈ st1, o.wf n = true) ∧ rsv n (st1 ++ junk) 50 d = some d'
  | .bad => True
end
end Dl
namespace Dl
open PySem L2
section
variable {P : Program} {w : World} {W : Wd} {mg : Str → Option Value} {base : Heap} {X : Cx} {E : XK}
/-- a def of the text that means g -/
structure Fn (P : Program) (w : World) (W : Wd) (mg : Str → Option Value) (base : Heap) (x : Str) (k n : Nat) (g : FV) : Prop where
  ex : ∃ f fd ps, FnOk P w W.K mg base (L2.CX P w) k f fd ps (spD W n g) ∧ mg x = some (.ref f) ∧ PySem.W.keepIn W.K (.ref f) = true ∧ Binds W.K fd ps []
/-- a method of the class c -/
structure Mt (P : Program) (w : World) (W : Wd) (mg : Str → Option Value) (base : Heap) (c : Nat) (m : Str) (k n : Nat) (g : FV) : Prop where
  ex : ∃ f fd ps, FnOk P w W.K mg base (L2.CX P w) k f fd ps (spD W n g) ∧ Meth W.K (W.cls c) m f ∧ Binds W.K fd ps []
  cl : Cls W.K (W.cls c)
/-- the class c by its __init__ -/
structure Nw (P : Program) (w : World) (W : Wd) (mg : Str → Option Value) (base : Heap) (x : Str) (c : Nat) (k n : Nat) (g : FV) : Prop where
  ex : ∃ f fd ps, FnOk P w W.K mg base (L2.CX P w) k f fd ps (spD W n g) ∧ Mk W.K (W.cls c) f ∧ mg x = some (.ref (W.cls c)) ∧ Binds W.K fd ps []
/-- the meaning said otherwise where it is said at all -/
theorem Frz.same {n : Nat} {res : R (D × Store)} : ∀ {d : D} {st : Store}, res = .ok (d, st) → st.length = n → (∀ o ∈ st, o.wf n = true) → rsv n st 50 d = some d → Frz n res (.ok (d, st)) := fun e h1 h2 h3 => ⟨_, [], by rw [List.append_nil]; exact e, h1, h2, by rw [List.append_nil]; exact h3⟩
theorem dv (i : Nat) {x : Str} {pos : Pos} (hN : X.N[i]? = some x := by rfl) (hv : Vis X.env.scope x := by first | exact Or.inl rfl | exact Or.inr (Or.inl rfl) | exact Or.inr (Or.inr rfl)) (hd : (x == ("__debug__" : Str)) = false := by decide)
    (hcd : (x == ("__classdict__" : Str)) = false := by decide) : DE W X E (.Name x pos) (eV i) := de_var hN hv hd hcd
def eNeg (f : EV) : EV := fun env st => (f env st).bind fun a => match a.1 with
  | .int i => .ok (.int (-i), a.2)
  | _ => .bad
theorem de_neg {e : Expr} {f : EV} {pos : Pos} (h : DE W X E e f) : DE W X E (.UnaryOp .USub e pos) (eNeg f) := by
  obtain ⟨t, p, q⟩ := h.ex
  refine .mk (pe_un un_neg p) fun Rs F H rr sg env st Q hH hE hP => ?_
  refine q Rs F H rr sg env st _ hH hE (bindX hP fun a ea z F1 H1 r1 v1 s1 x1 h1 k1 => ?_)
  obtain ⟨d, st1⟩ := a
  cases k1 with
  | int i => exact ⟨i, rfl, z F1 H1 r1 _ s1 x1 h1 (.int _)⟩
  | _ => exact z.elim
section
variable {k j n : Nat} {g : FV} {x : Str} {e : Expr} {es : List Expr} {p pos apos : Pos} {ga : AV}
theorem dcall (c : Fn X.prog X.w W X.mg X.base x k n g) (hr : Room j X.A) (hx : Passes (L2.CX X.prog X.w) X E) (ha : DA W X E (e :: es) ga) (hK : X.K = W.K := by rfl) (hj : k ≤ j := by decide) (hg : Gl X x := by rfl)
    (hdb : (x == ("__debug__" : Str)) = false := by decide) (he : starEach (e :: es) X.env = (false, eval e X.env) :: starEach es X.env := by rfl) (hpl : (backTo pos (starEach es X.env)).any (·.1) = false := by rfl) :
    DE W X E (.Call (.Name x p) (e :: es) [] pos) (eCall n g ga) := let ⟨f, fd, ps, F, a, b, c⟩ := c.ex; de_call hK F hr hj hg a b c hx ha hdb he hpl
theorem dmake {c : Nat} (c' : Nw X.prog X.w W X.mg X.base x c k n g) (hr : Room (j + 1) X.A) (hx : Passes (L2.CX X.prog X.w) X E) (ha : DA W X E (e :: es) ga) (hK : X.K = W.K := by rfl) (hj : k ≤ j := by decide) (hg : Gl X x := by rfl)
    (hdb : (x == ("__debug__" : Str)) = false := by decide) (he : starEach (e :: es) X.env = (false, eval e X.env) :: starEach es X.env := by rfl) (hpl : (backTo pos (starEach es X.env)).any (·.1) = false := by rfl) :
    DE W X E (.Call (.Name x p) (e :: es) [] pos) (eMake c n g ga) := let ⟨f, fd, ps, F, a, b, c⟩ := c'.ex; de_make hK a F hr hj hg b c hx ha hdb he hpl
theorem dmeth {o : Expr} {fo : EV} {c : Nat} {m : Str} {pl : Sem Bool} (c' : Mt X.prog X.w W X.mg X.base c m k n g) (he : DE W X E o fo) (hr : Room j X.A) (hx : Passes (L2.CX X.prog X.w) X E) (ha : DA W X E (e :: es) ga) (hK : X.K = W.K := by rfl) (hj : k ≤ j := by decide)
    (hst : starEach (e :: es) X.env = (false, eval e X.env) :: starEach es X.env := by rfl) (hpl : (backTo pos (starEach es X.env)).any (·.1) = false := by rfl)
    (ht : eval (.Call (.Attribute o m apos) (e :: es) [] pos) X.env = (do
      let ov ← eval o X.env
      standAt apos.atName
      let (f, first) ← holding [ov] (getMethod ov m pl)
      callWith pos f first (backTo pos (starEach (e :: es) X.env)) (backToKw pos (keywordEach [] X.env))) := by rfl) :
    DE W X E (.Call (.Attribute o m apos) (e :: es) [] pos) (eMeth c m n g fo ga) := let ⟨f, fd, ps, F, a, b⟩ := c'.ex; de_meth (pl := pl) hK he c'.cl a F hr hj b hx ha hst hpl ht
theorem dmeth0 {o : Expr} {fo : EV} {c : Nat} {m : Str} {pl : Sem Bool} (c' : Mt X.prog X.w W X.mg X.base c m k n g) (he : DE W X E o fo) (hr : Room j X.A) (hx : Passes (L2.CX X.prog X.w) X E) (hK : X.K = W.K := by rfl) (hj : k ≤ j := by decide)
    (ht : eval (.Call (.Attribute o m apos) [] [] pos) X.env = (do
      let ov ← eval o X.env
      standAt apos.atName
      let (f, first) ← holding [ov] (getMethod ov m pl)
      callWith pos f first [] []) := by rfl) :
    DE W X E (.Call (.Attribute o m apos) [] [] pos) (eMeth c m n g fo aNil) := let ⟨f, fd, ps, F, a, b⟩ := c'.ex; de_meth0 (pl := pl) hK he c'.cl a F hr hj b hx fun {to} po => by
      refine pe_meth0 (pl := pl) (C := W.cls c) (sp := spD W n g) po (by rw [hK]; exact c'.cl) (by rw [hK]; exact a) (by rw [hK]; exact F) (hr.mono hj) (by rw [hK]; exact b) .nil hx ht
end
theorem passD {qual : Str} {N : List Str} {sc : Scope} {f : Addr} {cd : Value} {A : Around} {outer : List PySem.Env} {s : Shared} {H : Hp} {K : PySem.W.Frag} : Passes (L2.CX P w) (cxOf (L2.CX P w) P w K mg base N qual sc f cd A outer s H E) E :=
  passes_call (takes_of rfl rfl rfl rfl) fun _ _ _ _ h => h
theorem passF {qual : Str} {N : List Str} {sc : Scope} {f : Addr} {cd : Value} {A : Around} {outer : List PySem.Env} {s : Shared} {H : Hp} {K : PySem.W.Frag} : PassesOwn (model P w) (cxOf (L2.CX P w) P w K mg base N qual sc f cd A outer s H E).A (cxOf (L2.CX P w) P w K mg base N qual sc f cd A outer s H E).env (cxOf (L2.CX P w) P w K mg base N qual sc f cd A outer s H E).xe :=
  passes_of (X := cxOf (L2.CX P w) P w K mg base N qual sc f cd A outer s H E) rfl
end
end Dl
namespace Dl
open PySem L2
def SR.andThen (r : SR) (g : SV) : SR := match r with
  | .nx e s => g e s
  | .rt d s => .rt d s
  | .bk e s => .bk e s
  | .ct e s => .ct e s
  | .exc c p s => .exc c p s
  | .bad => .bad
@[simp] theorem then_nx (e : Env) (s : Store) (g : SV) : (SR.nx e s).andThen g = g e s := (rfl)
@[simp] theorem then_rt (d : D) (s : Store) (g : SV) : (SR.rt d s).andThen g = .rt d s := (rfl)
@[simp] theorem then_bk (e : Env) (s : Store) (g : SV) : (SR.bk e s).andThen g = .bk e s := (rfl)
@[simp] theorem then_ct (e : Env) (s : Store) (g : SV) : (SR.ct e s).andThen g = .ct e s := (rfl)
@[simp] theorem then_exc (c : Nat) (p : Option D) (s : Store) (g : SV) : (SR.exc c p s).andThen g = .exc c p s := (rfl)
@[simp] theorem then_bad (g : SV) : (SR.bad).andThen g = .bad := (rfl)
def R.ifS (r : R (Bool × Store)) (f g : SV) (env : Env) : SR := match r with
  | .ok a => if a.1 = true then f env a.2 else g env a.2
  | .exc c p st => .exc c p st
  | .bad => .bad
@[simp] theorem ifS_ok (a : Bool × Store) (f g : SV) (env : Env) : (R.ok a).ifS f g env = if a.1 = true then f env a.2 else g env a.2 := (rfl)
@[simp] theorem ifS_exc (c : Nat) (p : Option D) (st : Store) (f g : SV) (env : Env) : (R.exc c p st : R (Bool × Store)).ifS f g env = .exc c p st := (rfl)
@[simp] theorem ifS_bad (f g : SV) (env : Env) : (R.bad : R (Bool × Store)).ifS f g env = .bad := (rfl)
def R.forS (r : R (Wk × Store)) (g : GV) (b : SV) (env : Env) : SR := match r with
  | .ok a => forGo a.1.2 g b a.1.1 env a.2
  | .exc c p st => .exc c p st
  | .bad => .bad
@[simp] theorem forS_ok (ds : List D) (sub : List (Nat × List D)) (s : Store) (g : GV) (b : SV) (env : Env) : (R.ok ((ds, sub), s)).forS g b env = forGo sub g b ds env s := (rfl)
@[simp] theorem forS_exc (c : Nat) (p : Option D) (st : Store) (g : GV) (b : SV) (env : Env) : (R.exc c p st : R (Wk × Store)).forS g b env = .exc c p st := (rfl)
@[simp] theorem forS_bad (g : GV) (b : SV) (env : Env) : (R.bad : R (Wk × Store)).forS g b env = .bad := (rfl)
def R.lcS (r : R (Wk × Store)) (m : Bool) (t : Tg1) (tt : TV) (te : EV) (env : Env) : R (D × Store) := match r with
  | .ok a => if a.1.1.length ≤ LIM then (lcGo a.1.2 t tt te env a.1.1 [] a.2).bind fun b => newL m b.1 b.2 else .bad
  | .exc c p st => .exc c p st
  | .bad => .bad
@[simp] theorem lcS_ok (ds : List D) (sub : List (Nat × List D)) (s : Store) (m : Bool) (t : Tg1) (tt : TV) (te : EV) (env : Env) : (R.ok ((ds, sub), s)).lcS m t tt te env = if ds.length ≤ LIM then (lcGo sub t tt te env ds [] s).bind fun b => newL m b.1 b.2 else .bad := (rfl)
@[simp] theorem lcS_exc (c : Nat) (p : Option D) (st : Store) (m : Bool) (t : Tg1) (tt : TV) (te : EV) (env : Env) : (R.exc c p st : R (Wk × Store)).lcS m t tt te env = .exc c p st := (rfl)
@[simp] theorem lcS_bad (m : Bool) (t : Tg1) (tt : TV) (te : EV) (env : Env) : (R.bad : R (Wk × Store)).lcS m t tt te env = .bad := (rfl)
section
variable (env : Env) (st : Store)
@[simp] theorem r_eV (i : Nat) : eV i env st = match env[i]? with
  | some (some d) => .ok (d, st)
  | _ => .bad := (rfl)
@[simp] theorem r_eC (d : D) : eC d env st = .ok (d, st) := (rfl)
@[simp] theorem r_eOp (g : G2) (fa fb : EV) : eOp g fa fb env st = (fa env st).bind fun a => (fb env a.2).bind fun b => g b.2 a.1 b.1 := (rfl)
@[simp] theorem r_tv (f : EV) : tv f env st = (f env st).bind fun a => match a.1 with
  | .bl b => .ok (b, a.2)
  | _ => .bad := (rfl)
@[simp] theorem r_eChain (g g' : G2) (fa fb fc : EV) : eChain g g' fa fb fc env st = (fa env st).bind fun a => (fb env a.2).bind fun b => (g b.2 a.1 b.1).bind fun z => match z.1 with
  | .bl true => (fc env z.2).bind fun c => g' c.2 b.1 c.1
  | .bl false => .ok (.bl false, z.2)
  | _ => .bad := (rfl)
@[simp] theorem r_tAndD (f g : TV) : tAndD f g env st = (f env st).bind fun a => if a.1 = true then g env a.2 else .ok (false, a.2) := (rfl)
@[simp] theorem r_tOrD (f g : TV) : tOrD f g env st = (f env st).bind fun a => if a.1 = true then .ok (true, a.2) else g env a.2 := (rfl)
@[simp] theorem r_tNotD (f : TV) : tNotD f env st = (f env st).bind fun a => .ok (!a.1, a.2) := (rfl)
@[simp] theorem r_eAnd (f g : EV) : eAnd f g env st = (f env st).bind fun a => match a.1 with
  | .bl true => g env a.2
  | .bl false => .ok (.bl false, a.2)
  | _ => .bad := (rfl)
@[simp] theorem r_eOr (f g : EV) : eOr f g env st = (f env st).bind fun a => match a.1 with
  | .bl true => .ok (.bl true, a.2)
  | .bl false => g env a.2
  | _ => .bad := (rfl)
@[simp] theorem r_eNot (f : EV) : eNot f env st = (f env st).bind fun a => match a.1 with
  | .bl b => .ok (.bl (!b), a.2)
  | _ => .bad := (rfl)
@[simp] theorem r_eIf (t : TV) (f g : EV) : eIf t f g env st = (t env st).bind fun a => if a.1 = true then f env a.2 else g env a.2 := (rfl)
@[simp] theorem r_aNil : aNil env st = .ok ([], st) := (rfl)
@[simp] theorem r_aCons (f : EV) (g : AV) : aCons f g env st = (f env st).bind fun a => (g env a.2).bind fun b => .ok (a.1 :: b.1, b.2) := (rfl)
@[simp] theorem r_newF (ds : List D) : newL false ds st = .ok (.lst ds, st) := (rfl)
@[simp] theorem r_newT (ds : List D) : newL true ds st = .ok (.ref st.length, st ++ [.lst ds]) := (rfl)
@[simp] theorem r_eTup (g : AV) : eTup g env st = (g env st).bind fun a => if a.1.length ≤ LIM then .ok (.tup a.1, a.2) else .bad := (rfl)
@[simp] theorem r_eLst (m : Bool) (g : AV) : eLst m g env st = (g env st).bind fun a => if a.1.length ≤ LIM then newL m a.1 a.2 else .bad := (rfl)
@[simp] theorem r_sNext : sNext env st = .nx env st := (rfl)
@[simp] theorem r_sCons (f g : SV) : sCons f g env st = (f env st).andThen g := by unfold sCons SR.andThen; cases f env st <;> rfl
@[simp] theorem r_sExpr (f : EV) : sExpr f env st = sOf (f env st) fun a => .nx env a.2 := (rfl)
@[simp] theorem r_sRet (f : EV) : sRet f env st = sOf (f env st) fun a => .rt a.1 a.2 := (rfl)
@[simp] theorem r_sIf (t : TV) (f g : SV) : sIf t f g env st = (t env st).ifS f g env := by unfold sIf R.ifS sOf; cases t env st <;> rfl
@[simp] theorem r_sBad : sBad env st = .bad := (rfl)
@[simp] theorem r_sAsg (f : EV) (g : GV) : sAsg f g env st = sOf (f env st) fun a => sOf (g a.1 env a.2) fun b => .nx b.1 b.2 := (rfl)
@[simp] theorem r_sPar (i j : Nat) (f : AV) : sPar i j f env st = sOf (f env st) fun a => match a.1 with
  | [d, e] => .nx ((env.set i (some d)).set j (some e)) a.2
  | _ => .bad := (rfl)
@[simp] theorem r_sPar3 (i j l : Nat) (f : AV) : sPar3 i j l f env st = sOf (f env st) fun a => match a.1 with
  | [d, e, c] => .nx (((env.set i (some d)).set j (some e)).set l (some c)) a.2
  | _ => .bad := (rfl)
@[simp] theorem r_gN (i : Nat) (d : D) : gN i d env st = .ok (env.set i (some d), st) := (rfl)
@[simp] theorem r_gsNil : gsNil [] env st = .ok (env, st) := (rfl)
@[simp] theorem r_gsCons (g : GV) (h : GVs) (d : D) (ds : List D) : gsCons g h (d :: ds) env st = (g d env st).bind fun a => h ds a.1 a.2 := (rfl)
@[simp] theorem r_gTp (n : Nat) (h : GVs) (ds : List D) : gTp n h (.tup ds) env st = if ds.length = n then h ds env st else .bad := (rfl)
@[simp] theorem r_gSb (fo fi : EV) (g : SetV) (d : D) : gSb fo fi g d env st = (fo env st).bind fun a => (fi env a.2).bind fun b => match g b.2 a.1 b.1 d with
  | some st' => .ok (env, st')
  | none => .bad := (rfl)
@[simp] theorem r_iSeq (f : EV) : iSeq f env st = (f env st).bind fun a => match itemsOf a.2 a.1 with
  | some w => .ok (w, a.2)
  | none => .bad := (rfl)
@[simp] theorem r_sFor (it : IV) (g : GV) (b : SV) : sFor it g b env st = (it env st).forS g b env := by unfold sFor R.forS sOf; cases it env st <;> rfl
@[simp] theorem r_tYesD : tYesD env st = .ok (true, st) := (rfl)
@[simp] theorem r_eLc (m : Bool) (it : IV) (vs : List Nat) (t : Tg1) (tt : TV) (te : EV) : eLc m it vs t tt te env st = (it env st).lcS m t tt te (wipeD env vs) := by unfold eLc R.lcS R.bind; cases it env st <;> rfl
@[simp] theorem r_iR1 (g : AV) : iR1 g env st = (g env st).bind fun a => match a.1 with
  | [.int n] => if -1000000 ≤ n ∧ n ≤ 1000000 then .ok ((intsD 0 n.toNat, []), a.2) else .bad
  | _ => .bad := (rfl)
@[simp] theorem r_iR2 (g : AV) : iR2 g env st = (g env st).bind fun a => match a.1 with
  | [.int i, .int n] => if (-1000000 ≤ i ∧ i ≤ 1000000) ∧ -1000000 ≤ n ∧ n ≤ 1000000 then .ok ((intsD i (n - i).toNat, []), a.2) else .bad
  | _ => .bad := (rfl)
@[simp] theorem r_iEn (g : AV) : iEn g env st = (g env st).bind fun a => match a.1 with
  | [d] => match listOf a.2 d with
    | some w => .ok ((pairUp w.1, w.2), a.2)
    | none => .bad
  | _ => .bad := (rfl)
@[simp] theorem r_iZp (g : AV) : iZp g env st = (g env st).bind fun a => match a.1 with
  | [d, e] => match listOf a.2 d, listOf a.2 e with
    | some w, some w' => .ok ((zipUp w.1 w'.1, w.2 ++ w'.2), a.2)
    | _, _ => .bad
  | _ => .bad := (rfl)
@[simp] theorem r_eCall (n : Nat) (g : FV) (ga : AV) : eCall n g ga env st = (ga env st).bind fun a => if a.1.length = n then g a.1 a.2 else .bad := (rfl)
@[simp] theorem r_eB (g : GA) (ga : AV) : eB g ga env st = (ga env st).bind fun a => g a.2 a.1 := (rfl)
@[simp] theorem r_eIs (T : String) (f : EV) : eIs T f env st = (f env st).bind fun a => isG1 T a.2 [a.1] := (rfl)
@[simp] theorem r_eMt (T : String) (g : GM) (fo : EV) (ga : AV) : eMt T g fo ga env st = (fo env st).bind fun o => if tyM o.2 o.1 = some T then (ga env o.2).bind fun a => g a.2 o.1 a.1 else .bad := (rfl)
@[simp] theorem r_eSl (m : Bool) (f : EV) (l h : Env → Store → R (Option Int × Store)) : eSl m f l h env st = (f env st).bind fun a => (l env a.2).bind fun b => (h env b.2).bind fun c => slG m c.2 a.1 b.1 c.1 := (rfl)
@[simp] theorem r_poNone : poNone env st = .ok (none, st) := (rfl)
@[simp] theorem r_poSome (f : EV) : poSome f env st = (f env st).bind fun a => match a.1 with
  | .int i => .ok (some i, a.2)
  | _ => .bad := (rfl)
@[simp] theorem r_eNeg (f : EV) : eNeg f env st = (f env st).bind fun a => match a.1 with
  | .int i => .ok (.int (-i), a.2)
  | _ => .bad := (rfl)
@[simp] theorem r_eFld (c : Nat) (f : Str) (fo : EV) : eFld c f fo env st = (fo env st).bind fun o => match o.1 with
  | .ref i => match o.2[i]? with
    | some (.ins c' fs) => if c' = c then (match fs.lookup f with
      | some d => .ok (d, o.2)
      | none => .bad) else .bad
    | _ => .bad
  | _ => .bad := (rfl)
@[simp] theorem r_isG1 (T : String) (d : D) : isG1 T st [d] = match tyOf st d with
    | some t => .ok (.bl (subTy t T), st)
    | none => .bad := (rfl)
end
theorem le_LIM {n : Nat} (h : n ≤ 1000000) : n ≤ LIM := h
theorem lt_LIM {n : Nat} (h : n < 1000000) : n < LIM := h
theorem lcGo_nil {sub : List (Nat × List D)} {t : Tg1} {tt : TV} {te : EV} {env : Env} {acc : List D} {st : Store} (h : still sub st = true) : lcGo sub t tt te env [] acc st = .ok (acc, st) := by
  unfold lcGo; rw [if_pos h]
theorem lcGo_cons {sub : List (Nat × List D)} {t : Tg1} {tt : TV} {te : EV} {env : Env} {d : D} {ds acc : List D} {st : Store} (h : still sub st = true) : lcGo sub t tt te env (d :: ds) acc st = match t.put d env with
    | some env1 => (noX (tt env1 st)).bind fun b => if b.1 = true then (noX (te env1 b.2)).bind fun y => lcGo sub t tt te env ds (acc ++ [y.1]) y.2 else lcGo sub t tt te env ds acc b.2
    | none => .bad := by
  rw [lcGo, if_pos h]
  all_goals rfl
theorem forGo_nil {sub : List (Nat × List D)} {g : GV} {b : SV} {env : Env} {st : Store} (h : still sub st = true) : forGo sub g b [] env st = .nx env st := by
  unfold forGo; rw [if_pos h]
theorem forGo_cons {sub : List (Nat × List D)} {g : GV} {b : SV} {d : D} {ds : List D} {env : Env} {st : Store} (h : still sub st = true) : forGo sub g b (d :: ds) env st = sOf (g d env st) fun a => (match b a.1 a.2 with
      | .nx e s => forGo sub g b ds e s
      | .ct e s => forGo sub g b ds e s
      | .bk e s => .nx e s
      | .rt d s => .rt d s
      | .exc c p s => .exc c p s
      | .bad => .bad) := by
  rw [forGo, if_pos h]
  all_goals rfl
/-- a comprehension that changes nothing -/
theorem lc_pure {sub : List (Nat × List D)} {t : Tg1} {tt : TV} {te : EV} {env : Env} {st : Store} (hs : still sub st = true) (p : D → Bool) (f : D → D) : ∀ (ds acc : List D),
    (∀ d ∈ ds, ∃ env1, t.put d env = some env1 ∧ tt env1 st = .ok (p d, st) ∧ (p d = true → te env1 st = .ok (f d, st))) → lcGo sub t tt te env ds acc st = .ok (acc ++ (ds.filter p).map f, st)
  | [], acc, _ => by rw [lcGo_nil hs]; simp
  | d :: ds, acc, h => by
    obtain ⟨env1, h1, h2, h3⟩ := h d (by simp)
    have ih := fun acc => lc_pure hs p f ds acc fun e he => h e (by simp [he])
    rw [lcGo_cons hs, h1]
    simp only [h2, noX_ok, R.bind_ok]
    cases e : p d with
    | true => simp [h3 e, ih, e]
    | false => simp [ih, e]
theorem lc_map {sub : List (Nat × List D)} {t : Tg1} {te : EV} {env : Env} {st : Store} (hs : still sub st = true) (f : D → D) (ds : List D) (h : ∀ d ∈ ds, ∃ env1, t.put d env = some env1 ∧ te env1 st = .ok (f d, st)) : lcGo sub t tYesD te env ds [] st = .ok (ds.map f, st) := by
  have := lc_pure (tt := tYesD) hs (fun _ => true) f ds [] fun d hd => let ⟨e, a, b⟩ := h d hd; ⟨e, a, rfl, fun _ => b⟩
  rw [this, List.filter_eq_self.mpr (by simp)]
  simp
/-- a loop by its invariant: what is so ahead of the i-th turn -/
theorem for_inv {sub : List (Nat × List D)} {g : GV} {b : SV} (I : Nat → Env → Store → Prop) {ds : List D} {env : Env} {st : Store} (h0 : I 0 env st) (hst : ∀ i env st, i ≤ ds.length → I i env st → still sub st = true)
    (turn : ∀ i d env st, ds[i]? = some d → I i env st → ∃ e1 s1 e2 s2, g d env st = .ok (e1, s1) ∧ (b e1 s1 = .nx e2 s2 ∨ b e1 s1 = .ct e2 s2) ∧ I (i + 1) e2 s2) : ∃ e s, forGo sub g b ds env st = .nx e s ∧ I ds.length e s := by
  have gen : ∀ (es : List D) (i : Nat) (env : Env) (st : Store), i + es.length = ds.length → ds.drop i = es → I i env st → ∃ e s, forGo sub g b es env st = .nx e s ∧ I ds.length e s := by
    intro es
    induction es with
    | nil =>
      intro i env st hl hd hI
      refine ⟨env, st, forGo_nil (hst i env st (by omega) hI), ?_⟩
      have : i = ds.length := by simpa using hl
      rw [← this]; exact hI
    | cons d es ih =>
      intro i env st hl hd hI
      have hi : ds[i]? = some d := by
        have := congrArg (fun l => l[0]?) hd
        simpa using this
      obtain ⟨e1, s1, e2, s2, a1, a2, a3⟩ := turn i d env st hi hI
      obtain ⟨e, s, r1, r2⟩ := ih (i + 1) e2 s2 (by simp at hl; omega) (by
        have : ds.drop (i + 1) = (ds.drop i).drop 1 := by rw [List.drop_drop]
        rw [this, hd]; rfl) a3
      refine ⟨e, s, ?_, r2⟩
      rw [forGo_cons (hst i env st (by simp at hl; omega) hI), a1]
      rcases a2 with a2 | a2 <;> simp [a2, r1]
  exact gen ds 0 env st (by simp) (by simp) h0
/-- a loop that looks for something, and returns or raises -/
theorem for_inv_end {sub : List (Nat × List D)} {g : GV} {b : SV} (I : Nat → Env → Store → Prop) (P : SR → Prop) {ds : List D} {env : Env} {st : Store} (h0 : I 0 env st) (hst : ∀ i env st, i ≤ ds.length → I i env st → still sub st = true)
    (turn : ∀ i d env st, ds[i]? = some d → I i env st → ∃ e1 s1, g d env st = .ok (e1, s1) ∧ ((∃ e2 s2, (b e1 s1 = .nx e2 s2 ∨ b e1 s1 = .ct e2 s2) ∧ I (i + 1) e2 s2) ∨ (∃ e2 s2, b e1 s1 = .bk e2 s2 ∧ P (.nx e2 s2)) ∨ (∃ d s2, b e1 s1 = .rt d s2 ∧ P (.rt d s2)) ∨ (∃ c p s2, b e1 s1 = .exc c p s2 ∧ P (.exc c p s2))))
    (done : ∀ e s, I ds.length e s → P (.nx e s)) : P (forGo sub g b ds env st) := by
  have gen : ∀ (es : List D) (i : Nat) (env : Env) (st : Store), i + es.length = ds.length → ds.drop i = es → I i env st → P (forGo sub g b es env st) := by
    intro es
    induction es with
    | nil =>
      intro i env st hl hd hI
      rw [forGo_nil (hst i env st (by omega) hI)]
      have : i = ds.length := by simpa using hl
      exact done env st (by rw [← this]; exact hI)
    | cons d es ih =>
      intro i env st hl hd hI
      have hi : ds[i]? = some d := by
        have := congrArg (fun l => l[0]?) hd
        simpa using this
      obtain ⟨e1, s1, a1, a2⟩ := turn i d env st hi hI
      rw [forGo_cons (hst i env st (by simp at hl; omega) hI), a1]
      rcases a2 with ⟨e2, s2, a2, a3⟩ | ⟨e2, s2, a2, a3⟩ | ⟨d', s2, a2, a3⟩ | ⟨c, p, s2, a2, a3⟩
      · have r := ih (i + 1) e2 s2 (by simp at hl; omega) (by
          have : ds.drop (i + 1) = (ds.drop i).drop 1 := by rw [List.drop_drop]
          rw [this, hd]; rfl) a3
        rcases a2 with a2 | a2 <;> simpa [a2] using r
      · simpa [a2] using a3
      · simpa [a2] using a3
      · simpa [a2] using a3
  exact gen ds 0 env st (by simp) (by simp) h0
end Dl
namespace Dl
open PySem L2
section
variable {P : Program} {w : World} {W : Wd} {mg : Str → Option Value} {base : Heap} {X : Cx} {E : XK}
/-- the meaning that says nothing -/
def fvBad : FV := fun _ _ => .bad
theorem fn_bad {x : Str} {f : Addr} {fd : FuncData} {ps : List Str} {k n : Nat} (h1 : mg x = some (.ref f)) (h2 : PySem.W.keepIn W.K (.ref f) = true) (h3 : Binds W.K fd ps []) : Fn P w W mg base x k n fvBad :=
  ⟨f, fd, ps, ⟨fun _ _ _ _ ⟨_, _, _, _, _, _, _, _, z⟩ => z.elim, fun _ _ _ _ _ _ _ _ _ _ _ _ _ ⟨_, _, _, _, _, _, _, _, z⟩ => z.elim⟩, h1, h2, h3⟩
theorem dcallR {k n : Nat} {g : FV} {x : Str} {e : Expr} {es : List Expr} {p pos : Pos} {ga : AV} (c : Fn X.prog X.w W X.mg X.base x k n g) (hr : Room k X.A) (hx : Passes (L2.CX X.prog X.w) X E) (ha : DA W X E (e :: es) ga) (hK : X.K = W.K := by rfl) (hg : Gl X x := by rfl)
    (hdb : (x == ("__debug__" : Str)) = false := by decide) (he : starEach (e :: es) X.env = (false, eval e X.env) :: starEach es X.env := by rfl) (hpl : (backTo pos (starEach es X.env)).any (·.1) = false := by rfl) :
    DE W X E (.Call (.Name x p) (e :: es) [] pos) (eCall n g ga) := let ⟨f, fd, ps, F, a, b, c⟩ := c.ex; de_call hK F hr (Nat.le_refl _) hg a b c hx ha hdb he hpl
end
theorem fnE {P : Program} {w : World} {W : Wd} {mg : Str → Option Value} {base : Heap} {x qual : Str} {s : Stmt} {f : Addr} {fd : FuncData} {N ps : List Str} {k n q : Nat} {b : SV} (F : Fun W.K x qual s f fd) (S : FnScope N ps (defScope s)) (hn : ps.length = n) (hq : N.length = q)
    (hbody : ∀ (cdv : Value) (A : Around) (outer : List PySem.Env) (sh : Shared) (H : Hp) (E : XK), Room k (A.deeper (PyProof.Rows.envOfC qual (defScope s) sh.heap.objs.size f cdv)) →
      DB W (cxOf (L2.CX P w) P w W.K mg base N qual (defScope s) f cdv A outer sh H E) E (defBody s) b) : FnOk P w W.K mg base (L2.CX P w) (k + 1) f fd ps (spD W n (funD q b)) := by
  subst hq
  exact fnD F S hn hbody
theorem isTbl_some {o : Option HO} (h : isTbl o = true) : ∃ ps, o = some (.tbl ps) := by
  unfold isTbl at h
  split at h
  · exact ⟨_, rfl⟩
  · cases h
def noTbl (H : Hp) : Hp := fun a => if isTbl (H a) = true then none else H a
theorem noTbl_same (H : Hp) : Same (noTbl H) H := fun a o e => by
  unfold noTbl at e
  split at e
  · cases e
  · exact e
theorem noTbl_ne (H : Hp) (a : Addr) (ps : Array Value) : noTbl H a ≠ some (.tbl ps) := fun e => by
  unfold noTbl at e
  split at e
  · cases e
  · rename_i n
    exact n (by rw [e]; rfl)
theorem noTbl_at {H : Hp} {a : Addr} {o : HO} (e : H a = some o) (n : ∀ ps, o ≠ .tbl ps) : noTbl H a = some o := by
  unfold noTbl
  rw [if_neg fun z => ?_]
  · exact e
  · obtain ⟨ps, q⟩ := isTbl_some z
    rw [e] at q
    exact n ps (Option.some.inj q)
/-- the law's promise, from a script that the caller holds, and empty tables at T -/
def spLawT (T : List Addr) (n : Nat) : Sp := fun vs H Q _ => ∃ (a : Addr) (ns : List Int), vs = [.ref a] ∧ ScrAt H a ns ∧ (∀ P ∈ T, H P = some (.tbl #[])) ∧ ns.length ≤ n ∧ ∀ H', Q (.bl true) H'
theorem law_ofT {P : Program} {w : World} {W : Wd} {mg : Str → Option Value} {base : Heap} {k n : Nat} {g : FV} {f : Addr} {fd : FuncData} {ps : List Str} {T : List Addr} (F : FnOk P w W.K mg base (L2.CX P w) k f fd ps (spD W 1 g))
    (h : ∀ ns : List Int, ns.length ≤ n → ∃ st, g [.scr ns] [] = .ok (.bl true, st)) (hT : ∀ p ∈ W.tabs, p.1 ∈ T) : FnOk P w W.K mg base (L2.CX P w) k f fd ps (spLawT T n) := by
  refine F.imp fun vs H Q E ⟨a, ns, e, hH, hP, hl, hQ⟩ => ?_
  subst e
  have hN : ScrAt (noTbl H) a ns := by
    rcases hH with ⟨o, hH⟩ | hH
    · exact .inl ⟨o, noTbl_at hH fun _ z => by cases z⟩
    · exact .inr (noTbl_at hH fun _ z => by cases z)
  obtain ⟨st, hst⟩ := h ns hl
  refine ⟨fun _ => none, noTbl H, [], [], [.scr ns], ⟨noTbl_same H, fun _ _ z => (by cases z), fun _ _ => rfl, rfl, List.nodup_nil, fun _ m => (by cases m), fun i a o e1 _ => (by simp at e1), ⟨fun t ht => ⟨.nil (hP _ (hT t ht)), ?_, rfl, (by simp)⟩, noTbl_ne H, fun _ _ z => (by cases z)⟩⟩, .cons (.scr hN) .nil, rfl, ?_⟩
  · unfold noTbl
    rw [if_pos (by rw [hP _ (hT t ht)]; rfl)]
  · rw [hst]
    intro F' H' r' v s x h1 k
    cases k
    exact hQ _
/-- no object of the written part is a list -/
def noList (K : PySem.W.Frag) : Prop := ∀ a o, K.lookup a = some o → o.cls ≠ .type "list"
theorem mem_of_look {A B : Type} [BEq A] [LawfulBEq A] {a : A} {b : B} : ∀ {l : List (A × B)}, l.lookup a = some b → (a, b) ∈ l
  | [], e => by simp at e
  | (x, y) :: l, e => by
    rw [List.lookup_cons] at e
    cases h : a == x with
    | true => rw [h] at e; cases e; rw [eq_of_beq h]; exact List.mem_cons_self
    | false => rw [h] at e; exact List.mem_cons_of_mem _ (mem_of_look e)
def noListB (K : PySem.W.Frag) : Bool := K.all fun p => match p.2.cls with
  | .type s => !(s == "list")
  | _ => true
theorem noList_of {K : PySem.W.Frag} (h : noListB K = true) : noList K := fun a o e z => by
  have m : (a, o) ∈ K := by
    exact mem_of_look e
  have q := List.all_eq_true.mp h _ m
  simp only at q
  rw [z] at q
  revert q
  decide +kernel
end Dl
namespace PySem
open Sem (wp)
open AutoSeq1 (wpAny_loadPart')

section
variable {prog : Program} {w : World} {A : Around} {E : Value → Shared → Prop} {s : Shared}
end
end PySem
namespace Dl
open PySem PySem.Spec PyProof.Rows L2
section
variable {W : Wd} {X : Cx} {E : XK}
/-- enumerate of a tuple -/
def iEnT (g : AV) : IV := fun env st => (g env st).bind fun a => match a.1 with
  | [.tup ds] => .ok ((pairUp ds, []), a.2)
  | _ => .bad
@[simp] theorem r_iEnT (g : AV) (env : Env) (st : Store) : iEnT g env st = (g env st).bind fun a => match a.1 with
  | [.tup ds] => .ok ((pairUp ds, []), a.2)
  | _ => .bad := (rfl)
end
end Dl
namespace Dl
open PySem PySem.Spec PyProof.Rows L2
/-- a text's signs in new pairs -/
def ItS (x : Str) : It where
  go i H := ∃ c, x.cps[i]? = some c
  yld i H v H' := ∃ T c, v = .ref T ∧ H T = none ∧ H' = upd H T (.tup [.int (i : Nat), .str ⟨#[c]⟩]) ∧ x.cps[i]? = some c
  stop i H := x.cps.size ≤ i
theorem overS' {prog : Program} {w : World} {A : Around} (hh : A.handled = none) (it : Addr) (x : Str) (t : Tok) (i : Nat) (h : x.cps.size ≤ i) (P : Nat → Value → Prop) : Draws prog w A it [it] i P (fun j hp => hp.IsStrIter it (strIterType x) x t j ∧ i ≤ j) where
  live j hp q := (Draws.text (prog := prog) (w := w) hh it x t).live j hp q.1
  frame j hp hp' q k := ⟨(Draws.text (prog := prog) (w := w) hh it x t).frame j hp hp' q.1 k, q.2⟩
  item j _ _ _ hj q _ := absurd q.2 (Nat.not_le.mpr hj)
  done s Q E q hE := by
    have q1 := q.1
    unfold strIterType at q1
    cases ha : x.cps.all (· < 128) with
    | false =>
      rw [ha] at q1
      simp only [Bool.false_eq_true, if_false] at q1
      exact wpAny_nextOf_wide_end hh q1 (Array.getElem?_eq_none h) hE
    | true =>
      rw [ha] at q1
      simp only [if_true] at q1
      exact wpAny_nextOf_ascii_end hh q1 (Array.getElem?_eq_none h) hE
theorem turn_walk {P : Program} {w : World} {K : PySem.W.Frag} {elts : List Expr} {kk : Nat} {tpos : Pos} {J : It} {e : Addr} {wr : List Addr} {tn : Nat → Heap → Prop} (mem : e ∈ wr)
    (obj : ∀ i h, tn i h → ∀ b ∈ wr, ∃ o, h.get? b = some o ∧ ∀ v, o.data ≠ .cell v) (keep : ∀ i h h', tn i h → (∀ b ∈ wr, ∀ o, h.get? b = some o → h'.get? b = some o) → tn i h')
    (self : ∀ (A : Around) (i : Nat) (s : Shared) (Q : Value → Shared → Prop) (E : Value → Shared → Prop), tn i s.heap → Q (.ref e) s → wpAny (model P w) A (pyIter (.ref e)) Q E s)
    (more : ∀ (X : Cx) (pins : List (Addr × Obj)) (σ : L2.St) (H : Hp) (s : Shared) (i : Nat), X.prog = P → X.w = w → X.K = K → X.A.in1.handled = none → Inv X pins σ H s → tn i s.heap → J.go i H →
      ∃ fp n Pt St Mid, WalksT P w X.A e fp wr n Pt St Mid ∧ i < n ∧ St i s.heap ∧ (∀ h, St (i + 1) h → tn (i + 1) h) ∧
        ∀ us, Pt i us → ∃ vs, Vals vs us.toList ∧ vs.length ≤ sizeLine ∧ ∀ T, H T = none → J.yld i H (.ref T) (upd H T (.tup vs)))
    (over : ∀ (X : Cx) (pins : List (Addr × Obj)) (σ : L2.St) (H : Hp) (s : Shared) (i : Nat), X.prog = P → X.w = w → X.K = K → X.A.in1.handled = none → Inv X pins σ H s → tn i s.heap → J.stop i H →
      ∃ fp n Pt St Mid, WalksT P w X.A e fp wr n Pt St Mid ∧ St n s.heap) :
    Turn P w K (.Tuple elts kk tpos) J wr e tn where
  mem := mem
  obj := obj
  keep := keep
  self := self
  done X hP hw hK hc i pins s σ H E I own t0 stop :=
    have ⟨_, _, _, _, _, W, t1⟩ := over X pins σ H s i hP hw hK (I.ok.hd hc) I t0 stop
    W.done s _ E t1 fun _ tk k => ⟨rfl, I.turnedL (t' := tk) k own⟩
  item X hP hw hK hc i pins s σ H E I own t0 go := by
    have ⟨_, n, Pt, _, Mid, W, lt, t1, next, told⟩ := more X pins σ H s i hP hw hK (I.ok.hd hc) I t0 go
    refine W.item i s _ E lt t1 fun T us h1 tk p1 old tup mid k1 => ⟨_, rfl, W.go elts kk tpos i T _ _ E mid fun h2 t2 k2 => ?_⟩
    have ⟨vs, rv, hz, yl⟩ := told us p1
    have nT := W.apart i T h1 mid
    have free : H T = none := I.hok.fresh old
    have ⟨o, ho, hcls, m, hdat⟩ := tup
    subst hP hw
    have new : ObjOk X.prog X.w (upd H T (.tup vs)) h2 T (.tup vs) := ⟨hz, us.toList, rv, o, k2 T o nT ho, hcls, m, by rw [hdat]⟩
    exact ⟨.ref T, upd H T (.tup vs), I.turnedNew (t' := tk) (fun b ob nb q => k2 b ob nb (k1 b ob nb q)) own old new, rfl, yl T free, next h2 t2, fun b hb => (upd_ne fun z : b = T => nT (z ▸ hb)).trans (own b hb).1⟩
theorem pi_enumOf {X : Cx} {e : Expr} {ta : TA} {p pos tpos : Pos} {elts : List Expr} {kk : Nat} {wi : List V → Hp → (It → Hp → Prop) → Prop} (hg : Gl X "enumerate") (hm : X.mg "enumerate" = none) (ha : PA X [e] ta) (hs : starEach [e] X.env = [(false, eval e X.env)])
    (k : ∀ pins s σ H R vs us, Inv X pins σ H s → Vals vs us → wi vs H R → wpAny (model X.prog X.w) X.A (call (.type "enumerate") us) (fun v s1 => wpAny (model X.prog X.w) X.A (pyIter v) (PIE X pins σ (.Tuple elts kk tpos) R) X.xe s1) X.xe s) :
    PI X (.Tuple elts kk tpos) (.Call (.Name "enumerate" p) [e] [] pos) (fun σ H R => ta σ H fun vs H1 => wi vs H1 R) where
  run pins s σ H R I h := Call_ (ld_blt I hg hm boot_enumerate (PyProof.Rows.callWith_type1 (thn (ha.run pos pins s σ H _ I h) fun us s1 ⟨vs, H1, I1, r1, q1⟩ => k pins s1 σ H1 R vs us I1 r1 q1) hs rfl))
theorem pie_enum {X : Cx} {pins : List (Addr × Obj)} {σ : L2.St} {H : Hp} {s : Shared} {h' : Heap} {tg : Expr} {J : It} {tn : Nat → Heap → Prop} {R : It → Hp → Prop} (I : Inv X pins σ H s) (kp : ∀ b o, s.heap.get? b = some o → h'.get? b = some o)
    (T : Turn X.prog X.w X.K tg J [s.heap.objs.size + 1, s.heap.objs.size] (s.heap.objs.size + 1) tn) (t0 : tn 0 h') (r : R J H) : PIE X pins σ tg R (.ref (s.heap.objs.size + 1)) { s with heap := h' } :=
  ⟨_, _, tn, J, H, rfl, I.kept (t' := s.toks) kp, T, t0, fun b hb =>
    have le : s.heap.objs.size ≤ b := match List.mem_cons.mp hb with
      | .inl z => z ▸ Nat.le_succ _
      | .inr z => Nat.le_of_eq (List.mem_singleton.mp z).symm
    I.fpOk le (I.hok.fresh le), r⟩
theorem enum_obj {h : Heap} {e it : Addr} {i : Int} {old : Value} {o : Obj} {vs : Array Value} (he : IsEnum h e it i old) (hi : h.get? it = some o) (hd : o.data = .fields vs) : ∀ b ∈ [e, it], ∃ o, h.get? b = some o ∧ ∀ v, o.data ≠ .cell v := fun b hb =>
  match List.mem_cons.mp hb with
  | .inl z => ⟨_, z ▸ he, fun v q => nomatch (show Data.fields _ = Data.cell v from q)⟩
  | .inr z => ⟨o, List.mem_singleton.mp z ▸ hi, fun v q => nomatch hd.symm.trans q⟩
theorem turn_enumS {P : Program} {w : World} {K : PySem.W.Frag} {elts : List Expr} {kk : Nat} {tpos : Pos} (x : Str) (t : Tok) (e it : Addr) (hei : e ≠ it) :
    Turn P w K (.Tuple elts kk tpos) (ItS x) [e, it] e (fun i h => (∃ old, IsEnum h e it ((i : Nat) : Int) old) ∧ h.IsStrIter it (strIterType x) x t i) := by
  have ef : e ∉ [it] := by simp [hei]
  refine turn_walk (by simp) (fun i h ⟨⟨_, he⟩, _, ho, _, hd⟩ => enum_obj he ho hd) (fun i h h' ⟨⟨old, he⟩, o, ho, r⟩ k => ⟨⟨old, k e (by simp) _ he⟩, o, k it (by simp) o ho, r⟩) (fun A i s Q E ⟨⟨_, he⟩, _⟩ q => wpAny_pyIter_enum he q)
    (fun X pins σ H s i hP hw hK hh I ⟨he, hi⟩ ⟨c, hx⟩ => ?_) fun X pins σ H s i hP hw hK hh I ⟨he, hi⟩ hl => ?_
  all_goals subst hP hw hK
  · refine ⟨_, _, _, _, _, WalksT.enumerateD (Draws.text hh it x t) e hei ef (by simp), (Array.getElem?_eq_some_iff.mp hx).1, ⟨he, hi⟩, fun _ => id, fun us ⟨t, y, ⟨c', u, hc', ey⟩, eu⟩ => ⟨[.int (i : Nat), .str ⟨#[c]⟩], ?_, by show 2 ≤ sizeLine; decide, fun T hT => ⟨T, c, rfl, hT, rfl, hx⟩⟩⟩
    obtain rfl : c = c' := Option.some.inj (hx.symm.trans hc')
    rw [eu, ey]
    exact .cons ⟨_, rfl⟩ (.cons ⟨_, rfl⟩ .nil)
  · exact ⟨_, i, _, _, _, WalksT.enumerateD (overS' hh it x t i hl fun _ _ => True) e hei ef (by simp), he, hi, Nat.le_refl _⟩
def iEnumS (ta : TA) : TI := fun σ H R => ta σ H fun vs H1 => ∃ x, vs = [.str x] ∧ R (ItS x) H1
theorem pi_enumS {X : Cx} {e : Expr} {ta : TA} {p pos tpos : Pos} {elts : List Expr} {kk : Nat} (hg : Gl X "enumerate") (hm : X.mg "enumerate" = none) (ha : PA X [e] ta) (hs : starEach [e] X.env = [(false, eval e X.env)] := by rfl) :
    PI X (.Tuple elts kk tpos) (.Call (.Name "enumerate" p) [e] [] pos) (iEnumS ta) :=
  pi_enumOf (wi := fun vs H1 R => ∃ x, vs = [.str x] ∧ R (ItS x) H1) hg hm ha hs fun pins s σ H R vs us I r ⟨x, ev, q⟩ => by
    subst ev
    match us, r with
    | [_], .cons ⟨t, rfl⟩ .nil => exact call_enumerate_str fun h' he hi _ kp => wpAny_pyIter_enum he (pie_enum I kp (turn_enumS x t _ _ (Nat.succ_ne_self _)) ⟨⟨_, he⟩, hi⟩ q)
section
variable {W : Wd} {X : Cx} {E : XK}
def signsD (s : List Nat) : List D := s.map fun c => D.str [c]
theorem signsD_at {s : List Nat} {i : Nat} {d : D} (h : (signsD s)[i]? = some d) : ∃ c, s[i]? = some c ∧ d = .str [c] := by
  unfold signsD at h
  rw [List.getElem?_map] at h
  cases q : s[i]? with
  | none => rw [q] at h; cases h
  | some c => rw [q] at h; cases h; exact ⟨c, rfl, rfl⟩
theorem drv_enumS {F0 : Hp} {r0 : List Addr} {s : List Nat} (ha : s.all (fun c => decide (c < 128)) = true) : Drv W F0 r0 (ItS ⟨s.toArray⟩) (pairUp (signsD s), []) := fun i Rs F H r st sm x hH hst => by
  refine ⟨fun d e => ?_, fun hl => by
    rw [pairUp_len] at hl
    show s.toArray.size ≤ i
    have : (signsD s).length = s.length := by simp [signsD]
    simp; omega⟩
  obtain ⟨d', e', rfl⟩ := pairUp_at e
  obtain ⟨c, e1, rfl⟩ := signsD_at e'
  have e2 : (⟨s.toArray⟩ : Str).cps[i]? = some c := by simpa using e1
  refine ⟨⟨c, e2⟩, fun y H' yl => ?_⟩
  obtain ⟨T, c', rfl, hT, rfl, yl⟩ := yl
  rw [e2] at yl; cases yl
  obtain ⟨s1, h2⟩ := hH.frozen (o := .tup [.int (i : Nat), .str ⟨#[c]⟩]) hT
  have hc : c < 128 := by
    have := List.all_eq_true.mp ha c (List.mem_of_getElem? e1)
    simpa using this
  exact ⟨_, s1, h2, .tup upd_same (.cons (.int _) (.cons (.str [c] (by simp [hc]) (by show 1 ≤ 1000000; decide)) .nil))⟩
/-- enumerate of a text -/
def iEnS (g : AV) : IV := fun env st => (g env st).bind fun a => match a.1 with
  | [.str s] => .ok ((pairUp (signsD s), []), a.2)
  | _ => .bad
@[simp] theorem r_iEnS (g : AV) (env : Env) (st : Store) : iEnS g env st = (g env st).bind fun a => match a.1 with
  | [.str s] => .ok ((pairUp (signsD s), []), a.2)
  | _ => .bad := (rfl)
theorem di_enumS {e : Expr} {g : AV} {p pos tpos : Pos} {elts : List Expr} {kk : Nat} (hg : Gl X "enumerate") (hm : X.mg "enumerate" = none) (ha : DA W X E [e] g) (hs : starEach [e] X.env = [(false, eval e X.env)] := by rfl) :
    DI W X E (.Tuple elts kk tpos) (.Call (.Name "enumerate" p) [e] [] pos) (iEnS g) := by
  obtain ⟨t, pa, q⟩ := ha.ex
  refine ⟨_, pi_enumS hg hm pa hs, fun Rs F H r sg env st Q hH hE hP => ?_⟩
  refine q Rs F H r sg env st _ hH hE (bindX hP fun a ea z F1 H1 r1 vs s1 x1 h1 k1 => ?_)
  obtain ⟨ds, st1⟩ := a
  simp only at z
  split at z
  · match k1 with
    | .cons (.str s ha hl) .nil => exact ⟨_, rfl, z _ F1 H1 r1 s1 x1 h1 (drv_enumS ha)⟩
  · exact z.elim
end
end Dl
namespace Dl
open PySem L2
section
variable {W : Wd} {X : Cx}
def boolsOf : List D → Option (List Bool)
  | [] => some []
  | .bl b :: ds => (boolsOf ds).map (b :: ·)
  | _ => none
theorem boolsOf_ok {F : Hp} {r : List Addr} : ∀ {ds : List D} {vs : List V} {bs : List Bool}, Reps F r vs ds → boolsOf ds = some bs → vs = bs.map V.bl
  | [], _, _, .nil, e => by cases e; rfl
  | .bl b :: ds, _, bs, .cons h t, e => by
    unfold boolsOf at e
    cases q : boolsOf ds with
    | none => rw [q] at e; cases e
    | some bs' =>
      rw [q] at e; cases e
      cases h
      rw [boolsOf_ok t q]; rfl
  | .non :: ds, _, _, _, e => by cases e
  | .int _ :: ds, _, _, _, e => by cases e
  | .str _ :: ds, _, _, _, e => by cases e
  | .tup _ :: ds, _, _, _, e => by cases e
  | .lst _ :: ds, _, _, _, e => by cases e
  | .ref _ :: ds, _, _, _, e => by cases e
  | .scr _ :: ds, _, _, _, e => by cases e
  | .exn _ _ :: ds, _, _, _, e => by cases e
theorem boolsOf_map (bs : List Bool) : boolsOf (bs.map D.bl) = some bs := by
  induction bs with
  | nil => rfl
  | cons b bs ih => rw [List.map_cons, boolsOf, ih]; rfl
def anyG : GA := fun st ds => match ds with
  | [d] => match (lstOf st d).bind boolsOf with
    | some bs => .ok (.bl (bs.any id), st)
    | none => .bad
  | _ => .bad
theorem dc_any (hc : X.calm = true) : DC W X (.builtin "any") anyG := ⟨_, cr_any hc, fun Rs F H rr st vs ds Q E h k hP => by
  unfold anyG at hP
  split at hP
  · rename_i d
    match k with
    | .cons k .nil =>
      cases e1 : lstOf st d with
      | none => rw [e1] at hP; exact hP.elim
      | some ds =>
        rw [e1] at hP
        simp only [Option.bind_some] at hP
        split at hP
        · rename_i ns e2
          obtain ⟨p, vs, rfl, h1, k1⟩ := lstOf_ok h k e1
          have ev := boolsOf_ok k1 e2
          subst ev
          exact ⟨p, ns, rfl, .of h1, onE_here h (.bl _) hP⟩
        · exact hP.elim
  · exact hP.elim⟩
theorem any_lst (S : Store) (bs : List Bool) : anyG S [.lst (bs.map .bl)] = .ok (.bl (bs.any id), S) := by
  unfold anyG
  simp only [lstOf, Option.bind_some, boolsOf_map]
end
end Dl
namespace Dl
open PySem L2
/-- a class of the program under ValueError, without own __init__ -/
structure OwnEx (K : PySem.W.Frag) (mg : Str → Option Value) (x : Str) (C : Addr) : Prop where
  ex : PySem.W.excIn K C [.type "ValueError", .type "Exception", .type "BaseException", .type "object"] "ValueError.__new__" = true
  g : mg x = some (.ref C)
  k : PySem.W.keepIn K (.ref C) = true
  sb : PySem.W.subIn K (.ref C) (.type "BaseException") = some true
  ty : PySem.W.typeIn K (.ref C) = some (.type "type")
section
variable {W : Wd} {X : Cx} {E : XK}
def sRaise (c : Nat) : SV := fun _ st => .exc c none st
@[simp] theorem r_sRaise (c : Nat) (env : Env) (st : Store) : sRaise c env st = .exc c none st := (rfl)
theorem ds_raise {x m : Str} {c j : Nat} {p p2 pos pos2 : Pos} (hK : X.K = W.K) (hc : X.calm = true) (tk : Takes X fun cls d _ H => E cls d H) (o : OwnEx W.K X.mg x (W.cls c)) (hg : Gl X x) (hdb : (x == ("__debug__" : Str)) = false := by decide) :
    DS W X E (.Raise (some (.Call (.Name x p) [.Constant (.str m) j p2] [] pos)) none pos2) (sRaise c) := by
  refine .mk (ps_raise hc tk (pmk_own PySem.F.excBase_ValueError (by rw [hK]; exact o.ex) o.g (by rw [hK]; exact o.k) (raises_own (by rw [hK]; exact o.sb) (by rw [hK]; exact o.ty)) hg hdb)) fun Rs F H rr sg env st D hH hE hP => ?_
  exact hP F H rr none (Same.refl _) (Ext.refl _) hH rfl
/-- try: b / except ..: hb; what is raised is of the classes cs; n slots -/
def sTry (cs : List Nat) (n : Nat) (b hb : SV) : SV := fun env st => match b env st with
  | .exc c p st' => if c ∈ cs then hb (List.replicate n none) st' else .bad
  | .nx e s => .nx e s
  | .rt d s => .rt d s
  | .bk e s => .bk e s
  | .ct e s => .ct e s
  | .bad => .bad
@[simp] theorem r_sTry (cs : List Nat) (n : Nat) (b hb : SV) (env : Env) (st : Store) : sTry cs n b hb env st = match b env st with
  | .exc c p st' => if c ∈ cs then hb (List.replicate n none) st' else .bad
  | .nx e s => .nx e s
  | .rt d s => .rt d s
  | .bk e s => .bk e s
  | .ct e s => .ct e s
  | .bad => .bad := (rfl)
theorem takesN : Takes X (fun _ _ _ _ => False) := fun _ _ x => by
  obtain ⟨_, _, _, _, _, _, _, _, _, _, _, _, _, _, _, _, z⟩ := x
  exact z.elim
end
section
variable {P : Program} {w : World} {mg : Str → Option Value} {base : Heap} {E : XK}
theorem takesD {qual : Str} {N : List Str} {sc : Scope} {f : Addr} {cd : Value} {A : Around} {outer : List PySem.Env} {s : Shared} {H : Hp} {K : PySem.W.Frag} : Takes (cxOf (L2.CX P w) P w K mg base N qual sc f cd A outer s H E) (fun cls d _ H => E cls d H) :=
  takes_of rfl rfl rfl rfl
end
end Dl
namespace Dl
open PySem L2
section
variable {W : Wd} {X : Cx} {E : XK}
def eLR (m : Bool) (f : EV) : EV := fun env st => (f env st).bind fun a => match a.1 with
  | .int n => if 0 ≤ n ∧ n ≤ 1000000 then newL m (intsD 0 n.toNat) a.2 else .bad
  | _ => .bad
@[simp] theorem r_eLR (m : Bool) (f : EV) (env : Env) (st : Store) : eLR m f env st = (f env st).bind fun a => match a.1 with
  | .int n => if 0 ≤ n ∧ n ≤ 1000000 then newL m (intsD 0 n.toNat) a.2 else .bad
  | _ => .bad := (rfl)
end
end Dl
namespace Dl
open PySem PySem.Spec PyProof.Rows L2
/-- a lambda's text -/
structure LamD where
  q : Str
  params : Arguments
  body : PySem.Expr
  scope : Scope
/-- whatever it is: the object alone is known -/
def anyO : HO := .ext fun _ => True
theorem anyO_ok {P : Program} {w : World} {H : Hp} {h : Heap} {a : Addr} {o : Obj} (e : h.get? a = some o) : L2.ObjOk P w H h a (.frz o anyO) := ⟨e, trivial, ⟨o, e⟩, fun _ _ _ _ => trivial⟩
/-- the cells that a lambda keeps, by name; what they hold -/
structure CellsAt (H : Hp) (N : List Str) (cl : List (Str × Addr)) (us : List Value) : Prop where
  at_ : ∀ (i : Nat) (y : Str), N[i]? = some y → ∃ c u o, cl.lookup y = some c ∧ us[i]? = some u ∧ H c = some (.frz o anyO) ∧ o.data = .cell (some u)
  all : ∀ y c, cl.lookup y = some c → y ∈ N
  mem : ∀ y c, (y, c) ∈ cl → cl.lookup y = some c
  inj : ∀ y z c, cl.lookup y = some c → cl.lookup z = some c → y = z
  len : us.length = N.length
/-- the heap without these -/
def hideC (cs : List Addr) (H : Hp) : Hp := fun a => if a ∈ cs then none else H a
theorem hideC_in {cs : List Addr} {H : Hp} {a : Addr} (h : a ∈ cs) : hideC cs H a = none := if_pos h
theorem hideC_out {cs : List Addr} {H : Hp} {a : Addr} (h : a ∉ cs) : hideC cs H a = H a := if_neg h
/-- the heap with what H says of these -/
def showC (cs : List Addr) (H H' : Hp) : Hp := fun a => if a ∈ cs then H a else H' a
theorem showC_in {cs : List Addr} {H H' : Hp} {a : Addr} (h : a ∈ cs) : showC cs H H' a = H a := if_pos h
theorem showC_out {cs : List Addr} {H H' : Hp} {a : Addr} (h : a ∉ cs) : showC cs H H' a = H' a := if_neg h
/-- these are known objects -/
def Known (cs : List Addr) (H : Hp) : Prop := ∀ a ∈ cs, ∃ o, H a = some (.frz o anyO)
section
variable {P : Program} {w : World} {H H' : Hp} {h h' : Heap} {cs fs : List Addr}
theorem hok_hide (k : Known cs H) (ok : HOk P w H h) : HOk P w (hideC cs H) h := fun a o e => by
  have ha : a ∉ cs := fun m => by rw [hideC_in m] at e; cases e
  rw [hideC_out ha] at e
  have no : ∀ {b : Addr} {u : HO}, H b = some u → (∀ ob, u ≠ .frz ob anyO) → hideC cs H b = some u := fun {b u} q n => by
    rw [hideC_out fun m => ?_]
    · exact q
    · obtain ⟨ob, z⟩ := k b m
      rw [q] at z
      exact n ob (Option.some.inj z)
  exact (ok a o e).stay (fun b u _ q => q) (fun b q => no q fun ob z => by cases z) fun b xs q => no q fun ob z => by cases z
theorem hok_show (k : Known cs H) (hh : ∀ a ∈ cs, ∀ o, H a = some (.frz o anyO) → h'.get? a = some o) (hn : ∀ a ∈ cs, H' a = none) (ok : HOk P w H' h') : HOk P w (showC cs H H') h' := fun a o e => by
  by_cases ha : a ∈ cs
  · rw [showC_in ha] at e
    obtain ⟨ob, z⟩ := k a ha
    rw [e] at z
    cases z
    exact anyO_ok (hh a ha ob e)
  · rw [showC_out ha] at e
    have no : ∀ {b : Addr} {u : HO}, H' b = some u → showC cs H H' b = some u := fun {b u} q => by
      rw [showC_out fun m => ?_]
      · exact q
      · rw [hn b m] at q; cases q
    exact (ok a o e).stay (fun b u _ q => q) (fun b q => no q) fun b xs q => no q
theorem un_show (k : Known cs H) (ok : HOk P w H h) (hf : ∀ a ∈ cs, a ∉ fs) (un : Un fs [] (hideC cs H) H' h h') : Un fs [] H (showC cs H H') h h' := by
  have out : ∀ {b : Addr}, H b = none → b ∉ cs := fun {b} n m => by
    obtain ⟨ob, z⟩ := k b m
    rw [n] at z; cases z
  have notk : ∀ {b : Addr} {u : HO}, H b = some u → (∀ ob, u ≠ .frz ob anyO) → b ∉ cs := fun {b u} q n m => by
    obtain ⟨ob, z⟩ := k b m
    rw [q] at z
    exact n ob (Option.some.inj z)
  refine ⟨fun b o e n hb hx => un.keep b o e (by rw [hideC_out (out n)]; exact n) hb hx, fun b o e n hb hx => un.slot b o e (by rw [hideC_out (out n)]; exact n) hb hx,
    fun b o e n hx => by rw [showC_out (out n)]; exact un.free b o e (by rw [hideC_out (out n)]; exact n) hx, un.there, fun b xs e => ?_, fun b o u e => ?_, fun b ps e => ?_⟩
  · have hb := notk e fun ob z => by cases z
    rw [showC_out hb]; exact un.tups b xs (by rw [hideC_out hb]; exact e)
  · by_cases hb : b ∈ cs
    · rw [showC_in hb]; exact e
    · rw [showC_out hb]; exact un.frzs b o u (by rw [hideC_out hb]; exact e)
  · have hb := notk e fun ob z => by cases z
    rw [showC_out hb]; exact un.tbls b ps (by rw [hideC_out hb]; exact e)
theorem kept_show (k : Known cs H) (ok : HOk P w H h) (hf : ∀ a ∈ cs, a ∉ fs) (un : Un fs [] (hideC cs H) H' h h') : (∀ a ∈ cs, ∀ o, H a = some (.frz o anyO) → h'.get? a = some o) ∧ ∀ a ∈ cs, H' a = none := by
  refine ⟨fun a m o e => ?_, fun a m => ?_⟩
  · exact un.keep a o (ok a _ e).1 (hideC_in m) (hf a m) (by simp)
  · obtain ⟨o, e⟩ := k a m
    exact un.free a o (ok a _ e).1 (hideC_in m) (by simp)
end
/-- the lambda's names: captured ones alone, and globals -/
structure LamStat (N : List Str) (sc : Scope) : Prop where
  kind : sc.kind = .function
  co : sc.isCoroutine = false
  gen : sc.isGenerator = false
  own : ∀ y ∈ sc.names, y.2 ≠ .cell ∧ (y.2 = .local → y.1 ∉ N)
  free : ∀ y, sc.names.lookup y = some .free → y ∈ N
  nd : N.Nodup
abbrev lamE (ld : LamD) (cl : List (Str × Addr)) (L f c' : Addr) : PySem.Env := PySem.W.envX ld.q ld.scope L f (.ref c') cl
/-- the lambda's context, entered at s from X's frames -/
def LX (P : Program) (w : World) (K : PySem.W.Frag) (mg : Str → Option Value) (base : Heap) (A : Around) (stack : List PySem.Env) (N : List Str) (ld : LamD) (cl : List (Str × Addr)) (f c' : Addr) (s : Shared) (H : Hp) (E : XK) : Cx where
  prog := P
  w := w
  K := K
  mg := mg
  base := base
  A := A.deeper (lamE ld cl s.heap.objs.size f c')
  N := N
  s_0 := s
  H_0 := H
  env := lamE ld cl s.heap.objs.size f c'
  outer := stack
  stack := lamE ld cl s.heap.objs.size f c' :: stack
  ex := []
  fn := fun _ => false
  calm := true
  pn := []
  xe := fun e s' => wpAny (model P w) (A.deeper (lamE ld cl s.heap.objs.size f c')) (leaving (lamE ld cl s.heap.objs.size f c') e) (fun _ s'' => L2.CX P w stack H s E e s'') (fun e' s'' => L2.CX P w stack H s E e' s'') s'
section
variable {P : Program} {w : World} {K : PySem.W.Frag} {mg : Str → Option Value} {base : Heap} {A : Around} {stack : List PySem.Env} {N : List Str} {ld : LamD} {cl : List (Str × Addr)} {f c' : Addr} {s : Shared} {H : Hp} {E : XK}
theorem lam_inv {h₁ : Heap} {tk : Nat} {us : List Value} {vs : List V} (e0 : Env0 P w K mg base A stack s H) (hd : A.handled = none) (C : CellsAt H N cl us) (L : LamStat N ld.scope) (rv : Vals vs us)
    {m : Str → Option Value} (hns : h₁.Ns s.heap.objs.size m) (kp : ∀ b o, s.heap.get? b = some o → h₁.get? b = some o) :
    Inv (LX P w K mg base A stack N ld cl f c' s (hideC (cl.map (·.2)) H) E) [] (vs.map some) (hideC (cl.map (·.2)) H) { s with heap := h₁, toks := tk } := by
  have kn : Known (cl.map (·.2)) H := fun a m => by
    obtain ⟨⟨y, c⟩, hy, rfl⟩ := List.mem_map.mp m
    have hl := C.mem y c hy
    obtain ⟨i, hi⟩ := List.getElem?_of_mem (C.all y c hl)
    obtain ⟨c2, u, o, h1, h2, h3, h4⟩ := C.at_ i y hi
    rw [hl] at h1
    cases h1
    exact ⟨o, h3⟩
  have cellH : ∀ y c, cl.lookup y = some c → ∃ u, h₁.IsCell c (some u) := fun y c hl => by
    obtain ⟨i, hi⟩ := List.getElem?_of_mem (C.all y c hl)
    obtain ⟨c2, u, o, h1, h2, h3, h4⟩ := C.at_ i y hi
    rw [hl] at h1
    cases h1
    exact ⟨u, o, kp _ _ (e0.hok c _ h3).1, h4⟩
  have look : ∀ {y c}, cl.lookup y = some c → c ∈ cl.map (·.2) := fun {y c} hl => List.mem_map.mpr ⟨(y, c), PySem.mem_of_lookup hl, rfl⟩
  have noA : ∀ b : Addr, b ∉ ([] : List Addr) := fun b z => by cases z
  have none_of : ∀ {b}, H b = none → hideC (cl.map (·.2)) H b = none := fun {b} n => by
    unfold hideC
    split
    · rfl
    · exact n
  refine ⟨⟨e0.mod, L.kind, rfl, rfl, Nat.le_refl _, C.inj, fun y hy => ?_, fun y c z _ => ?_, fun _ => hd, Around.frames_deeper e0.frames, .inr ⟨rfl, rfl⟩, fun b z => absurd z (noA b), fun b o e => ⟨(e0.bs b o e).1, none_of (e0.bs b o e).2⟩, e0.bsz, fun b _ _ => noA b,
      fun b z => absurd z (noA b), e0.funs, fun b hb => none_of (e0.frf b hb)⟩, rfl, e0.bare, Un.kept kp, ⟨_, hns, fun i y v e1 e2 e3 => ?_⟩, fun y c e => ?_, none_of (e0.hok.fresh (Nat.le_refl _)), fun y c e => hideC_in (look e), fun p hp => ?_, (hok_hide kn e0.hok).kept kp, ?_⟩
  · have hy : ld.scope.names.lookup y = some .cell ∨ ld.scope.names.lookup y = some .free := hy
    rcases hy with hy | hy
    · exact absurd rfl (L.own _ (PySem.mem_of_lookup hy)).1
    · obtain ⟨i, hi⟩ := List.getElem?_of_mem (L.free y hy)
      obtain ⟨c2, u, o, h1, _⟩ := C.at_ i y hi
      exact ⟨c2, h1⟩
  · have z : false = true := z
    cases z
  · have e1 : N[i]? = some y := e1
    have e3 : Vis ld.scope y := e3
    obtain ⟨c, u, o, h1, h2, h3, h4⟩ := C.at_ i y e1
    rw [List.getElem?_map] at e2
    obtain ⟨v', hv, q⟩ := Option.map_eq_some_iff.mp e2
    cases q
    obtain ⟨u', hu, r⟩ := rv.get hv
    rw [h2] at hu
    cases hu
    refine ⟨u, r, .inr ⟨?_, c, h1, o, kp _ _ (e0.hok c _ h3).1, h4⟩⟩
    rcases e3 with k | k | k
    · exact absurd (List.mem_of_getElem? e1) ((L.own _ (PySem.mem_of_lookup k)).2 rfl)
    · exact .inl k
    · exact .inr k
  · obtain ⟨u, hu⟩ := cellH y c e
    exact ⟨_, hu⟩
  · have hp : p ∈ ([] : List (Addr × Obj)) ++ [] := hp
    cases hp
  · show (vs.map some).length = N.length
    rw [List.length_map, rv.length, C.len]
end
theorem known_of {H : Hp} {N : List Str} {cl : List (Str × Addr)} {us : List Value} (C : CellsAt H N cl us) : Known (cl.map (·.2)) H := fun a m => by
  obtain ⟨⟨y, c⟩, hy, rfl⟩ := List.mem_map.mp m
  have hl := C.mem y c hy
  obtain ⟨i, hi⟩ := List.getElem?_of_mem (C.all y c hl)
  obtain ⟨c2, u, o, h1, h2, h3, h4⟩ := C.at_ i y hi
  rw [hl] at h1
  cases h1
  exact ⟨o, h3⟩
section
variable {P : Program} {w : World} {H : Hp} {s s' : Shared} {cs : List Addr} {stack : List PySem.Env}
theorem ce_show {Q : VK} {u : Value} (k : Known cs H) (ok : HOk P w H s.heap) (hf : ∀ a ∈ cs, a ∉ frs stack) (h : CE stack P w (hideC cs H) s (fun v H' => (∀ a ∈ cs, H' a = none) → Q v (showC cs H H')) u s') : CE stack P w H s Q u s' := by
  obtain ⟨v, H', e1, e2, un, hok, r, q⟩ := h
  obtain ⟨k1, k2⟩ := kept_show k ok hf un
  exact ⟨v, _, e1, e2, un_show k ok hf un, hok_show k k1 k2 hok, r, q k2⟩
theorem cx_show {E : XK} {u : Value} (k : Known cs H) (ok : HOk P w H s.heap) (hf : ∀ a ∈ cs, a ∉ frs stack) (h : L2.CX P w stack (hideC cs H) s (fun c d H' => (∀ a ∈ cs, H' a = none) → E c d (showC cs H H')) u s') : L2.CX P w stack H s E u s' := by
  obtain ⟨a, B, H', cls, d, eu, fl, hok, ub, na, os, bare, q⟩ := h
  have out : ∀ {b : Addr}, H b = none → b ∉ cs := fun {b} n m => by
    obtain ⟨ob, z⟩ := k b m
    rw [n] at z; cases z
  have notk : ∀ {b : Addr} {u : HO}, H b = some u → (∀ ob, u ≠ .frz ob anyO) → b ∉ cs := fun {b u} q n m => by
    obtain ⟨ob, z⟩ := k b m
    rw [q] at z
    exact n ob (Option.some.inj z)
  have kB : ∀ b ∈ cs, ∀ o, H b = some (.frz o anyO) → B.get? b = some o := fun b m o e => ub.keep b o (ok b _ e).1 (hideC_in m) (hf b m)
  have nB : ∀ b ∈ cs, H' b = none := fun b m => by
    obtain ⟨o, e⟩ := k b m
    exact ub.free b o (ok b _ e).1 (hideC_in m)
  have nacs : a ∉ cs := fun m => by
    obtain ⟨o, e⟩ := k a m
    have e1 := kB a m o e
    rw [fl.2.1] at e1
    cases e1
  refine ⟨a, B, showC cs H H', cls, d, eu, fl, hok_show k kB nB hok, ⟨fun b o e n hb => ub.keep b o e (by rw [hideC_out (out n)]; exact n) hb, ub.slot, fun b o e n => by rw [showC_out (out n)]; exact ub.free b o e (by rw [hideC_out (out n)]; exact n), ub.there, fun b xs e => ?_, fun b o xs e => ?_, fun b ps e => ?_⟩,
    by rw [showC_out nacs]; exact na, os, bare, q nB⟩
  · have hb := notk e fun ob z => by cases z
    rw [showC_out hb]; exact ub.tups b xs (by rw [hideC_out hb]; exact e)
  · by_cases hb : b ∈ cs
    · rw [showC_in hb]; exact e
    · rw [showC_out hb]; exact ub.frzs b o xs (by rw [hideC_out hb]; exact e)
  · have hb := notk e fun ob z => by cases z
    rw [showC_out hb]; exact ub.tbls b ps (by rw [hideC_out hb]; exact e)
end
/-- the body's meaning, wherever it runs -/
def BodyOk (P : Program) (w : World) (W : Wd) (mg : Str → Option Value) (base : Heap) (k : Nat) (ld : LamD) (N : List Str) (fb : EV) : Prop :=
  ∀ (A : Around) (stack : List PySem.Env) (s : Shared) (H : Hp) (E : XK) (f c' : Addr) (cl : List (Str × Addr)), Room k (A.deeper (lamE ld cl s.heap.objs.size f c')) → DE W (LX P w W.K mg base A stack N ld cl f c' s H E) E ld.body fb
/-- the default's tuple -/
def DvH (H : Hp) (dV : Value) (dv : List Value) : Prop := (dV = .none ∧ dv = []) ∨ dv ≠ [] ∧ ∃ T, dV = .ref T ∧ H T = some (.frz (PySem.W.kdv_tup dv) anyO)
theorem DvH.same {H H' : Hp} (s : Same H H') {dV : Value} {dv : List Value} : DvH H dV dv → DvH H' dV dv
  | .inl h => .inl h
  | .inr ⟨n, T, e, h⟩ => .inr ⟨n, T, e, s _ _ h⟩
/-- the lambda's function object, at f -/
def FnStd (H : Hp) (ld : LamD) (cl : List (Str × Addr)) (c' f : Addr) : Prop := ∃ (pm ctv doc dV : Value) (dv : List Value), dv.length = ld.params.defaults.length ∧ DvH H dV dv ∧
  H f = some (.frz (PySem.W.kdv_obj "<lambda>" ld.q ld.params (.expr ld.body) ld.scope cl dV doc pm c' ctv) anyO)
theorem FnStd.same {H H' : Hp} (s : Same H H') {ld : LamD} {cl : List (Str × Addr)} {c' f : Addr} : FnStd H ld cl c' f → FnStd H' ld cl c' f
  | ⟨pm, ctv, doc, dV, dv, h1, h2, h3⟩ => ⟨pm, ctv, doc, dV, dv, h1, h2.same s, s _ _ h3⟩
/-- no parameter need be given: all have a default -/
def Free0 (ld : LamD) : Prop := ∃ xs : List Str, (∀ y ∈ xs, ld.scope.names.lookup y = some .local) ∧ ∀ (s : Shared) (cl : List (Str × Addr)) (doc pm cv ctv dV : Value) (dv : List Value), dv.length = ld.params.defaults.length →
  ((dV = .none ∧ dv = []) ∨ dv ≠ [] ∧ ∃ T, dV = .ref T ∧ s.heap.get? T = some (PySem.W.kdv_tup dv)) → BindsTo s (PySem.W.kdv_fn "<lambda>" ld.q ld.params (.expr ld.body) ld.scope cl dV doc pm cv ctv) ⟨[], []⟩ (xs.zip dv)
theorem free0_no {q : Str} {params : Arguments} {bd : PySem.Expr} {scope : Scope} (h0 : params.defaults = []) (h : ∀ (cl : List (Str × Addr)) (doc pm cv ctv : Value), bindArgs (PySem.W.kdv_fn "<lambda>" q params (.expr bd) scope cl .none doc pm cv ctv) ⟨[], []⟩ = pure []) : Free0 ⟨q, params, bd, scope⟩ := by
  refine ⟨[], fun y hy => (by cases hy), fun s cl doc pm cv ctv dV dv hl hd => ?_⟩
  have e : dv = [] := List.length_eq_zero_iff.mp (hl.trans (by show params.defaults.length = 0; rw [h0]; rfl))
  subst e
  rcases hd with ⟨rfl, _⟩ | ⟨n, _⟩
  · exact .of_eq (h cl doc pm cv ctv)
  · exact absurd rfl n
/-- a lambda at f: what stands there -/
structure LamAt (H : Hp) (ld : LamD) (N : List Str) (f : Addr) (cl : List (Str × Addr)) (c' : Addr) (us : List Value) : Prop where
  fn : FnStd H ld cl c' f
  co : H c' = some (LamX.CodeO c' ld.q)
  ce : CellsAt H N cl us
/-- a() is called: what it asks -/
def tAct (P : Program) (w : World) (W : Wd) (mg : Str → Option Value) (base : Heap) (k i : Nat) (E : XK) : TE := fun σ H Q => ∃ (ld : LamD) (N : List Str) (fb : EV) (f : Addr) (cl : List (Str × Addr)) (c' : Addr) (us : List Value) (vs : List V) (caps : List D) (Rs F : Hp) (r : List Addr) (st : Store),
  BodyOk P w W mg base k ld N fb ∧ Free0 ld ∧ LamStat N ld.scope ∧ σ[i]? = some (some (.ref f)) ∧ LamAt H ld N f cl c' us ∧ Vals vs us ∧ Holds W Rs F (hideC (cl.map (·.2)) H) r st ∧ Reps F r vs caps ∧
  Post W Rs F r (fb (caps.map some) st) (fun v H' => (∀ a ∈ cl.map (·.2), H' a = none) → Q v (showC (cl.map (·.2)) H H')) (fun c d H' => (∀ a ∈ cl.map (·.2), H' a = none) → E c d (showC (cl.map (·.2)) H H'))
theorem reps_env {F : Hp} {r : List Addr} {vs : List V} {ds : List D} (k : Reps F r vs ds) : EnvOk F r (vs.map some) (ds.map some) := ⟨by rw [List.length_map, List.length_map, k.length], fun i d e => by
  rw [List.getElem?_map] at e
  obtain ⟨d', hd, q⟩ := Option.map_eq_some_iff.mp e
  cases q
  obtain ⟨v, hv, kv⟩ := k.get hd
  exact ⟨v, by rw [List.getElem?_map, hv]; rfl, kv⟩⟩
theorem pe_act {X : Cx} {W : Wd} {k i : Nat} {a : Str} {p1 p2 : Pos} {E : XK} (hK : X.K = W.K) (hr : Room (k + 1) X.A) (hx : Passes (L2.CX X.prog X.w) X E) (hN : X.N[i]? = some a) (hv : Vis X.env.scope a) (hd : (a == ("__debug__" : Str)) = false := by decide) (hcd : (a == ("__classdict__" : Str)) = false := by decide) :
    PE X (.Call (.Name a p1) [] [] p2) (tAct X.prog X.w W X.mg X.base k i E) := by
  refine ⟨fun pins s0 σ H0 Q I0 hh => ?_⟩
  obtain ⟨ld, N, fb, f, cl, c', us, vs, caps, Rs, F, r, st, body, hfree, L, hs, ⟨⟨pm, ctv, doc, dV, dv, hdl, hdv, hfn⟩, hco, hce⟩, rv, hH, hR, hP⟩ := hh
  obtain ⟨ps0, hps, hbind⟩ := hfree
  have hvar := (pe_var (X := X) (pos := p1) (i := i) hN hv hd hcd).run pins s0 σ H0 (fun v H1 => v = .ref f ∧ H1 = H0) I0 ⟨.ref f, hs, rfl, rfl⟩
  refine wpAny_Call_Name_kw (thn hvar fun u s1 ⟨v, H1, I, r1, ev, eH⟩ => ?_)
  subst ev eH
  obtain rfl : u = Value.ref f := r1
  have kn := known_of hce
  have hcf : ∀ a ∈ cl.map (·.2), a ∉ frs X.stack := fun a m m2 => by
    obtain ⟨o, e⟩ := kn a m
    rw [I.stkFree a m2] at e
    cases e
  have hf := (I.hok f _ hfn).1
  refine PySem.W.callWith_F0 ⟨_, _, _, _, hf⟩ (wpAny_call ?_)
  have e0 : Env0 X.prog X.w W.K X.mg X.base X.A X.stack s1 H1 := by
    have z := I.env0
    rw [hK] at z
    exact z
  obtain ⟨⟨oc, xs, t, hoc, hdc, hvc⟩, _, _⟩ := I.hok c' _ hco
  have run : codeAny (model X.prog X.w) X.A (.call (.ref f) ⟨[], []⟩) (CR (L2.CX X.prog X.w) X.stack X.prog X.w (hideC (cl.map (·.2)) H1) s1 (fun v H' => (∀ a ∈ cl.map (·.2), H' a = none) → Q v (showC (cl.map (·.2)) H1 H')) (fun c d H' => (∀ a ∈ cl.map (·.2), H' a = none) → E c d (showC (cl.map (·.2)) H1 H'))) s1 := by
    refine PySem.W.kla_callFunE hr.depth hf rfl L.co L.gen rfl ⟨c', oc, xs, t, rfl, hoc, hdc, hvc⟩ ?_
    refine hbind s1 cl doc pm (.ref c') ctv dV dv hdl (hdv.imp id fun ⟨n, T, e, h⟩ => ⟨n, T, e, (I.hok T _ h).1⟩) _ _ _ _ ?_
    refine wpAny_newFunctionEnv (fun y hy => (L.own y hy).1) (fun y hy => hps y.1 (List.of_mem_zip hy).1) (fun h₁ hns hsb => ?_) L.kind
    refine ⟨I.nolimit.fresh _ hsb, ?_⟩
    show codeAny _ _ (.expr ld.body (lamE ld cl s1.heap.objs.size f c')) _ _
    have kp : ∀ (q : Addr) (z : Obj), s1.heap.get? q = some z → h₁.get? q = some z := fun q z e => hsb.extBut q z (Nat.ne_of_lt (Heap.lt_size e)) (Heap.get?_push_of_some _ e)
    have J := lam_inv (ld := ld) (f := f) (c' := c') (E := fun c d H' => (∀ a ∈ cl.map (·.2), H' a = none) → E c d (showC (cl.map (·.2)) H1 H')) (tk := s1.toks + (ps0.zip dv).length) e0 hr.hd hce L rv hns kp
    obtain ⟨tt, pp, qq⟩ := (body X.A X.stack s1 (hideC (cl.map (·.2)) H1) (fun c d H' => (∀ a ∈ cl.map (·.2), H' a = none) → E c d (showC (cl.map (·.2)) H1 H')) f c' cl (hr.deeper _)).ex
    refine PySem.W.kla_codeExpr (wpAny_mono (pp.run [] _ _ _ _ J (qq Rs F _ r _ (caps.map some) st _ hH (reps_env hR) hP)) (fun v s' hq => ?_) fun e s' hq => hq)
    obtain ⟨w', H', J', rv', q⟩ := hq
    exact ⟨w', H', J'.os, J'.bare, J'.base, J'.hok, rv', q⟩
  refine codeAny_mono run fun res s2 hq => ?_
  have ok1 := I.hok
  cases res with
  | error e => exact hx pins σ H1 s1 e s2 I (cx_show kn ok1 hcf hq)
  | ok fl =>
    cases fl with
    | ret u => exact I.after (ce_show kn ok1 hcf hq)
    | next => exact False.elim hq
    | brk => exact False.elim hq
    | cont => exact False.elim hq
end Dl
namespace Dl
open PySem PySem.Spec PyProof.Rows L2 PySem.W PySem.Calls
end Dl
namespace Dl
open PySem L2
section
variable {W : Wd} {X : Cx} {E : XK}
/-- raise C(i) -/
def sRaiseP (c : Nat) (f : EV) : SV := fun env st => sOf (f env st) fun a => match a.1 with
  | .int i => .exc c (some (.int i)) a.2
  | _ => .bad
@[simp] theorem r_sRaiseP (c : Nat) (f : EV) (env : Env) (st : Store) : sRaiseP c f env st = sOf (f env st) fun a => match a.1 with
  | .int i => .exc c (some (.int i)) a.2
  | _ => .bad := (rfl)
end
end Dl
namespace Dl
open PySem L2
theorem Same.hideR {Rs H : Hp} (s : Same Rs H) (cs : List Addr) : Same (hideC cs Rs) (hideC cs H) := fun a o e => by
  have ha : a ∉ cs := fun m => by rw [hideC_in m] at e; cases e
  rw [hideC_out ha] at e ⊢
  exact s _ _ e
section
variable {W : Wd} {Rs F H F' H' : Hp} {r r' : List Addr} {st st' : Store} {cs : List Addr}
theorem Holds.hide (h : Holds W Rs F H r st) (k : Known cs Rs) : Holds W (hideC cs Rs) F (hideC cs H) r st := by
  have nR : ∀ {a : Addr}, a ∈ cs → Rs a ≠ none := fun {a} m z => by
    obtain ⟨o, e⟩ := k a m
    rw [z] at e; cases e
  have hide_none : ∀ {a : Addr}, Rs a = none → hideC cs Rs a = none := fun {a} e => by
    unfold hideC
    split
    · rfl
    · exact e
  refine ⟨fun a o e => ?_, Same.hideR h.sR cs, fun a e => hide_none (h.dj a e), h.len, h.nd, fun a m => ⟨(h.own a m).1, hide_none (h.own a m).2⟩, fun i a o e1 e2 => ?_, ⟨fun t ht => ?_, h.tb.nF, fun a ps z => ?_⟩⟩
  · rw [hideC_out fun m => nR m (h.dj a (by rw [e]; simp))]
    exact h.sF _ _ e
  · refine (h.ob i a o e1 e2).mono (Same.refl _) (Ext.refl _) ?_
    exact hideC_out fun m => nR m (h.own a (List.mem_of_getElem? e1)).2
  · obtain ⟨t1, t2, t3, t4⟩ := h.tb.at_ t ht
    refine ⟨tabs_keep t1 fun a o e z => ?_, t2, hide_none t3, t4⟩
    rw [hideC_out fun m => ?_]
    · exact e
    · obtain ⟨ob, q⟩ := k a m
      have q2 := h.sR _ _ q
      rw [e] at q2
      cases q2
      rcases z with ⟨ps, z⟩ | ⟨φ, z⟩ <;> cases z
  · unfold hideC at z
    split at z
    · cases z
    · exact h.tb.nR a ps z
theorem Holds.unhide (h : Holds W Rs F H r st) (k : Known cs Rs) (h' : Holds W (hideC cs Rs) F' H' r' st') (hn : ∀ a ∈ cs, H' a = none) : Holds W Rs F' (showC cs H H') r' st' := by
  have out : ∀ {a : Addr}, H' a ≠ none → a ∉ cs := fun {a} n m => n (hn a m)
  have inR : ∀ {a : Addr}, a ∈ cs → F' a = none := fun {a} m => h'.freeF (hn a m)
  refine ⟨fun a o e => ?_, fun a o e => ?_, fun a e => ?_, h'.len, h'.nd, fun a m => ?_, fun i a o e1 e2 => ?_, ⟨fun t ht => ?_, h'.tb.nF, fun a ps z => ?_⟩⟩
  · have q := h'.sF _ _ e
    rw [showC_out (out (by rw [q]; simp))]; exact q
  · by_cases m : a ∈ cs
    · rw [showC_in m]; exact h.sR _ _ e
    · rw [showC_out m]; exact h'.sR _ _ (by rw [hideC_out m]; exact e)
  · have m : a ∉ cs := fun m => e (inR m)
    have := h'.dj a e
    rw [hideC_out m] at this; exact this
  · have m2 : a ∉ cs := out (h'.there m)
    have := h'.own a m
    rw [hideC_out m2] at this; exact this
  · refine (h'.ob i a o e1 e2).mono (Same.refl _) (Ext.refl _) ?_
    exact showC_out (out (h'.there (List.mem_of_getElem? e1)))
  · obtain ⟨t1, t2, t3, t4⟩ := h'.tb.at_ t ht
    have m : t.1 ∉ cs := out (tabs_here t1)
    refine ⟨t1.ext fun a o e => ?_, t2, by rw [hideC_out m] at t3; exact t3, t4⟩
    rw [showC_out (out (by rw [e]; simp))]; exact e
  · by_cases m : a ∈ cs
    · obtain ⟨ob, q⟩ := k a m
      rw [z] at q
      cases q
    · exact h'.tb.nR a ps (by rw [hideC_out m]; exact z)
end
/-- a lambda that stands aside; what it keeps -/
structure ClosR (P : Program) (w : World) (W : Wd) (mg : Str → Option Value) (base : Heap) (k : Nat) (Rs F : Hp) (r : List Addr) (fb : EV) (caps : List D) (f : Addr) : Prop where
  ex : ∃ (ld : LamD) (N : List Str) (cl : List (Str × Addr)) (c' : Addr) (us : List Value) (vs : List V), BodyOk P w W mg base k ld N fb ∧ Free0 ld ∧ LamStat N ld.scope ∧ FnStd Rs ld cl c' f ∧
    (Rs c' = some (LamX.CodeO c' ld.q) ∨ F c' = some (LamX.CodeO c' ld.q)) ∧ CellsAt Rs N cl us ∧ Vals vs us ∧ Reps F r vs caps
theorem ClosR.mono {P : Program} {w : World} {W : Wd} {mg : Str → Option Value} {base : Heap} {k : Nat} {Rs F F' : Hp} {r r' : List Addr} {fb : EV} {caps : List D} {f : Addr} (c : ClosR P w W mg base k Rs F r fb caps f) (s : Same F F') (x : Ext r r') : ClosR P w W mg base k Rs F' r' fb caps f := by
  obtain ⟨ld, N, cl, c', us, vs, h1, h2, h3, h4, h5, h6, h7, h8⟩ := c.ex
  exact ⟨ld, N, cl, c', us, vs, h1, h2, h3, h4, h5.imp id (s _ _), h6, h7, h8.mono s x⟩
/-- the cells stay what they are -/
theorem CellsAt.same {Rs H : Hp} {N : List Str} {cl : List (Str × Addr)} {us : List Value} (c : CellsAt Rs N cl us) (s : Same Rs H) : CellsAt H N cl us :=
  ⟨fun i y e => let ⟨c2, u, o, h1, h2, h3, h4⟩ := c.at_ i y e; ⟨c2, u, o, h1, h2, s _ _ h3, h4⟩, c.all, c.mem, c.inj, c.len⟩
section
variable {P : Program} {w : World} {W : Wd} {mg : Str → Option Value} {base : Heap}
/-- the lambda's call by its meaning -/
theorem act_of {k i : Nat} {E : XK} {Rs F H : Hp} {r : List Addr} {st : Store} {fb : EV} {caps : List D} {f : Addr} {σ : St} {Q : VK} (c : ClosR P w W mg base k Rs F r fb caps f) (h : Holds W Rs F H r st) (hs : σ[i]? = some (some (.ref f)))
    (hP : Post W Rs F r (fb (caps.map some) st) Q E) : tAct P w W mg base k i E σ H Q := by
  obtain ⟨ld, N, cl, c', us, vs, h1, h2, h3, h4, h5, h6, h7, h8⟩ := c.ex
  have kn := known_of h6
  have hc' : H c' = some (LamX.CodeO c' ld.q) := h5.elim (h.sR _ _) (h.sF _ _)
  refine ⟨ld, N, fb, f, cl, c', us, vs, caps, hideC (cl.map (·.2)) Rs, F, r, st, h1, h2, h3, hs, ⟨h4.same h.sR, hc', h6.same h.sR⟩, h7, h.hide kn, h8, ?_⟩
  cases er : fb (caps.map some) st with
  | bad => rw [er] at hP; exact hP.elim
  | ok b =>
    rw [er] at hP
    exact fun F' H' r' v s x h' k' hn => hP F' _ r' v s x (h.unhide kn h' hn) k'
  | exc cc p st' =>
    rw [er] at hP
    exact fun F' H' r' od s x h' k' hn => hP F' _ r' od s x (h.unhide kn h' hn) k'
end
/-- isinstance(e, ..): e in slot i, as the suite holds it -/
def eIsX (a : Nat) (o : Option (Nat × Str × Int)) (i : Nat) (b : Bool) : EV := fun env st => match env[i]? with
  | some (some (.exn a' o')) => if a' = a ∧ o' = o then .ok (.bl b, st) else .bad
  | _ => .bad
/-- e.f -/
def eXf (a : Nat) (o : Option (Nat × Str × Int)) (i : Nat) (f : Str) : EV := fun env st => match env[i]? with
  | some (some (.exn a' o')) => if a' = a ∧ o' = o then (match o with
    | some (_, g, k) => if g = f then .ok (.int k, st) else .bad
    | none => .bad) else .bad
  | _ => .bad
@[simp] theorem r_eIsX (a : Nat) (o : Option (Nat × Str × Int)) (i : Nat) (b : Bool) (env : Env) (st : Store) : eIsX a o i b env st = match env[i]? with
  | some (some (.exn a' o')) => if a' = a ∧ o' = o then .ok (.bl b, st) else .bad
  | _ => .bad := (rfl)
@[simp] theorem r_eXf (a : Nat) (o : Option (Nat × Str × Int)) (i : Nat) (f : Str) (env : Env) (st : Store) : eXf a o i f env st = match env[i]? with
  | some (some (.exn a' o')) => if a' = a ∧ o' = o then (match o with
    | some (_, g, k) => if g = f then .ok (.int k, st) else .bad
    | none => .bad) else .bad
  | _ => .bad := (rfl)
def toldR (cs : List Nat) (hm : Nat → Option D → Store → R (D × Store)) (res : R (D × Store)) : R (D × Store) := match res with
  | .ok a => .ok a
  | .exc c p st => if c ∈ cs then hm c p st else .bad
  | .bad => .bad
@[simp] theorem told_ok (cs : List Nat) (hm : Nat → Option D → Store → R (D × Store)) (a : D × Store) : toldR cs hm (.ok a) = .ok a := (rfl)
@[simp] theorem told_exc (cs : List Nat) (hm : Nat → Option D → Store → R (D × Store)) (c : Nat) (p : Option D) (st : Store) : toldR cs hm (.exc c p st) = if c ∈ cs then hm c p st else .bad := (rfl)
@[simp] theorem told_bad0 (cs : List Nat) (hm : Nat → Option D → Store → R (D × Store)) : toldR cs hm .bad = .bad := (rfl)
section
variable {P : Program} {w : World} {W : Wd} {mg : Str → Option Value} {base : Heap}
def spTold (P : Program) (w : World) (W : Wd) (mg : Str → Option Value) (base : Heap) (k : Nat) (cs : List Nat) (hm : Nat → Option D → Store → R (D × Store)) : Sp := fun vs H Q E => ∃ (Rs F : Hp) (r : List Addr) (st : Store) (fb : EV) (caps : List D) (f : Addr), vs = [.ref f] ∧ ClosR P w W mg base k Rs F r fb caps f ∧ Holds W Rs F H r st ∧
  Post W Rs F r (toldR cs hm (fb (caps.map some) st)) Q E
end
end Dl
namespace Dl
open PySem L2
def couldR (cs : List Nat) (g : D → D) (v1 : D) (res : R (D × Store)) : R (D × Store) := match res with
  | .ok a => .ok (g a.1, a.2)
  | .exc c _ st => if c ∈ cs then .ok (v1, st) else .bad
  | .bad => .bad
@[simp] theorem could_ok (cs : List Nat) (g : D → D) (v1 : D) (a : D × Store) : couldR cs g v1 (.ok a) = .ok (g a.1, a.2) := (rfl)
@[simp] theorem could_exc (cs : List Nat) (g : D → D) (v1 : D) (c : Nat) (p : Option D) (st : Store) : couldR cs g v1 (.exc c p st) = if c ∈ cs then .ok (v1, st) else .bad := (rfl)
section
variable {P : Program} {w : World} {W : Wd} {mg : Str → Option Value} {base : Heap}
/-- a plain answer for every refusal -/
def hmC (v1 : D) : Nat → Option D → Store → R (D × Store) := fun _ _ st => .ok (v1, st)
@[simp] theorem r_hmC (v1 : D) (c : Nat) (p : Option D) (st : Store) : hmC v1 c p st = .ok (v1, st) := (rfl)
end
end Dl
namespace Dl
open PySem L2
def couldR2 (cs cs2 : List Nat) (v1 v2 : D) (res : R (D × Store)) : R (D × Store) := match res with
  | .ok a => .ok a
  | .exc c _ st => if c ∈ cs then .ok (v1, st) else if c ∈ cs2 then .ok (v2, st) else .bad
  | .bad => .bad
@[simp] theorem could2_ok (cs cs2 : List Nat) (v1 v2 : D) (a : D × Store) : couldR2 cs cs2 v1 v2 (.ok a) = .ok a := (rfl)
@[simp] theorem could2_exc (cs cs2 : List Nat) (v1 v2 : D) (c : Nat) (p : Option D) (st : Store) : couldR2 cs cs2 v1 v2 (.exc c p st) = if c ∈ cs then .ok (v1, st) else if c ∈ cs2 then .ok (v2, st) else .bad := (rfl)
section
variable {P : Program} {w : World} {W : Wd} {mg : Str → Option Value} {base : Heap}
def spCould2 (P : Program) (w : World) (W : Wd) (mg : Str → Option Value) (base : Heap) (k : Nat) (cs cs2 : List Nat) (v1 v2 : D) : Sp := fun vs H Q E => ∃ (Rs F : Hp) (r : List Addr) (st : Store) (fb : EV) (caps : List D) (f : Addr), vs = [.ref f] ∧ ClosR P w W mg base k Rs F r fb caps f ∧ Holds W Rs F H r st ∧
  Post W Rs F r (couldR2 cs cs2 v1 v2 (fb (caps.map some) st)) Q E
theorem could_fn2 {s : Stmt} {x wk gx gx2 xn : Str} {f CG CG2 : Addr} {fd : FuncData} {N : List Str} {k i : Nat} {cs cs2 : List Nat} {s0 sr b₀ b₂ : Stmt} {suite suite2 : List Stmt} {p1 p2 p3 p4 p5 p7 np np2 q3 : Pos} {v0 v1 v2 : D} {E0 : XK}
    (F : Fun W.K x x s f fd) (S : FnScope N [wk] (defScope s)) (hbd : defBody s = [s0, .Try [.Assign [.Name xn q3] (.Call (.Name wk p1) [] [] p2) p3] [.ExceptHandler (some (.Name gx np)) none (b₀ :: suite) p4, .ExceptHandler (some (.Name gx2 np2)) none (b₂ :: suite2) p7] [] [] p5, sr])
    (hN0 : N[0]? = some wk) (hv0 : Vis (defScope s) wk) (hNi : N[i + 1]? = some xn) (hli : (defScope s).names.lookup xn = some .local) (hgl : (defScope s).names.lookup gx = some .globalImplicit) (hgm : mg gx = some (.ref CG)) (hdg : (gx == ("__debug__" : Str)) = false)
    (hgl2 : (defScope s).names.lookup gx2 = some .globalImplicit) (hgm2 : mg gx2 = some (.ref CG2)) (hdg2 : (gx2 == ("__debug__" : Str)) = false)
    (hcs : ∀ c ∈ cs, PySem.W.exmOne W.K (.ref (W.cls c)) (.ref CG) = some true) (hcs2 : ∀ c ∈ cs2, PySem.W.exmOne W.K (.ref (W.cls c)) (.ref CG) = some false ∧ PySem.W.exmOne W.K (.ref (W.cls c)) (.ref CG2) = some true)
    (hs0 : ∀ (cdv : Value) (A : Around) (outer : List PySem.Env) (sh : Shared) (H : Hp) (E : XK), Room k (A.deeper (PyProof.Rows.envOfC x (defScope s) sh.heap.objs.size f cdv)) → DS W (cxOf (L2.CX P w) P w W.K mg base N x (defScope s) f cdv A outer sh H E) E s0 (sAsg (eC v0) (gN (i + 1))))
    (hsr : ∀ (cdv : Value) (A : Around) (outer : List PySem.Env) (sh : Shared) (H : Hp) (E : XK), Room k (A.deeper (PyProof.Rows.envOfC x (defScope s) sh.heap.objs.size f cdv)) → DS W (cxOf (L2.CX P w) P w W.K mg base N x (defScope s) f cdv A outer sh H E) E sr (sRet (eV (i + 1))))
    (hsu : ∀ (cdv : Value) (A : Around) (outer : List PySem.Env) (sh : Shared) (H : Hp) (E : XK) (a : Addr) (oe : Obj) (pn : List (Addr × Obj)), Room k (A.deeper (PyProof.Rows.envOfC x (defScope s) sh.heap.objs.size f cdv)) →
      DB W ((cxOf (L2.CX P w) P w W.K mg base N x (defScope s) f cdv A outer sh H E).suite a ((a, oe) :: pn)) E (b₀ :: suite) (sAsg (eC v1) (gN (i + 1))))
    (hsu2 : ∀ (cdv : Value) (A : Around) (outer : List PySem.Env) (sh : Shared) (H : Hp) (E : XK) (a : Addr) (oe : Obj) (pn : List (Addr × Obj)), Room k (A.deeper (PyProof.Rows.envOfC x (defScope s) sh.heap.objs.size f cdv)) →
      DB W ((cxOf (L2.CX P w) P w W.K mg base N x (defScope s) f cdv A outer sh H E).suite a ((a, oe) :: pn)) E (b₂ :: suite2) (sAsg (eC v2) (gN (i + 1))))
    (hd0 : (wk == ("__debug__" : Str)) = false := by decide) (hcd0 : (wk == ("__classdict__" : Str)) = false := by decide) :
    FnOk P w W.K mg base (L2.CX P w) (k + 2) f fd [wk] (spCould2 P w W mg base k cs cs2 v1 v2) := by
  have hlt : i + 1 < N.length := (List.getElem?_eq_some_iff.mp hNi).1
  refine F.okX S (fun vs H Q E h => ?_) (fun cdv A outer sh H vs Q E hr h => ?_)
  · obtain ⟨_, _, _, _, _, _, f, rfl, _⟩ := h
    rfl
  · obtain ⟨Rs, F0, r, st, fb, caps, fw, rfl, cl, hH, hP⟩ := h
    rw [hbd]
    have d0 := hs0 cdv A outer sh H E (hr.mono (by omega))
    have dr := hsr cdv A outer sh H E (hr.mono (by omega))
    have du := fun a oe pn => hsu cdv A outer sh H E a oe pn (hr.mono (by omega))
    have du2 := fun a oe pn => hsu2 cdv A outer sh H E a oe pn (hr.mono (by omega))
    obtain ⟨X, hX⟩ : ∃ X, X = cxOf (L2.CX P w) P w W.K mg base N x (defScope s) f cdv A outer sh H E := ⟨_, rfl⟩
    have Xs : X.stack = X.env :: X.outer := by rw [hX]; rfl
    have Xf : X.env.frame = some X.env.locals := by rw [hX]; rfl
    rw [← hX] at d0 dr du du2 ⊢
    obtain ⟨t0, pr0, q0⟩ := d0.ex
    obtain ⟨tr, prr, qr⟩ := dr.ex
    refine ⟨_, pss_cons pr0 (pss_cons (ps_try_many (X := X) (Wout := fun _ _ _ _ => False) (l := [(.ref CG, fun _ _ _ => tDB W E (sAsg (eC v1) (gN (i + 1)))), (.ref CG2, fun _ _ _ => tDB W E (sAsg (eC v2) (gN (i + 1))))])
      (tb := fun Wx D σ H => ∃ E1 : XK, (∀ cls d σ' H', σ'.length = N.length → E1 cls d H' → Wx cls d σ' H') ∧ tAsg (tAct P w W mg base k 0 E1) (gName (i + 1)) D σ H)
      Xs Xf takesN (fun Wx pn xe tk _ => ?_) (.cons ⟨by rw [hX]; exact hgl, hdg, .inl (by rw [hX]; exact hgm)⟩ (fun a oe cls d pn _ _ => du a oe pn) (.cons ⟨by rw [hX]; exact hgl2, hdg2, .inl (by rw [hX]; exact hgm2)⟩ (fun a oe cls d pn _ _ => du2 a oe pn) .nil))) (pss_one prr)), ?_⟩
    · refine ⟨fun pins s' σ H' D I h' => ?_⟩
      obtain ⟨E1, hW, h3⟩ := h'
      have hx : Passes (L2.CX X.prog X.w) (X.tr pn xe) E1 := fun pins σ H s e s' I c => tk e s' (XE.of_call I (fun cls d H' h => hW cls d σ H' (by have := I.len; rw [hX] at this; exact this) h) c)
      have pa := pe_act (X := X.tr pn xe) (W := W) (k := k) (i := 0) (a := wk) (p1 := p1) (p2 := p2) (E := E1) (by rw [hX]; rfl) (by rw [hX]; exact hr) hx (by rw [hX]; exact hN0) (by rw [hX]; exact hv0) hd0 hcd0
      have hq := pss_one (ps_set (X := X.tr pn xe) (pos := p3) (pos' := q3) (by rw [hX]; exact S.nd) (by rw [hX]; exact hNi) (by rw [hX]; exact .inl hli) pa (by rfl) (.inr (by rw [hX]; exact hli)))
      refine hq.run pins s' σ H' D I ?_
      rw [hX]
      exact h3
    · have envOf : ∀ {F' : Hp} {r' : List Addr} {σ' : St}, σ'.length = N.length → EnvOk F' r' σ' (List.replicate N.length none) := fun {F' r' σ'} hl => ⟨by simp [hl], fun j dj ej => by
        rw [List.getElem?_replicate] at ej
        split at ej <;> cases ej⟩
      -- the end: what is told lies in its slot
      have back2 : ∀ {Ds : Ends} {F' H' : Hp} {r' : List Addr} {σ' : St} {st' : Store} {d : D}, Ds.rt = Q → Holds W Rs F' H' r' st' → EnvOk F' r' σ' ((List.replicate N.length none).set (i + 1) (some d)) → onE W Rs F' r' Q (d, st') → tr Ds σ' H' := fun {Ds F' H' r' σ' st' d} hD hh he hq => by
        refine qr Rs F' H' r' _ _ st' _ hh he ?_
        have e : sRet (eV (i + 1)) ((List.replicate N.length none).set (i + 1) (some d)) st' = .rt d st' := by
          simp [hlt]
        rw [e]
        show onE W Rs F' r' Ds.rt (d, st')
        rw [hD]; exact hq
      have back : ∀ {Ds : Ends} {F' H' : Hp} {r' : List Addr} {σ' : St} {st' : Store} {v : V} {d : D}, Ds.rt = Q → σ'.length = N.length → Holds W Rs F' H' r' st' → Rep F' r' v d → onE W Rs F' r' Q (d, st') → tr Ds (σ'.set (i + 1) (some v)) H' := fun {Ds F' H' r' σ' st' v d} hD hl hh kr hq => back2 hD hh ((envOf hl).set kr (i + 1)) hq
      have N1 : 1 ≤ N.length := by omega
      obtain ⟨env0, he0⟩ : ∃ env0 : Env, env0 = [D.exn fw none].map some ++ List.replicate (N.length - [D.exn fw none].length) none := ⟨_, rfl⟩
      have ok0 : EnvOk F0 r (L2.start N [V.ref fw]) env0 := by
        rw [he0]
        exact EnvOk.start (n := N.length) (ds := [.exn fw none]) (vs := [.ref fw]) (.cons (.exn0 fw) .nil)
      have len0 : env0.length = N.length := by rw [he0]; simp; omega
      have at0 : env0[0]? = some (some (.exn fw none)) := by rw [he0]; rfl
      refine q0 Rs F0 _ r _ env0 st _ hH ok0 ?_
      have e0 : sAsg (eC v0) (gN (i + 1)) env0 st = .nx (env0.set (i + 1) (some v0)) st := by simp
      rw [e0]
      intro F' H' r' sg' s x hH' hE'
      have hl : sg'.length = N.length := by have := hE'.len; rw [List.length_set, len0] at this; omega
      obtain ⟨vw, hs0, kw⟩ := hE'.at_ 0 (.exn fw none) (by rw [List.getElem?_set_ne (by omega)]; exact at0)
      have hv : vw = .ref fw := by cases kw; rfl
      subst hv
      refine ⟨fun cls dd H2 => ∃ c, cls = .ref (W.cls c) ∧ ∃ F2 r2 st2, Holds W Rs F2 H2 r2 st2 ∧ ((c ∈ cs ∧ onE W Rs F2 r2 Q (v1, st2)) ∨ (c ∈ cs2 ∧ onE W Rs F2 r2 Q (v2, st2))), fun cls d σ2 H2 hl2 he => ?_, ?_⟩
      · obtain ⟨c, rfl, F2, r2, st2, h1, h2⟩ := he
        have fin : ∀ (v : D) (D' : Ends), D'.nx = (fun σ' H' => tr { nx := fun x H' => Q V.non H', rt := Q } σ' H') → onE W Rs F2 r2 Q (v, st2) → tDB W E (sAsg (eC v) (gN (i + 1))) D' σ2 H2 := fun v D' hD hq => by
          refine ⟨Rs, F2, r2, List.replicate N.length none, st2, h1, envOf hl2, ?_⟩
          have e1 : sAsg (eC v) (gN (i + 1)) (List.replicate N.length none) st2 = .nx ((List.replicate N.length none).set (i + 1) (some v)) st2 := by simp
          rw [e1]
          show PostF W Rs F2 r2 _ _ D'.nx
          rw [hD]
          intro F3 H3 r3 sg3 s3 x3 hH3 hE3
          exact back2 rfl hH3 hE3 (fun F4 H4 r4 v4 s4 x4 => hq F4 H4 r4 v4 (s3.trans s4) (x3.trans x4))
        rcases h2 with ⟨hc, hq⟩ | ⟨hc, hq⟩
        · exact ⟨true, by rw [hX]; exact hcs c hc, fun _ a _ => fin v1 _ rfl hq, fun z => by cases z⟩
        · exact ⟨false, by rw [hX]; exact (hcs2 c hc).1, (fun z => by cases z), fun _ => ⟨true, by rw [hX]; exact (hcs2 c hc).2, fun _ a _ => fin v2 _ rfl hq, fun z => by cases z⟩⟩
      · refine act_of (cl.mono s x) hH' hs0 ?_
        cases er : fb (caps.map some) st with
        | bad => rw [er] at hP; exact hP.elim
        | ok b =>
          rw [er] at hP
          exact fun F2 H2 r2 v s2 x2 h2 k2 => back rfl hl h2 k2 (fun F3 H3 r3 v3 s3 x3 => hP F3 H3 r3 v3 (s.trans (s2.trans s3)) (x.trans (x2.trans x3)))
        | exc c p st' =>
          rw [er, could2_exc] at hP
          split at hP
          · rename_i hc
            exact fun F2 H2 r2 od s2 x2 h2 k2 => ⟨c, rfl, F2, r2, st', h2, .inl ⟨hc, fun F3 H3 r3 v3 s3 x3 => hP F3 H3 r3 v3 (s.trans (s2.trans s3)) (x.trans (x2.trans x3))⟩⟩
          · split at hP
            · rename_i hc
              exact fun F2 H2 r2 od s2 x2 h2 k2 => ⟨c, rfl, F2, r2, st', h2, .inr ⟨hc, fun F3 H3 r3 v3 s3 x3 => hP F3 H3 r3 v3 (s.trans (s2.trans s3)) (x.trans (x2.trans x3))⟩⟩
            · exact hP.elim
/-- one answer for the first clause's classes, another one for the others -/
def hmC2 (cs : List Nat) (v1 v2 : D) : Nat → Option D → Store → R (D × Store) := fun c _ st => if c ∈ cs then .ok (v1, st) else .ok (v2, st)
@[simp] theorem r_hmC2 (cs : List Nat) (v1 v2 : D) (c : Nat) (p : Option D) (st : Store) : hmC2 cs v1 v2 c p st = if c ∈ cs then .ok (v1, st) else .ok (v2, st) := (rfl)
theorem could_told2 (cs cs2 : List Nat) (v1 v2 : D) : couldR2 cs cs2 v1 v2 = toldR (cs ++ cs2) (hmC2 cs v1 v2) := by
  funext r
  cases r with
  | ok a => rfl
  | bad => rfl
  | exc c p st =>
    rw [could2_exc, told_exc, r_hmC2]
    by_cases h : c ∈ cs
    · rw [if_pos h, if_pos (List.mem_append_left _ h), if_pos h]
    · rw [if_neg h]
      by_cases h2 : c ∈ cs2
      · rw [if_pos h2, if_pos (List.mem_append_right _ h2), if_neg h]
      · rw [if_neg h2, if_neg]
        intro m
        rcases List.mem_append.mp m with m | m
        · exact h m
        · exact h2 m
theorem spCould2_told (k : Nat) (cs cs2 : List Nat) (v1 v2 : D) : spCould2 P w W mg base k cs cs2 v1 v2 = spTold P w W mg base k (cs ++ cs2) (hmC2 cs v1 v2) := by
  unfold spCould2 spTold
  rw [could_told2]
end
end Dl
namespace PySem
open Sem (wp)
open AutoSeq1 (wpAny_loadPart')
open PySem.Spec PySem.SeqAt
section
variable {prog : Program} {w : World}
theorem list_not_nil {prog : Program} {w : World} {A : Around} {E Q : Value → Shared → Prop} {s : Shared} {l b : Addr} {items : Array Value} (hl : s.heap.IsList l items) (hb : s.heap.IsList b #[]) (some_ : items.size ≠ 0) (room : A.units < cLine) (h : Q (.bool false) s) :
    wpAny (model prog w) A (richCompare .Eq (.ref l) (.ref b)) Q E s := by
    obtain ⟨⟨c1, d1, t1, s1⟩, h1, e1, n1, k1⟩ := hl
    obtain ⟨⟨c2, d2, t2, s2⟩, h2, e2, n2, k2⟩ := hb
    dsimp only at e1 e2 k1 k2
    subst e1 e2 k1 k2
    have eq_ : MeetsIn prog w (Builtin.«list.__eq__» ⟨[.ref l, .ref b], []⟩) fun _ R z => (z.heap.get? l = some ⟨.type "list", d1, .seq items n1, s1⟩ ∧ z.heap.get? b = some ⟨.type "list", d2, .seq #[] n2, s2⟩) ∧ R (.ok (.ret (.bool false))) z := fun _ _ z ⟨⟨a, c⟩, r⟩ => by
      have apart : (items.size != (#[] : Array Value).size) = true := by simpa using some_
      have isl := AutoSeq1.sub_list_list
      wp_walk using wpAny_loadPart' a, wpAny_loadPart' c
      exact r
    exact wpAny_richCompare_same_room (op := .Eq) ⟨_, h1, rfl⟩ ⟨_, h2, rfl⟩ F.slot_list_eq (call_meetsIn F.slot_list_eq ⟨_, h1, rfl⟩ F.entry_list_eq (F.args_list_eq_2 _ _) eq_ ⟨⟨h1, h2⟩, nofun, h⟩) room
end
end PySem
namespace Dl
open PySem L2
section
variable {W : Wd} {X : Cx}
def rEqNil (K : PySem.W.Frag) : R2 := fun x y H Q => ∃ a b xs, x = .ref a ∧ y = .ref b ∧ SqL K H a xs ∧ SqL K H b [] ∧ Q (.bl (decide (xs = []))) H
theorem op_eqNil (hu : X.A.units + 64 < cLine) : OpR X (compareOp .Eq) (rEqNil X.K) := by
  intro pins s σ H x y v u Q I rx ry h
  obtain ⟨a, b, xs, rfl, rfl, ha, hb, q⟩ := h
  cases (show v = Value.ref a from rx)
  cases (show u = Value.ref b from ry)
  obtain ⟨us, r1, p1, _⟩ := I.list ha
  obtain ⟨ws, r2, p2, _⟩ := I.list hb
  have hw : ws = [] := by cases r2; rfl
  subst hw
  show wpAny (model X.prog X.w) X.A (richCompare .Eq (.ref a) (.ref b)) _ X.xe s
  by_cases hx : xs = []
  · subst hx
    have hus : us = [] := by cases r1; rfl
    subst hus
    refine PySem.SeqAt.rcP_lists (e := fun _ => true) p1.isList p2.isList rfl (by omega) (fun j h1 h2 => absurd h1 (Nat.not_lt_zero _)) _ _ ?_
    exact ⟨.bl true, H, I, rfl, q⟩
  · rw [decide_eq_false hx] at q
    refine PySem.list_not_nil p1.isList p2.isList (fun z => hx ?_) (by omega) ?_
    · have hl := r1.length
      simp at z
      subst z
      exact List.length_eq_zero_iff.mp hl
    · exact ⟨.bl false, H, I, rfl, q⟩
/-- x == [], whatever x holds -/
def eqNilG : G2 := fun st d e => match lstOf st d, lstOf st e with
  | some xs, some [] => .ok (.bl (decide (xs.length = 0)), st)
  | _, _ => .bad
theorem dop_eqNil (hK : X.K = W.K) (hu : X.A.units + 64 < cLine) : DOp W X (compareOp .Eq) eqNilG := .of (op_eqNil hu) fun Rs F H rr st x y dx dy Q E h kx ky hP => by
  unfold eqNilG at hP
  split at hP
  · rename_i xs e1 e2
    obtain ⟨p, vs, rfl, h1, k1⟩ := lstOf_ok h kx e1
    obtain ⟨q, ws, rfl, h2, k2⟩ := lstOf_ok h ky e2
    cases k2
    have : decide (vs = []) = decide (xs.length = 0) := by
      rw [decide_eq_decide, ← k1.length]
      exact List.length_eq_zero_iff.symm
    refine ⟨p, q, vs, rfl, rfl, .of h1, .of h2, ?_⟩
    rw [this]
    exact onE_here h (.bl _) hP
  · exact hP.elim
end
end Dl
namespace Dl
open PySem L2
section
variable {κ : Type} [DecidableEq κ]
/-- what stands at a key -/
def valK (kvs : List (κ × D)) (k : κ) : Option D := (kvs.find? fun kv => decide (kv.1 = k)).map (·.2)
/-- a key's new value, at the old place or at the end -/
def putKD (kvs : List (κ × D)) (k : κ) (v : D) : List (κ × D) :=
  if kvs.any (fun kv => decide (kv.1 = k)) then kvs.map (fun kv => if kv.1 = k then (kv.1, v) else kv) else kvs ++ [(k, v)]
theorem valK_cons (p : κ × D) (r : List (κ × D)) (k : κ) : valK (p :: r) k = if p.1 = k then some p.2 else valK r k := by
  by_cases h : p.1 = k <;> simp [valK, List.find?_cons, h]
section
variable {F : Hp} {r : List Addr}
theorem KVr.val {k : κ} {d : D} : ∀ {vs : List (κ × V)} {kvs : List (κ × D)}, KVr F r vs kvs → valK kvs k = some d → ∃ v, valV vs k = some v ∧ Rep F r v d
  | [], [], _, e => by cases e
  | (f, v) :: vs, (g, d') :: kvs, ⟨e, h, q⟩, z => by
    subst e
    rw [valK_cons] at z
    by_cases hk : f = k
    · rw [if_pos hk] at z
      cases z
      exact ⟨v, valV_pos hk, h⟩
    · rw [if_neg hk] at z
      rw [valV_neg hk]
      exact KVr.val q z
  | [], _ :: _, h, _ => h.elim
  | _ :: _, [], h, _ => h.elim
theorem KVr.valN {k : κ} : ∀ {vs : List (κ × V)} {kvs : List (κ × D)}, KVr F r vs kvs → valK kvs k = none → valV vs k = none
  | [], [], _, _ => rfl
  | (f, v) :: vs, (g, d') :: kvs, ⟨e, h, q⟩, z => by
    subst e
    rw [valK_cons] at z
    by_cases hk : f = k
    · rw [if_pos hk] at z; cases z
    · rw [if_neg hk] at z
      rw [valV_neg hk]
      exact KVr.valN q z
  | [], _ :: _, h, _ => h.elim
  | _ :: _, [], h, _ => h.elim
/-- what is looked up, and its data -/
def RelK (F : Hp) (r : List Addr) : Option D → Option V → Prop
  | none, ov => ov = none
  | some d, ov => ∃ v, ov = some v ∧ Rep F r v d
theorem KVr.rel {k : κ} {vs : List (κ × V)} {kvs : List (κ × D)} (h : KVr F r vs kvs) : RelK F r (valK kvs k) (valV vs k) := by
  cases e : valK kvs k with
  | none => exact h.valN e
  | some d => exact h.val e
theorem KVr.any {k : κ} : ∀ {vs : List (κ × V)} {kvs : List (κ × D)}, KVr F r vs kvs → vs.any (fun kv => decide (kv.1 = k)) = kvs.any (fun kv => decide (kv.1 = k))
  | [], [], _ => rfl
  | (f, v) :: vs, (g, d') :: kvs, ⟨e, h, q⟩ => by
    subst e
    rw [List.any_cons, List.any_cons, KVr.any q]
  | [], _ :: _, h => h.elim
  | _ :: _, [], h => h.elim
theorem KVr.len : ∀ {vs : List (κ × V)} {kvs : List (κ × D)}, KVr F r vs kvs → vs.length = kvs.length
  | [], [], _ => rfl
  | (f, v) :: vs, (g, d') :: kvs, ⟨_, _, q⟩ => by simp [KVr.len q]
  | [], _ :: _, h => h.elim
  | _ :: _, [], h => h.elim
theorem KVr.repl {k : κ} {w : V} {e : D} (hw : Rep F r w e) : ∀ {vs : List (κ × V)} {kvs : List (κ × D)}, KVr F r vs kvs → KVr F r (vs.map fun kv => if kv.1 = k then (kv.1, w) else kv) (kvs.map fun kv => if kv.1 = k then (kv.1, e) else kv)
  | [], [], _ => trivial
  | (f, v) :: vs, (g, d') :: kvs, ⟨z, h, q⟩ => by
    subst z
    rw [List.map_cons, List.map_cons]
    by_cases hk : f = k
    · simp only [hk, if_true]
      exact ⟨rfl, hw, KVr.repl hw q⟩
    · simp only [hk, if_false]
      exact ⟨rfl, h, KVr.repl hw q⟩
  | [], _ :: _, h => h.elim
  | _ :: _, [], h => h.elim
theorem KVr.snoc {k : κ} {w : V} {e : D} (hw : Rep F r w e) : ∀ {vs : List (κ × V)} {kvs : List (κ × D)}, KVr F r vs kvs → KVr F r (vs ++ [(k, w)]) (kvs ++ [(k, e)])
  | [], [], _ => ⟨rfl, hw, trivial⟩
  | (f, v) :: vs, (g, d') :: kvs, ⟨z, h, q⟩ => ⟨z, h, KVr.snoc hw q⟩
  | [], _ :: _, h => h.elim
  | _ :: _, [], h => h.elim
theorem KVr.put {k : κ} {w : V} {e : D} (hw : Rep F r w e) {vs : List (κ × V)} {kvs : List (κ × D)} (h : KVr F r vs kvs) : KVr F r (putK vs k w) (putKD kvs k e) := by
  unfold putK putKD
  rw [h.any]
  split
  · exact h.repl hw
  · exact h.snoc hw
end
end
def keysOf : List D → Option (List L2.Key)
  | [] => some []
  | .int i :: ds => (keysOf ds).map (Sum.inl i :: ·)
  | .str s :: ds => (keysOf ds).map (Sum.inr ⟨s.toArray⟩ :: ·)
  | _ => none
@[simp] theorem keysOf_nil : keysOf [] = some [] := rfl
@[simp] theorem keysOf_int (i : Int) (ds : List D) : keysOf (.int i :: ds) = (keysOf ds).map (Sum.inl i :: ·) := rfl
@[simp] theorem keysOf_str (s : List Nat) (ds : List D) : keysOf (.str s :: ds) = (keysOf ds).map (Sum.inr ⟨s.toArray⟩ :: ·) := rfl
theorem keysOf_ok {F : Hp} {r : List Addr} : ∀ {ds : List D} {vs : List V} {ks : List L2.Key}, Reps F r vs ds → keysOf ds = some ks → vs = ks.map kV
  | [], _, _, .nil, e => by cases e; rfl
  | .int i :: ds, _, ks, .cons h t, e => by
    rw [keysOf_int] at e
    cases q : keysOf ds with
    | none => rw [q] at e; cases e
    | some ks' =>
      rw [q] at e; cases e
      cases h
      rw [keysOf_ok t q]; rfl
  | .str s :: ds, _, ks, .cons h t, e => by
    rw [keysOf_str] at e
    cases q : keysOf ds with
    | none => rw [q] at e; cases e
    | some ks' =>
      rw [q] at e; cases e
      cases h
      rw [keysOf_ok t q]; rfl
  | .non :: ds, _, ks, _, e => by cases e
  | .bl _ :: ds, _, ks, _, e => by cases e
  | .tup _ :: ds, _, ks, _, e => by cases e
  | .lst _ :: ds, _, ks, _, e => by cases e
  | .ref _ :: ds, _, ks, _, e => by cases e
  | .scr _ :: ds, _, ks, _, e => by cases e
  | .exn _ _ :: ds, _, ks, _, e => by cases e
/-- what the dict d holds at the key e; none where no word is said -/
def dvalG (st : Store) (d e : D) : Option (Option D) := match d with
  | .ref n => match st[n]? with
    | some (.dT kvs) => match e with
      | .tup ks => (keysOf ks).map (valK kvs)
      | _ => none
    | some (.dK kvs) => match e with
      | .int i => some (valK kvs (.inl i))
      | .str s => some (valK kvs (.inr ⟨s.toArray⟩))
      | _ => none
    | _ => none
  | _ => none
theorem dval_ok {W : Wd} {Rs F H : Hp} {r : List Addr} {st : Store} {x y : V} {dx dy : D} {o : Option D} (h : Holds W Rs F H r st) (kx : Rep F r x dx) (ky : Rep F r y dy) (e : dvalG st dx dy = some o) :
    ∃ a ov, x = .ref a ∧ DGet H a y ov ∧ RelK F r o ov := by
  cases kx with
  | @ref a n q =>
    unfold dvalG at e
    simp only at e
    split at e
    · rename_i kvs e1
      obtain ⟨vs, h1, k1⟩ := h.ob n a _ q e1
      cases ky with
      | @tup b vs2 ds qb kb =>
        simp only at e
        cases e2 : keysOf ds with
        | none => rw [e2] at e; cases e
        | some ks =>
          rw [e2] at e
          cases e
          have e3 := keysOf_ok kb e2
          subst e3
          exact ⟨a, _, rfl, DGet.t h1 (h.sF _ _ qb), k1.rel⟩
      | _ => cases e
    · rename_i kvs e1
      obtain ⟨vs, h1, k1⟩ := h.ob n a _ q e1
      cases ky with
      | int i =>
        cases e
        exact ⟨a, _, rfl, DGet.k (k := .inl i) h1, k1.rel⟩
      | str s hs hl =>
        cases e
        exact ⟨a, _, rfl, DGet.k (k := .inr ⟨s.toArray⟩) h1, k1.rel⟩
      | _ => cases e
    · cases e
  | _ => cases e
section
variable {W : Wd} {X : Cx} {E : XK}
theorem hu_of {j : Nat} {A : Around} (hr : Room j A) : A.units + 1 < cLine := by
  have := hr.units
  omega
def dgetG : G2 := fun st d e => match dvalG st d e with
  | some (some v) => .ok (v, st)
  | _ => .bad
theorem de_dget {a b : Expr} {fa fb : EV} {pos : Pos} (hu : X.A.units + 1 < cLine) (ha : DE W X E a fa) (hb : DE W X E b fb) (hs : NoSl b) : DE W X E (.Subscript a b pos) (eOp dgetG fa fb) := by
  obtain ⟨ta, pa, qa⟩ := ha.ex
  obtain ⟨tb, pb, qb⟩ := hb.ex
  refine .mk (pe_dget hu pa pb hs) fun Rs F H rr sg env st Q hH hE hP => eOp_post (rd := fun x y H Q => ∃ a v, x = .ref a ∧ DGet H a y (some v) ∧ Q v H) qa qb ?_ hH hE hP
  intro Rs F H rr st x y dx dy Q E h kx ky hP
  unfold dgetG at hP
  cases e : dvalG st dx dy with
  | none => rw [e] at hP; exact hP.elim
  | some o =>
    rw [e] at hP
    cases o with
    | none => exact hP.elim
    | some d =>
      obtain ⟨a, ov, rfl, g, v, rfl, k⟩ := dval_ok h kx ky e
      exact ⟨a, v, rfl, g, onE_here h k hP⟩
def eDictT : EV := fun _ st => .ok (.ref st.length, st ++ [.dT []])
def eDictK : EV := fun _ st => .ok (.ref st.length, st ++ [.dK []])
@[simp] theorem r_eDictT (env : Env) (st : Store) : eDictT env st = .ok (.ref st.length, st ++ [.dT []]) := (rfl)
@[simp] theorem r_eDictK (env : Env) (st : Store) : eDictK env st = .ok (.ref st.length, st ++ [.dK []]) := (rfl)
end
end Dl
namespace Dl
open PySem L2
/-- all are told alike -/
def allR (ga : FV) (cs : List Nat) (hm : Nat → Option D → Store → R (D × Store)) (due : D) : List (EV × List D) → Store → R (D × Store)
  | [], st => .ok (.bl true, st)
  | w :: ws, st => (noX (toldR cs hm (w.1 (w.2.map some) st))).bind fun a => (noX (ga [a.1, due] a.2)).bind fun b => match b.1 with
    | .bl true => allR ga cs hm due ws b.2
    | _ => .bad
@[simp] theorem allR_nil (ga : FV) (cs : List Nat) (hm : Nat → Option D → Store → R (D × Store)) (due : D) (st : Store) : allR ga cs hm due [] st = .ok (.bl true, st) := (rfl)
@[simp] theorem allR_cons (ga : FV) (cs : List Nat) (hm : Nat → Option D → Store → R (D × Store)) (due : D) (w : EV × List D) (ws : List (EV × List D)) (st : Store) : allR ga cs hm due (w :: ws) st = (noX (toldR cs hm (w.1 (w.2.map some) st))).bind fun a => (noX (ga [a.1, due] a.2)).bind fun b => match b.1 with
    | .bl true => allR ga cs hm due ws b.2
    | _ => .bad := (rfl)
end Dl
namespace Dl
open PySem PySem.Spec L2
section
variable {W : Wd} {Rs F H : Hp} {r : List Addr} {st : Store}
/-- a thing that is there and nobody's is put aside -/
theorem Holds.claim (h : Holds W Rs F H r st) {a : Addr} {o : HO} (e : H a = some o) (hF : F a = none) (hR : Rs a = none) (hr : a ∉ r) (hn : ∀ ps, o ≠ .tbl ps) : Holds W (upd Rs a o) F H r st := by
  refine ⟨h.sF, fun c u q => ?_, fun c q => ?_, h.len, h.nd, fun c m => ⟨(h.own c m).1, ?_⟩, h.ob, ⟨fun t ht => ?_, h.tb.nF, fun b ps => ?_⟩⟩
  · by_cases hc : c = a
    · subst hc; rw [upd_same] at q; cases q; exact e
    · rw [upd_ne hc] at q; exact h.sR _ _ q
  · rw [upd_ne (fun (z : c = a) => q (by rw [z]; exact hF))]; exact h.dj c q
  · rw [upd_ne (fun (z : c = a) => hr (by rw [← z]; exact m))]; exact (h.own c m).2
  · obtain ⟨t1, t2, t3, t4⟩ := h.tb.at_ t ht
    refine ⟨t1, t2, ?_, t4⟩
    rw [upd_ne fun z => ?_]
    · exact t3
    · obtain ⟨ps, h1, _⟩ := t1
      rw [z, e] at h1
      exact hn ps (Option.some.inj h1)
  · by_cases hb : b = a
    · rw [hb, upd_same]; exact fun z => hn ps (Option.some.inj z)
    · rw [upd_ne hb]; exact h.tb.nR b ps
/-- a table grows by a new code object -/
theorem Holds.grown (h : Holds W Rs F H r st) {P c : Addr} {q : Str} {ps : Array Value} {pos : Pos} (hP : H P = some (.tbl ps)) (ht : TriplesOk ps.toList) (hm : (P, q) ∈ W.tabs) (hu : ∀ p ∈ W.tabs, p.1 = P → p.2 = q) (hc : H c = none) :
    Holds W (upd Rs c (LamX.CodeO c q)) F (upd (upd H P (.tbl (ps ++ #[rawInt pos.line, rawInt pos.col, .ref c]))) c (LamX.CodeO c q)) r st := by
  obtain ⟨t1, t2, t3, t4⟩ := h.tb.at_ _ hm
  have nPc : P ≠ c := fun z => by rw [z, hc] at hP; cases hP
  have out : ∀ {b : Addr} {o : HO}, H b = some o → b ≠ P → upd (upd H P (.tbl (ps ++ #[rawInt pos.line, rawInt pos.col, .ref c]))) c (LamX.CodeO c q) b = some o := fun {b o} e n => by
    rw [upd_ne (fun z => by rw [z, hc] at e; cases e), upd_ne n]; exact e
  have cn : ∀ ps', LamX.CodeO c q ≠ .tbl ps' := fun ps' z => LamX.codeO_ne ps' z
  refine ⟨fun b o e => out (h.sF _ _ e) fun z => ?_, fun b o e => ?_, fun b e => ?_, h.len, h.nd, fun b m => ⟨(h.own b m).1, ?_⟩, fun i b o e1 e2 => ?_, ⟨fun t htt => ?_, h.tb.nF, fun b ps' => ?_⟩⟩
  · rw [z, t2] at e; cases e
  · by_cases hb : b = c
    · subst hb; rw [upd_same] at e ⊢; exact e
    · rw [upd_ne hb] at e
      exact out (h.sR _ _ e) fun z => by rw [z, t3] at e; cases e
  · rw [upd_ne (fun (z : b = c) => e (by rw [z]; exact h.freeF hc))]; exact h.dj b e
  · rw [upd_ne (fun (z : b = c) => h.notin hc (by rw [← z]; exact m))]; exact (h.own b m).2
  · have mb := List.mem_of_getElem? e1
    refine (h.ob i b o e1 e2).mono (Same.refl _) (Ext.refl _) ?_
    rw [upd_ne (fun (z : b = c) => h.notin hc (by rw [← z]; exact mb)), upd_ne (fun (z : b = P) => t4 (by rw [← z]; exact mb))]
  · obtain ⟨s1, s2, s3, s4⟩ := h.tb.at_ t htt
    have hn : t.1 ≠ c := fun z => tabs_here s1 (by rw [z]; exact hc)
    refine ⟨?_, s2, by rw [upd_ne hn]; exact s3, s4⟩
    by_cases hp : t.1 = P
    · rw [hu t htt hp, hp]
      obtain ⟨ps0, a1, a2, a3⟩ := t1
      rw [hP] at a1
      cases a1
      have eL : (ps ++ #[rawInt pos.line, rawInt pos.col, .ref c]).toList = ps.toList ++ [rawInt pos.line, rawInt pos.col, .ref c] := by simp
      refine ⟨_, by rw [upd_ne nPc, upd_same], by rw [eL]; exact PySem.TriplesOk_snoc _ _ _ _ ht, fun p' cv hcv => ?_⟩
      rw [eL] at hcv
      rcases LamX.among_app _ ht hcv with z | z
      · obtain ⟨c0, b1, b2⟩ := a3 p' cv z
        exact ⟨c0, b1, out b2 fun z => by rw [z, hP] at b2; cases b2⟩
      · exact ⟨c, z, upd_same⟩
    · obtain ⟨ps0, a1, a2, a3⟩ := s1
      refine ⟨ps0, out a1 hp, a2, fun p' cv hcv => ?_⟩
      obtain ⟨c0, b1, b2⟩ := a3 p' cv hcv
      exact ⟨c0, b1, out b2 fun z => by rw [z, hP] at b2; cases b2⟩
  · by_cases hb : b = c
    · rw [hb, upd_same]; exact fun z => cn ps' (Option.some.inj z)
    · rw [upd_ne hb]; exact h.tb.nR b ps'
end
/-- a lambda of X's own, made: what stands aside of it -/
def MadeAt (Rs F : Hp) (ld : LamD) (cl : List (Str × Addr)) (f : Addr) : Prop := ∃ (c' : Addr), FnStd Rs ld cl c' f ∧ (Rs c' = some (LamX.CodeO c' ld.q) ∨ F c' = some (LamX.CodeO c' ld.q))
theorem MadeAt.mono {Rs Rs' F F' : Hp} {ld : LamD} {cl : List (Str × Addr)} {f : Addr} (m : MadeAt Rs F ld cl f) (s : Same Rs Rs') (s' : Same F F') : MadeAt Rs' F' ld cl f := by
  obtain ⟨c', h1, h2⟩ := m
  exact ⟨c', h1.same s, h2.imp (s _ _) (s' _ _)⟩
/-- what the maker's code object must be -/
structure Maker (W : Wd) (X : Cx) (q : Str) : Prop where
  ex : ∃ c P, LamX.TabB X.base X.mg c P ∧ X.env.code = .ref c ∧ (P, q) ∈ W.tabs ∧ ∀ p ∈ W.tabs, p.1 = P → p.2 = q
section
variable {W : Wd} {X : Cx}
def tMade (W : Wd) (X : Cx) (ld : LamD) : TE := fun _ H Q => ∃ (Rs F : Hp) (r : List Addr) (st : Store), Holds W Rs F H r st ∧ ∀ Rs' H' f, Same Rs Rs' → Holds W Rs' F H' r st → MadeAt Rs' F ld (cloFrom X.env.cells ld.scope.names []) f → Q (.ref f) H'
theorem made_tail {ld : LamD} {pos : Pos} (mk : Maker W X ld.q) (hq : X.env.qual ++ "<lambda>" = ld.q) (hfree : ∀ y ∈ ld.scope.names, y.2 = .free → ∃ c, X.env.cells.lookup y.1 = some c) {pins : List (Addr × Obj)} {s : Shared} {σ : St} {H : Hp} {Q : VK} {dV : Value} {dv : List Value} {Rs F : Hp} {r : List Addr} {st : Store}
    (I : Inv X pins σ H s) (hH : Holds W Rs F H r st) (hdl : dv.length = ld.params.defaults.length) (hdv : DvH Rs dV dv) (hQ : ∀ Rs' H' f, Same Rs Rs' → Holds W Rs' F H' r st → MadeAt Rs' F ld (cloFrom X.env.cells ld.scope.names []) f → Q (.ref f) H') :
    wpAny (model X.prog X.w) X.A (makeTail "<lambda>" (X.env.qual ++ "<lambda>") ld.params (.expr ld.body) ld.scope X.env dV .none none pos pos.line) (EP X pins σ Q) X.xe s := by
  obtain ⟨c, P, TB, hcode, hm, hu⟩ := mk.ex
  obtain ⟨⟨ps, hP, ht, ha⟩, tF, tR, tr⟩ := hH.tb.at_ _ hm
  have bP : s.heap.BuiltinsAt X.mg P := TB.bm.keeps I.bk
  have hP' : s.heap.get? P = some { cls := .none, data := .fields ps } := I.hok P _ hP
  cases hc : codeAmong pos ps.toList with
  | none =>
    refine PySem.W.kdv_makeTail (mg := X.mg) (c := c) (P := P) (ps := ps) (closure_ok hfree) I.ok.glob (I.mod.glob.keeps I.bk) hcode (TB.code.keeps I.bk) hP' ht hc TB.gP bP fun c1 ctv doc h1 tk hx hge hlt hrec htb => ?_
    obtain ⟨c2, oc, xs, t, e2, hoc, hd, hv⟩ := hrec
    cases e2
    have nC : H c1 = none := I.hok.fresh hge
    rw [hq] at hv
    have I1 := LamX.inv_table (t' := tk) (q := ld.q) (more := #[rawInt pos.line, rawInt pos.col, .ref c1]) (h' := h1) I hP hx htb hge ⟨oc, xs, t, hoc, hd, hv⟩
    have g1 := hH.grown (pos := pos) hP ht hm hu nC
    have hfr := I1.hok.fresh (Nat.le_refl h1.objs.size)
    have I2 := I1.laid (t' := tk) (a := h1.objs.size) (o := .frz (PySem.W.kdv_obj "<lambda>" (X.env.qual ++ "<lambda>") ld.params (.expr ld.body) ld.scope (cloFrom X.env.cells ld.scope.names []) dV doc ((X.mg "__name__").getD .none) c1 ctv) anyO)
      (h' := h1.push (PySem.W.kdv_obj "<lambda>" (X.env.qual ++ "<lambda>") ld.params (.expr ld.body) ld.scope (cloFrom X.env.cells ld.scope.names []) dV doc ((X.mg "__name__").getD .none) c1 ctv)) (fun b u e => Heap.get?_push_of_some _ e) (Nat.le_refl _) (anyO_ok (Heap.get?_push_size _ rfl))
    refine ⟨.ref h1.objs.size, _, I2, rfl, ?_⟩
    have g2 := g1.guard (o := .frz (PySem.W.kdv_obj "<lambda>" (X.env.qual ++ "<lambda>") ld.params (.expr ld.body) ld.scope (cloFrom X.env.cells ld.scope.names []) dV doc ((X.mg "__name__").getD .none) c1 ctv) anyO) hfr
    have sm : ∀ b o, Rs b = some o → upd (upd Rs c1 (LamX.CodeO c1 ld.q)) h1.objs.size (.frz (PySem.W.kdv_obj "<lambda>" (X.env.qual ++ "<lambda>") ld.params (.expr ld.body) ld.scope (cloFrom X.env.cells ld.scope.names []) dV doc ((X.mg "__name__").getD .none) c1 ctv) anyO) b = some o := fun b o e => by
      have n1 : b ≠ c1 := fun z => by rw [z, hH.freeR nC] at e; cases e
      have n2 : b ≠ h1.objs.size := fun z => by
        have := g1.freeR hfr
        rw [← z, upd_ne n1, e] at this; cases this
      rw [upd_ne n2, upd_ne n1]; exact e
    refine hQ _ _ _ sm g2 ⟨c1, ⟨_, ctv, doc, dV, dv, hdl, hdv.same sm, by rw [upd_same, hq]⟩, .inl ?_⟩
    have n2 : c1 ≠ h1.objs.size := Nat.ne_of_lt hlt
    rw [upd_ne n2, upd_same]
  | some cv =>
    obtain ⟨c1, e, hco⟩ := ha pos cv hc
    subst e
    refine PySem.W.kdv_makeTailHit (mg := X.mg) (c := c) (P := P) (ps := ps) (closure_ok hfree) I.ok.glob (I.mod.glob.keeps I.bk) hcode (TB.code.keeps I.bk) hP' ht hc bP fun ctv doc h1 tk hx hsz => ?_
    have I1 : Inv X pins σ H { s with heap := h1, toks := tk } := I.kept fun b o e => hx b o e
    have hfr := I1.hok.fresh (Nat.le_refl h1.objs.size)
    have I2 := I1.laid (t' := tk) (a := h1.objs.size) (o := .frz (PySem.W.kdv_obj "<lambda>" (X.env.qual ++ "<lambda>") ld.params (.expr ld.body) ld.scope (cloFrom X.env.cells ld.scope.names []) dV doc ((X.mg "__name__").getD .none) c1 ctv) anyO)
      (h' := h1.push (PySem.W.kdv_obj "<lambda>" (X.env.qual ++ "<lambda>") ld.params (.expr ld.body) ld.scope (cloFrom X.env.cells ld.scope.names []) dV doc ((X.mg "__name__").getD .none) c1 ctv)) (fun b u e => Heap.get?_push_of_some _ e) (Nat.le_refl _) (anyO_ok (Heap.get?_push_size _ rfl))
    refine ⟨.ref h1.objs.size, _, I2, rfl, ?_⟩
    have code : ∃ Rs1, Same Rs Rs1 ∧ Holds W Rs1 F H r st ∧ (Rs1 c1 = some (LamX.CodeO c1 ld.q) ∨ F c1 = some (LamX.CodeO c1 ld.q)) := by
      cases eF : F c1 with
      | some o =>
        have := hH.sF _ _ eF
        rw [hco] at this
        cases this
        exact ⟨Rs, Same.refl _, hH, .inr rfl⟩
      | none =>
        cases eR : Rs c1 with
        | some o =>
          have := hH.sR _ _ eR
          rw [hco] at this
          cases this
          exact ⟨Rs, Same.refl _, hH, .inl eR⟩
        | none =>
          refine ⟨upd Rs c1 (LamX.CodeO c1 ld.q), fun b o e => by rw [upd_ne (fun z => by rw [z, eR] at e; cases e)]; exact e, hH.claim hco eF eR (fun m => ?_) (fun ps' z => LamX.codeO_ne ps' z), .inl upd_same⟩
          obtain ⟨u, hu2, _, k2⟩ := hH.kindOf m
          rw [hco] at hu2
          cases hu2
          exact k2 _ rfl
    obtain ⟨Rs1, sR, hH1, hcode1⟩ := code
    have g2 := hH1.guard (o := .frz (PySem.W.kdv_obj "<lambda>" (X.env.qual ++ "<lambda>") ld.params (.expr ld.body) ld.scope (cloFrom X.env.cells ld.scope.names []) dV doc ((X.mg "__name__").getD .none) c1 ctv) anyO) hfr
    have up : Same Rs1 (upd Rs1 h1.objs.size (.frz (PySem.W.kdv_obj "<lambda>" (X.env.qual ++ "<lambda>") ld.params (.expr ld.body) ld.scope (cloFrom X.env.cells ld.scope.names []) dV doc ((X.mg "__name__").getD .none) c1 ctv) anyO)) := fun b o e => by
      rw [upd_ne (fun z => by rw [z, hH1.freeR hfr] at e; cases e)]; exact e
    have sm : Same Rs (upd Rs1 h1.objs.size (.frz (PySem.W.kdv_obj "<lambda>" (X.env.qual ++ "<lambda>") ld.params (.expr ld.body) ld.scope (cloFrom X.env.cells ld.scope.names []) dV doc ((X.mg "__name__").getD .none) c1 ctv) anyO)) := fun b o e => up _ _ (sR _ _ e)
    exact hQ _ _ _ sm g2 ⟨c1, ⟨_, ctv, doc, dV, dv, hdl, hdv.same sm, by rw [upd_same, hq]⟩, hcode1.imp (up _ _) id⟩
/-- the defaults: none, or one whole number -/
def DfOk (X : Cx) (ld : LamD) : Prop := (ld.params.defaults = [] ∧ defaultsOf ld.params X.env = ([], [])) ∨ ∃ i j p, ld.params.defaults = [.Constant (.int i) j p] ∧ ld.params.kw_defaults = []
theorem pe_made {ld : LamD} {pos : Pos} (mk : Maker W X ld.q) (hq : X.env.qual ++ "<lambda>" = ld.q) (hfree : ∀ y ∈ ld.scope.names, y.2 = .free → ∃ c, X.env.cells.lookup y.1 = some c) (hdef : DfOk X ld) : PE X (.Lambda ld.params ld.body ld.scope pos) (tMade W X ld) := by
  refine ⟨fun pins s σ H Q I hh => ?_⟩
  obtain ⟨Rs, F, r, st, hH, hQ⟩ := hh
  rcases hdef with ⟨h0, hdef⟩ | ⟨i, j, p, hd, hk⟩
  · refine PySem.W.kla_eval hdef ?_
    rw [makeFunction_eq]
    simp only [List.zip_nil_right, List.filterMap_nil, List.isEmpty_nil, if_true, pure_bind]
    exact made_tail mk hq hfree I hH (by rw [h0]; rfl) (.inl ⟨rfl, rfl⟩) hQ
  · refine PySem.W.kdv_lam (by rw [hd]; rfl) hk ?_
    rw [hd]
    refine PySem.W.kdv_all1 (thn ((pe_int (X := X) (i := i) (j := j) (pos := p)).run pins s σ H (fun v H1 => H1 = H) I rfl) fun v s1 ⟨x, H1, I1, r1, e1⟩ => PySem.W.kdv_all0 ?_)
    subst e1
    rw [makeFunction_eq]
    simp only [List.zip_nil_right, List.filterMap_nil, List.isEmpty_nil, if_true, pure_bind, List.isEmpty_cons, Bool.false_eq_true, if_false]
    refine wpAny_bind (wpAny_newTextTuple ?_)
    have hfr := I1.hok.fresh (Nat.le_refl s1.heap.objs.size)
    have I2 := I1.laid (t' := s1.toks) (a := s1.heap.objs.size) (o := .frz (PySem.W.kdv_tup [v]) anyO) (h' := s1.heap.push (PySem.W.kdv_tup [v])) (fun b u e => Heap.get?_push_of_some _ e) (Nat.le_refl _) (anyO_ok (Heap.get?_push_size _ rfl))
    have g2 := hH.guard (o := .frz (PySem.W.kdv_tup [v]) anyO) hfr
    have up : Same Rs (upd Rs s1.heap.objs.size (.frz (PySem.W.kdv_tup [v]) anyO)) := fun b o e => by
      rw [upd_ne (fun z => by rw [z, hH.freeR hfr] at e; cases e)]; exact e
    exact made_tail mk hq hfree I2 g2 (by rw [hd]; rfl) (.inr ⟨by simp, _, rfl, upd_same⟩) fun Rs' H' f s' h' m => hQ Rs' H' f (fun b o e => s' _ _ (up _ _ e)) h' m
end
end Dl
namespace Dl
open PySem PySem.Spec L2
/-- the own cells -/
def ownC (X : Cx) : List Addr := X.env.cells.filterMap fun p => X.env.cells.lookup p.1
theorem ownC_in {X : Cx} {y : Str} {c : Addr} (h : X.env.cells.lookup y = some c) : c ∈ ownC X := List.mem_filterMap.mpr ⟨(y, c), PySem.mem_of_lookup h, h⟩
theorem ownC_of {X : Cx} {c : Addr} (h : c ∈ ownC X) : ∃ y, X.env.cells.lookup y = some c := by
  obtain ⟨p, _, h⟩ := List.mem_filterMap.mp h
  exact ⟨p.1, h⟩
/-- the heap, the own cells known as they are at h -/
def froC (cs : List Addr) (h : Heap) (H : Hp) : Hp := fun a => if a ∈ cs then (h.get? a).map (fun o => .frz o anyO) else H a
theorem froC_in {cs : List Addr} {h : Heap} {H : Hp} {a : Addr} {o : Obj} (m : a ∈ cs) (e : h.get? a = some o) : froC cs h H a = some (.frz o anyO) := by
  unfold froC
  rw [if_pos m, e]; rfl
theorem froC_out {cs : List Addr} {h : Heap} {H : Hp} {a : Addr} (m : a ∉ cs) : froC cs h H a = H a := if_neg m
section
variable {W : Wd} {Rs Rs' F H : Hp} {r : List Addr} {st : Store} {cs : List Addr}
theorem Holds.lessR (h : Holds W Rs' F H r st) (s : Same Rs Rs') : Holds W Rs F H r st :=
  ⟨h.sF, fun a o e => h.sR _ _ (s _ _ e), fun a e => Same.none_of s (h.dj a e), h.len, h.nd, fun a m => ⟨(h.own a m).1, Same.none_of s (h.own a m).2⟩, h.ob,
    ⟨fun t ht => let ⟨t1, t2, t3, t4⟩ := h.tb.at_ t ht; ⟨t1, t2, Same.none_of s t3, t4⟩, h.tb.nF, fun a ps z => h.tb.nR a ps (s _ _ z)⟩⟩
theorem Holds.froze (h : Holds W Rs F H r st) {hp : Heap} (hn : ∀ a ∈ cs, H a = none) (hs : ∀ a ∈ cs, ∃ o, hp.get? a = some o) : Holds W (froC cs hp Rs) F (froC cs hp H) r st := by
  have out : ∀ {a : Addr} {o : HO}, H a = some o → a ∉ cs := fun {a o} e m => by rw [hn a m] at e; cases e
  refine ⟨fun a o e => ?_, fun a o e => ?_, fun a e => ?_, h.len, h.nd, fun a m => ⟨(h.own a m).1, ?_⟩, fun i a o e1 e2 => ?_, ⟨fun t ht => ?_, h.tb.nF, fun a ps z => ?_⟩⟩
  · have q := h.sF _ _ e
    rw [froC_out (out q)]; exact q
  · by_cases m : a ∈ cs
    · obtain ⟨ob, q⟩ := hs a m
      rw [froC_in m q] at e ⊢; exact e
    · rw [froC_out m] at e ⊢; exact h.sR _ _ e
  · have m : a ∉ cs := fun m => e (h.freeF (hn a m))
    rw [froC_out m]; exact h.dj a e
  · have m2 : a ∉ cs := fun m2 => h.there m (hn a m2)
    rw [froC_out m2]; exact (h.own a m).2
  · refine (h.ob i a o e1 e2).mono (Same.refl _) (Ext.refl _) ?_
    exact froC_out fun m2 => h.there (List.mem_of_getElem? e1) (hn a m2)
  · obtain ⟨t1, t2, t3, t4⟩ := h.tb.at_ t ht
    have m : t.1 ∉ cs := fun m => tabs_here t1 (hn _ m)
    refine ⟨t1.ext fun a o e => ?_, t2, by rw [froC_out m]; exact t3, t4⟩
    rw [froC_out (out e)]; exact e
  · by_cases m : a ∈ cs
    · obtain ⟨ob, q⟩ := hs a m
      rw [froC_in m q] at z; cases z
    · rw [froC_out m] at z; exact h.tb.nR a ps z
theorem hide_froC {hp : Heap} (hn : ∀ a ∈ cs, H a = none) : hideC cs (froC cs hp H) = H := by
  funext a
  by_cases m : a ∈ cs
  · rw [hideC_in m, hn a m]
  · rw [hideC_out m, froC_out m]
theorem known_froC {hp : Heap} (hs : ∀ a ∈ cs, ∃ o, hp.get? a = some o) : Known cs (froC cs hp H) := fun a m => by
  obtain ⟨o, e⟩ := hs a m
  exact ⟨o, froC_in m e⟩
end
section
variable {P : Program} {w : World} {H : Hp} {s s' : Shared} {cs : List Addr} {stack : List PySem.Env}
theorem ce_hide {Q : VK} {u : Value} (k : Known cs H) (ok : HOk P w H s.heap) (h : CE stack P w H s (fun v H' => Q v (hideC cs H')) u s') : CE stack P w (hideC cs H) s Q u s' := by
  obtain ⟨v, H', e1, e2, un, hok, rv, q⟩ := h
  have k' : Known cs H' := fun a m => by
    obtain ⟨o, e⟩ := k a m
    exact ⟨o, un.frzs a o _ e⟩
  have stay : ∀ b ∈ cs, ∀ o, s.heap.get? b = some o → s'.heap.get? b = some o := fun b m o e => by
    obtain ⟨ob, eb⟩ := k b m
    have q1 := (ok b _ eb).1
    rw [e] at q1; cases q1
    exact (hok b _ (un.frzs b o _ eb)).1
  have out : ∀ {b : Addr} {o : HO} {G : Hp}, hideC cs G b = some o → b ∉ cs ∧ G b = some o := fun {b o G} e => by
    have m : b ∉ cs := fun m => by rw [hideC_in m] at e; cases e
    exact ⟨m, by rw [hideC_out m] at e; exact e⟩
  refine ⟨v, hideC cs H', e1, e2, ⟨fun b o e n hb hx => ?_, fun b o e n hb hx => ?_, fun b o e n hx => ?_, un.there, fun b xs e => ?_, fun b o u e => ?_, fun b ps e => ?_⟩, hok_hide k' hok, rv, q⟩
  · by_cases m : b ∈ cs
    · exact stay b m o e
    · exact un.keep b o e (by rw [hideC_out m] at n; exact n) hb hx
  · by_cases m : b ∈ cs
    · exact ⟨o.slots, stay b m o e⟩
    · exact un.slot b o e (by rw [hideC_out m] at n; exact n) hb hx
  · by_cases m : b ∈ cs
    · exact hideC_in m
    · rw [hideC_out m]; exact un.free b o e (by rw [hideC_out m] at n; exact n) hx
  · obtain ⟨m, e⟩ := out e
    rw [hideC_out m]; exact un.tups b xs e
  · obtain ⟨m, e⟩ := out e
    rw [hideC_out m]; exact un.frzs b o u e
  · obtain ⟨m, e⟩ := out e
    rw [hideC_out m]; exact un.tbls b ps e
end
section
variable {X : Cx} {CX : CXT} {pins : List (Addr × Obj)} {σ : St} {H : Hp} {s : Shared}
theorem own_none (I : Inv X pins σ H s) : ∀ a ∈ ownC X, H a = none := fun a m => let ⟨y, e⟩ := ownC_of m; I.freeC y a e
theorem own_some (I : Inv X pins σ H s) : ∀ a ∈ ownC X, ∃ o, s.heap.get? a = some o := fun a m => let ⟨y, e⟩ := ownC_of m; let ⟨v, o, ho, _⟩ := I.cell y a e; ⟨o, ho⟩
theorem env0_froz (I : Inv X pins σ H s) (hfn : ∀ y, X.fn y = true) : Env0 X.prog X.w X.K X.mg X.base X.A X.stack s (froC (ownC X) s.heap H) := by
  have e0 := I.env0
  have big : ∀ a ∈ ownC X, X.s_0.heap.objs.size ≤ a := fun a m => let ⟨y, e⟩ := ownC_of m; I.ok.cab y a (hfn y) e
  refine ⟨e0.frames, e0.mod, fun b o e => ⟨(e0.bs b o e).1, ?_⟩, e0.bsz, e0.funs, fun b hb => ?_, fun a o e => ?_, e0.bare⟩
  · rw [froC_out fun m => ?_]
    · exact (e0.bs b o e).2
    · exact absurd (Nat.lt_of_lt_of_le (Heap.lt_size e) (Nat.le_trans I.ok.bsz (big b m))) (Nat.lt_irrefl _)
  · rw [froC_out fun m => ?_]
    · exact e0.frf b hb
    · obtain ⟨y, e⟩ := ownC_of m
      rcases List.mem_cons.mp (I.stkSub b hb) with z | z
      · exact I.cne y b e z
      · obtain ⟨_, o, ho, _⟩ := I.ok.funs.mem z
        exact absurd (Nat.lt_of_lt_of_le (Heap.lt_size ho) (big b m)) (Nat.lt_irrefl _)
  · by_cases m : a ∈ ownC X
    · obtain ⟨ob, q⟩ := own_some I a m
      rw [froC_in m q] at e
      cases e
      exact anyO_ok q
    · rw [froC_out m] at e
      have out : ∀ {b : Addr} {o : HO}, H b = some o → froC (ownC X) s.heap H b = some o := fun {b o} q => by
        rw [froC_out fun m => by rw [own_none I b m] at q; cases q]; exact q
      exact (e0.hok a o e).stay (fun b u _ q => q) (fun b q => out q) fun b xs q => out q
/-- a def is called, the own cells known to it -/
theorem run_froz {k : Nat} {f : Addr} {fd : FuncData} {ps : List Str} {sp : Sp} {Q : VK} {us : List Value} {vs : List V} (I : Inv X pins σ H s) (hfn : ∀ y, X.fn y = true) (F : FnOk X.prog X.w X.K X.mg X.base (L2.CX X.prog X.w) k f fd ps sp) (hr : Room k X.A) (hb : Binds X.K fd ps []) (rv : Vals vs us)
    (h : sp vs (froC (ownC X) s.heap H) (fun v H' => Q v (hideC (ownC X) H')) E0) : wpAny (model X.prog X.w) X.A (call (.ref f) us) (EP X pins σ Q) X.xe s := by
  have hl : (us ++ []).length = ps.length := by rw [List.append_nil, ← rv.length]; exact F.len _ _ _ _ h
  have b := hb s us I.kIn hl
  rw [List.append_nil] at b
  have e0 := env0_froz I hfn
  refine wpAny_call (codeAny_mono (F.run X.A X.stack s _ ⟨us, []⟩ us vs _ E0 hr e0 b rv h) fun res s' hq => ?_)
  cases res with
  | error e =>
    obtain ⟨_, _, _, _, _, _, _, _, _, _, _, _, z⟩ := hq
    exact z.elim
  | ok fl =>
    cases fl with
    | ret u =>
      have c := ce_hide (known_froC (own_some I)) e0.hok hq
      rw [hide_froC (own_none I)] at c
      exact I.after c
    | next => exact False.elim hq
    | brk => exact False.elim hq
    | cont => exact False.elim hq
end
/-- a lambda in the context X: its names' slots there -/
structure LamIn (W : Wd) (X : Cx) (k : Nat) (ld : LamD) (N : List Str) (sl : List Nat) (fb : EV) : Prop where
  body : BodyOk X.prog X.w W X.mg X.base k ld N fb
  free0 : Free0 ld
  stat : LamStat N ld.scope
  slot : ∀ (i : Nat) (y : Str), N[i]? = some y → ∃ j, sl[i]? = some j ∧ X.N[j]? = some y ∧ X.env.scope.names.lookup y = some .cell ∧ (y, NameKind.free) ∈ ld.scope.names
  all : ∀ y, (y, NameKind.free) ∈ ld.scope.names → y ∈ N
  len : sl.length = N.length
  maker : Maker W X ld.q
  qu : X.env.qual ++ "<lambda>" = ld.q
  df : DfOk X ld
/-- what slots hold -/
def capsD (env : Env) : List Nat → Option (List D)
  | [] => some []
  | j :: js => match env[j]? with
    | some (some d) => (capsD env js).map (d :: ·)
    | _ => none
@[simp] theorem capsD_nil (env : Env) : capsD env [] = some [] := (rfl)
@[simp] theorem capsD_cons (env : Env) (j : Nat) (js : List Nat) : capsD env (j :: js) = match env[j]? with
    | some (some d) => (capsD env js).map (d :: ·)
    | _ => none := (rfl)
theorem capsD_at {env : Env} : ∀ {js : List Nat} {ds : List D}, capsD env js = some ds → ds.length = js.length ∧ ∀ (i j : Nat), js[i]? = some j → ∃ d, ds[i]? = some d ∧ env[j]? = some (some d)
  | [], ds, h => by cases h; exact ⟨rfl, fun i j e => by simp at e⟩
  | j :: js, ds, h => by
    rw [capsD_cons] at h
    split at h
    · rename_i d e
      obtain ⟨ds', h', rfl⟩ := Option.map_eq_some_iff.mp h
      obtain ⟨h1, h2⟩ := capsD_at h'
      refine ⟨by simp [h1], fun i k ek => ?_⟩
      cases i with
      | zero => cases ek; exact ⟨d, rfl, e⟩
      | succ i => exact h2 i k (by simpa using ek)
    · cases h
section
variable {W : Wd} {X : Cx} {pins : List (Addr × Obj)} {σ : St} {H : Hp} {s : Shared} {Rs F : Hp} {r : List Addr} {st : Store} {env : Env}
theorem LamIn.has {k : Nat} {ld : LamD} {N : List Str} {sl : List Nat} {fb : EV} (l : LamIn W X k ld N sl fb) (ok : X.Ok) : ∀ y ∈ ld.scope.names, y.2 = .free → ∃ c, X.env.cells.lookup y.1 = some c := fun y hy e => by
  obtain ⟨i, hi⟩ := List.getElem?_of_mem (l.all y.1 (by obtain ⟨y1, y2⟩ := y; cases e; exact hy))
  obtain ⟨j, _, _, hk, _⟩ := l.slot i y.1 hi
  exact ok.has _ (.inl hk)
/-- a lambda that was made, as the called def sees it -/
theorem LamIn.clos {k : Nat} {ld : LamD} {N : List Str} {sl : List Nat} {fb : EV} {f : Addr} {ds : List D} (l : LamIn W X k ld N sl fb) (I : Inv X pins σ H s) (hH : Holds W Rs F H r st) (hE : EnvOk F r σ env) (m : MadeAt Rs F ld (cloFrom X.env.cells ld.scope.names []) f) (hc : capsD env sl = some ds) :
    ClosR X.prog X.w W X.mg X.base k (froC (ownC X) s.heap Rs) F r fb ds f := by
  obtain ⟨c', m1, m2⟩ := m
  have nR : ∀ {a : Addr} {o : HO}, Rs a = some o → a ∉ ownC X := fun {a o} e mm => by
    have := hH.sR _ _ e
    rw [own_none I a mm] at this; cases this
  obtain ⟨dl, da⟩ := capsD_at hc
  have inCl : ∀ {y : Str} {c : Addr}, (y, c) ∈ cloFrom X.env.cells ld.scope.names [] → X.env.cells.lookup y = some c ∧ y ∈ N := fun {y c} hy => by
    rcases cloFrom_mem hy with z | ⟨h1, h2⟩
    · cases z
    · obtain ⟨c2, e2⟩ := l.has I.ok _ h1 rfl
      have e2 : X.env.cells.lookup y = some c2 := e2
      rw [e2] at h2
      cases h2
      exact ⟨e2, l.all y h1⟩
  have cell : ∀ (i : Nat) (y : Str), N[i]? = some y → ∃ c u o v d, X.env.cells.lookup y = some c ∧ (cloFrom X.env.cells ld.scope.names []).lookup y = some c ∧ s.heap.get? c = some o ∧ o.data = .cell (some u) ∧ RelV v u ∧ ds[i]? = some d ∧ Rep F r v d := fun i y hi => by
    obtain ⟨j, h1, h2, h3, h4⟩ := l.slot i y hi
    obtain ⟨d, e1, e2⟩ := da i j h1
    obtain ⟨v, e3, k3⟩ := hE.at_ j d e2
    obtain ⟨mm, hn, hl⟩ := I.loc
    obtain ⟨u, ru, lk⟩ := hl j y v h2 e3 (.inr (.inl h3))
    have hcl := mem_lookup (cloFrom_has (cells := X.env.cells) (acc := []) h4)
    obtain ⟨c1, ec1⟩ := hcl
    obtain ⟨ec2, _⟩ := inCl (PySem.mem_of_lookup ec1)
    rcases lk with ⟨z, _⟩ | ⟨_, c2, ec3, o, ho, hd⟩
    · have z : X.env.scope.names.lookup y = some .local := z
      rw [h3] at z; cases z
    · rw [ec2] at ec3
      cases ec3
      exact ⟨c1, u, o, v, d, ec2, ec1, ho, hd, ru, e1, k3⟩
  -- values of the cells, in turn
  have vals : ∀ (n : Nat), n ≤ N.length → ∃ (us : List Value) (vs : List V), us.length = n ∧ Vals vs us ∧ Reps F r vs (ds.take n) ∧ ∀ (i : Nat) (y : Str), i < n → N[i]? = some y → ∃ c u o, (cloFrom X.env.cells ld.scope.names []).lookup y = some c ∧ us[i]? = some u ∧ s.heap.get? c = some o ∧ o.data = .cell (some u) ∧ X.env.cells.lookup y = some c := by
    intro n
    induction n with
    | zero => exact fun _ => ⟨[], [], rfl, .nil, .nil, fun i y h => absurd h (Nat.not_lt_zero _)⟩
    | succ n ih =>
      intro hn
      obtain ⟨us, vs, h1, h2, h3, h4⟩ := ih (by omega)
      obtain ⟨c, u, o, v, d, a1, a2, a3, a4, a5, a6, a7⟩ := cell n N[n] (by simp [show n < N.length by omega])
      have ld' : n < ds.length := (List.getElem?_eq_some_iff.mp a6).1
      refine ⟨us ++ [u], vs ++ [v], by simp [h1], h2.append (.cons a5 .nil), ?_, fun i y hi hy => ?_⟩
      · rw [List.take_succ_eq_append_getElem ld', show ds[n] = d from by rw [List.getElem?_eq_getElem ld'] at a6; exact Option.some.inj a6]
        exact h3.snoc a7
      · by_cases e : i < n
        · obtain ⟨c2, u2, o2, b1, b2, b3⟩ := h4 i y e hy
          exact ⟨c2, u2, o2, b1, by rw [List.getElem?_append_left (by omega)]; exact b2, b3⟩
        · have : i = n := by omega
          subst this
          rw [List.getElem?_eq_getElem (by omega)] at hy
          cases hy
          exact ⟨c, u, o, a2, by rw [List.getElem?_append_right (by omega), h1]; simp, a3, a4, a1⟩
  obtain ⟨us, vs, v1, v2, v3, v4⟩ := vals N.length (Nat.le_refl _)
  have hdl : ds.length = N.length := by rw [dl, l.len]
  rw [List.take_of_length_le (by omega)] at v3
  refine ⟨ld, N, cloFrom X.env.cells ld.scope.names [], c', us, vs, l.body, l.free0, l.stat, m1.same (fun _ _ e => by rw [froC_out (nR e)]; exact e), m2.imp (fun e => by rw [froC_out (nR e)]; exact e) id, ⟨fun i y hi => ?_, fun y c e => (inCl (PySem.mem_of_lookup e)).2, fun y c hy => ?_, fun y z c e1 e2 => ?_, v1⟩, v2, v3⟩
  · obtain ⟨c, u, o, b1, b2, b3, b4, b5⟩ := v4 i y (List.getElem?_eq_some_iff.mp hi).1 hi
    exact ⟨c, u, o, b1, b2, froC_in (ownC_in b5) b3, b4⟩
  · obtain ⟨e1, hy2⟩ := inCl hy
    obtain ⟨i, hi⟩ := List.getElem?_of_mem hy2
    obtain ⟨c2, u, o, b1, b2, b3, b4, b5⟩ := v4 i y (List.getElem?_eq_some_iff.mp hi).1 hi
    rw [e1] at b5
    cases b5
    exact b1
  · exact I.ok.inj y z c (inCl (PySem.mem_of_lookup e1)).1 (inCl (PySem.mem_of_lookup e2)).1
end
end Dl
namespace Dl
open PySem PySem.Spec L2
/-- a lambda as it's written, and its meaning -/
structure LamW where
  ld : LamD
  pos : Pos
  N : List Str
  sl : List Nat
  fb : EV
def LamW.ex (l : LamW) : PySem.Expr := .Lambda l.ld.params l.ld.body l.ld.scope l.pos
/-- the lambdas' meanings with what they keep -/
def capsAll (env : Env) : List (List Nat × EV) → Option (List (EV × List D))
  | [] => some []
  | l :: ls => match capsD env l.1 with
    | some ds => (capsAll env ls).map ((l.2, ds) :: ·)
    | none => none
@[simp] theorem capsAll_nil (env : Env) : capsAll env [] = some [] := (rfl)
@[simp] theorem capsAll_cons (env : Env) (l : List Nat × EV) (ls : List (List Nat × EV)) : capsAll env (l :: ls) = match capsD env l.1 with
    | some ds => (capsAll env ls).map ((l.2, ds) :: ·)
    | none => none := (rfl)
def eAll (ga : FV) (cs : List Nat) (hm : Nat → Option D → Store → R (D × Store)) (ls : List (List Nat × EV)) (f2 : EV) : EV := fun env st => (f2 env st).bind fun a => match capsAll env ls with
  | some ws => allR ga cs hm a.1 ws a.2
  | none => .bad
@[simp] theorem r_eAll (ga : FV) (cs : List Nat) (hm : Nat → Option D → Store → R (D × Store)) (ls : List (List Nat × EV)) (f2 : EV) (env : Env) (st : Store) : eAll ga cs hm ls f2 env st = (f2 env st).bind fun a => match capsAll env ls with
  | some ws => allR ga cs hm a.1 ws a.2
  | none => .bad := (rfl)
def eTold (cs : List Nat) (hm : Nat → Option D → Store → R (D × Store)) (sl : List Nat) (fb : EV) : EV := fun env st => match capsD env sl with
  | some ds => noX (toldR cs hm (fb (ds.map some) st))
  | none => .bad
@[simp] theorem r_eTold (cs : List Nat) (hm : Nat → Option D → Store → R (D × Store)) (sl : List Nat) (fb : EV) (env : Env) (st : Store) : eTold cs hm sl fb env st = match capsD env sl with
  | some ds => noX (toldR cs hm (fb (ds.map some) st))
  | none => .bad := (rfl)
section
variable {W : Wd} {X : Cx} {E : XK}
theorem PA.imp {es : List PySem.Expr} {t t' : TA} (h : PA X es t) (k : ∀ σ H Q, t' σ H Q → t σ H Q) : PA X es t' := ⟨fun pos pins s σ H Q I q => h.run pos pins s σ H Q I (k _ _ _ q)⟩
def tMades (W : Wd) (X : Cx) (ls : List LamW) : TA := fun _ H Q => ∃ (Rs F : Hp) (r : List Addr) (st : Store), Holds W Rs F H r st ∧ ∀ (Rs' H' : Hp) (fs : List Addr), Same Rs Rs' → Holds W Rs' F H' r st → fs.length = ls.length → (∀ (i : Nat) (l : LamW) (f : Addr), ls[i]? = some l → fs[i]? = some f → MadeAt Rs' F l.ld (cloFrom X.env.cells l.ld.scope.names []) f) → Q (fs.map V.ref) H'
theorem pa_mades {k : Nat} (ok : X.Ok) : ∀ (ls : List LamW), (∀ l ∈ ls, LamIn W X k l.ld l.N l.sl l.fb) → PA X (ls.map LamW.ex) (tMades W X ls)
  | [], _ => PA.imp pa_nil fun σ H Q ⟨Rs, F, r, st, hH, hQ⟩ => hQ Rs H [] (Same.refl _) hH rfl fun i l f e => by simp at e
  | l :: ls, hl => by
    have h1 := hl l (by simp)
    refine PA.imp (pa_cons (pe_made (pos := l.pos) h1.maker h1.qu (h1.has ok) h1.df) (pa_mades ok ls fun x hx => hl x (by simp [hx])) (hs := by rfl)) fun σ H Q ⟨Rs, F, r, st, hH, hQ⟩ => ?_
    refine ⟨Rs, F, r, st, hH, fun Rs1 H1 f s1 h1 m1 => ⟨Rs1, F, r, st, h1, fun Rs2 H2 fs s2 h2 e2 m2 => ?_⟩⟩
    refine hQ Rs2 H2 (f :: fs) (fun q z e => s2 _ _ (s1 _ _ e)) h2 (by simp [e2]) fun i l' f' e3 e4 => ?_
    cases i with
    | zero => cases e3; cases e4; exact m1.mono s2 (Same.refl _)
    | succ i => exact m2 i l' f' (by simpa using e3) (by simpa using e4)
/-- g(lambda: ..) -/
theorem de_told {k n j : Nat} {g x0 : Str} {f : Addr} {fd : FuncData} {cs : List Nat} {hm : Nat → Option D → Store → R (D × Store)} {l : LamW} {p pos : Pos} (hK : X.K = W.K) (hfn : ∀ y, X.fn y = true)
    (F : FnOk X.prog X.w X.K X.mg X.base (L2.CX X.prog X.w) n f fd [x0] (spTold X.prog X.w W X.mg X.base k cs hm)) (hr : Room j X.A) (hj : n ≤ j) (hg : Gl X g) (hm' : X.mg g = some (.ref f)) (hk : PySem.W.keepIn X.K (.ref f) = true) (hb : Binds X.K fd [x0] []) (hl : X.Ok → LamIn W X k l.ld l.N l.sl l.fb)
    (hdb : (g == ("__debug__" : Str)) = false := by decide) (hs1 : starEach [l.ex] X.env = (false, eval l.ex X.env) :: starEach [] X.env := by rfl) (hpl : (backTo pos (starEach [] X.env)).any (·.1) = false := by rfl) :
    DE W X E (.Call (.Name g p) [l.ex] [] pos) (eTold cs hm l.sl l.fb) := by
  refine ⟨fun pins s σ H Q I h => ?_⟩
  obtain ⟨Rs, F0, r, env, st, hH, hE, hP⟩ := h
  have ok := I.ok
  refine wpAny_Call_Name_kw (ld_glob I hg hm' ?_ hdb)
  have pa := pa_mades (k := k) ok [l] (fun x hx => by rw [List.mem_singleton.mp hx]; exact hl ok)
  refine PySem.W.callWith_K (h₀ := X.base) I.ok.mod.kin hk (thn (pa.run pos pins s σ H (fun vs H1 => ∃ (Rs2 : Hp) (fl : Addr), vs = [.ref fl] ∧ Same Rs Rs2 ∧ Holds W Rs2 F0 H1 r st ∧ MadeAt Rs2 F0 l.ld (cloFrom X.env.cells l.ld.scope.names []) fl) I ?_) fun us s1 hh => ⟨?_, ?_⟩) hs1 hpl
  · refine ⟨Rs, F0, r, st, hH, fun Rs1 H1 fs s1 h1 e1 m1 => ?_⟩
    match fs, e1 with
    | [fl], _ => exact ⟨Rs1, fl, rfl, s1, h1, m1 0 l fl rfl rfl⟩
  · obtain ⟨vs, H1, I1, rv, hq⟩ := hh
    exact I1.kIn
  · obtain ⟨vs, H1, I1, rv, Rs2, fl, rfl, sR, h2, m1⟩ := hh
    unfold eTold at hP
    cases ec : capsD env l.sl with
    | none => rw [ec] at hP; exact hP.elim
    | some ds =>
      rw [ec] at hP
      refine run_froz (k := j) I1 hfn (F.mono hj) hr hb rv ?_
      have hH3 := h2.froze (cs := ownC X) (hp := s1.heap) (own_none I1) (own_some I1)
      refine ⟨froC (ownC X) s1.heap Rs2, F0, r, st, l.fb, ds, fl, rfl, (hl ok).clos I1 h2 hE m1 ec, hH3, ?_⟩
      simp only at hP
      cases ea : toldR cs hm (l.fb (ds.map some) st) with
      | bad => rw [ea] at hP; exact hP.elim
      | exc c p s => rw [ea] at hP; exact hP.elim
      | ok b =>
        rw [ea] at hP
        have nR2 : ∀ a ∈ ownC X, Rs2 a = none := fun a m => h2.freeR (own_none I1 a m)
        exact fun F' H' r' v s' x' h' k' => hP F' _ r' v s' x' (((by have := h'.hide (known_froC (own_some I1)); rw [hide_froC nR2] at this; exact this : Holds W Rs2 F' (hideC (ownC X) H') r' b.2)).lessR sR) k'
end
end Dl
namespace Dl
open PySem PySem.Spec L2
section
variable {P : Program} {w : World} {W : Wd} {mg : Str → Option Value} {base : Heap} {X : Cx} {E : XK}
/-- a def of the text that keeps sp -/
structure FnT (P : Program) (w : World) (W : Wd) (mg : Str → Option Value) (base : Heap) (x : Str) (k : Nat) (ps : List Str) (sp : Sp) : Prop where
  ex : ∃ f fd, FnOk P w W.K mg base (L2.CX P w) k f fd ps sp ∧ mg x = some (.ref f) ∧ PySem.W.keepIn W.K (.ref f) = true ∧ Binds W.K fd ps []
theorem passX {A : Around} {stack : List PySem.Env} {N : List Str} {ld : LamD} {cl : List (Str × Addr)} {f c' : Addr} {s : Shared} {H : Hp} {K : PySem.W.Frag} : Passes (L2.CX P w) (LX P w K mg base A stack N ld cl f c' s H E) E :=
  passes_call (X := LX P w K mg base A stack N ld cl f c' s H E) (takes_of rfl rfl rfl rfl) fun _ _ _ _ h => h
/-- whether a lambda's names are those, at these slots -/
def lamB (XN : List Str) (xsc : Scope) (N : List Str) (sl : List Nat) (sc : Scope) : Bool :=
  (match sc.kind with | .function => true | _ => false) && !sc.isCoroutine && !sc.isGenerator && (sc.names.all fun y => match y.2 with | .local => !N.contains y.1 | .cell => false | .free => N.contains y.1 | _ => true) && decide N.Nodup && decide (sl.length = N.length) &&
    ((N.zip sl).all fun p => decide (XN[p.2]? = some p.1) && decide (xsc.names.lookup p.1 = some .cell) && decide ((p.1, NameKind.free) ∈ sc.names))
theorem lamIn_by {k : Nat} {q : Str} {params : Arguments} {bd : PySem.Expr} {scope : Scope} {N XN : List Str} {xsc : Scope} {sl : List Nat} {fb : EV} (hXN : X.N = XN) (hXs : X.env.scope = xsc) (body : BodyOk X.prog X.w W X.mg X.base k ⟨q, params, bd, scope⟩ N fb) (free0 : Free0 ⟨q, params, bd, scope⟩) (h : lamB XN xsc N sl scope = true) (mk : Maker W X q) (qu : X.env.qual ++ "<lambda>" = q) (df : DfOk X ⟨q, params, bd, scope⟩) : LamIn W X k ⟨q, params, bd, scope⟩ N sl fb := by
  subst hXN hXs
  unfold lamB at h
  simp only [Bool.and_eq_true, Bool.not_eq_true', decide_eq_true_eq, List.all_eq_true] at h
  obtain ⟨⟨⟨⟨⟨⟨h1, h2⟩, h3⟩, h4⟩, h5⟩, h6⟩, h7⟩ := h
  have inN : ∀ y, (y, NameKind.free) ∈ scope.names → y ∈ N := fun y hy => by
    have := h4 _ hy
    simpa using this
  refine ⟨body, free0, ⟨?_, h2, h3, fun y hy => ?_, fun y hy => inN y (PySem.mem_of_lookup hy), h5⟩, fun i y hi => ?_, inN, h6, mk, qu, df⟩
  · split at h1
    · rename_i e; exact e
    · cases h1
  · have := h4 y hy
    constructor
    · intro z; rw [z] at this; cases this
    · intro z; rw [z] at this; simpa using this
  · have hl : i < N.length := (List.getElem?_eq_some_iff.mp hi).1
    have hs : i < sl.length := by omega
    have e1 : N[i] = y := (List.getElem?_eq_some_iff.mp hi).2
    have m : (N[i], sl[i]) ∈ N.zip sl := by
      refine List.mem_of_getElem? (i := i) ?_
      rw [List.getElem?_eq_getElem (by rw [List.length_zip]; omega), List.getElem_zip]
    obtain ⟨⟨q1, q2⟩, q3⟩ := h7 _ m
    rw [e1] at q1 q2 q3
    exact ⟨sl[i], List.getElem?_eq_getElem hs, q1, q2, q3⟩
theorem dtold {k n j : Nat} {g x0 : Str} {cs : List Nat} {hm : Nat → Option D → Store → R (D × Store)} {params : Arguments} {bd : PySem.Expr} {scope : Scope} {lpos : Pos} {q : Str} {N : List Str} {sl : List Nat} {fb : EV} {p pos : Pos}
    (c : FnT X.prog X.w W X.mg X.base g n [x0] (spTold X.prog X.w W X.mg X.base k cs hm)) (hr : Room j X.A) (hl : LamIn W X k ⟨q, params, bd, scope⟩ N sl fb) (hK : X.K = W.K := by rfl) (hfn : ∀ y, X.fn y = true := by intro _; rfl) (hj : n ≤ j := by decide) (hg : Gl X g := by rfl)
    (hdb : (g == ("__debug__" : Str)) = false := by decide) (hs1 : starEach [.Lambda params bd scope lpos] X.env = (false, eval (.Lambda params bd scope lpos) X.env) :: starEach [] X.env := by rfl) (hpl : (backTo pos (starEach [] X.env)).any (·.1) = false := by rfl) :
    DE W X E (.Call (.Name g p) [.Lambda params bd scope lpos] [] pos) (eTold cs hm sl fb) := by
  obtain ⟨f, fd, F, hm', hk, hb⟩ := c.ex
  exact de_told (l := ⟨⟨q, params, bd, scope⟩, lpos, N, sl, fb⟩) hK hfn (by rw [hK]; exact F) hr hj hg hm' (by rw [hK]; exact hk) (by rw [hK]; exact hb) (fun _ => hl) hdb hs1 hpl
/-- fnE, the def's code object known -/
theorem fnEC {x qual : Str} {s : Stmt} {f c : Addr} {fd : FuncData} {N ps : List Str} {k n q : Nat} {b : SV} (F : Fun W.K x qual s f fd) (hcd : fd.code = .ref c) (S : FnScope N ps (defScope s)) (hn : ps.length = n) (hq : N.length = q)
    (hbody : ∀ (A : Around) (outer : List PySem.Env) (sh : Shared) (H : Hp) (E : XK), Room k (A.deeper (PyProof.Rows.envOfC qual (defScope s) sh.heap.objs.size f (.ref c))) →
      DB W (cxOf (L2.CX P w) P w W.K mg base N qual (defScope s) f (.ref c) A outer sh H E) E (defBody s) b) : FnOk P w W.K mg base (L2.CX P w) (k + 1) f fd ps (spD W n (funD q b)) := by
  subst hq
  obtain ⟨oc, od, kV, doc, pm, an, cdv, ct, osl, rfl, lk, hcode⟩ := F.ex
  have e : cdv = .ref c := hcd
  subst e
  refine fn_of lk hcode S (fun vs H Q E h => ?_) fun A outer sh H vs Q E hr h => ?_
  · obtain ⟨Rs, F, r, st, ds, _, h, hl, _⟩ := h
    rw [h.length, hl, hn]
  · obtain ⟨Rs, F, r, st, ds, hH, hk, hl, hP⟩ := h
    obtain ⟨t, p, q⟩ := (hbody A outer sh H E hr).ex
    refine ⟨t, p, q Rs F H r _ _ st _ hH (EnvOk.start hk) ?_⟩
    unfold funD at hP
    cases eb : b (List.map some ds ++ List.replicate (N.length - ds.length) none) st with
    | nx e s' => rw [eb] at hP; exact fun F' H' r' sg' s1 x1 h1 k1 => hP F' H' r' .non s1 x1 h1 .non
    | rt d s' => rw [eb] at hP; exact hP
    | bk e s' => rw [eb] at hP; exact hP.elim
    | ct e s' => rw [eb] at hP; exact hP.elim
    | exc c p s' => rw [eb] at hP; exact hP
    | bad => rw [eb] at hP; exact hP.elim
end
end Dl
namespace Dl
open PySem L2
end Dl
namespace Dl
open PySem PySem.Spec PyProof.Rows L2
end Dl
namespace Dl
open PySem L2
end Dl
namespace Dl
open PySem PySem.Spec PySem.Builtin.Str L2
end Dl
namespace Dl
open PySem L2
def isDct (st : Store) : D → Bool
  | .ref n => match st[n]? with
    | some (.dT _) => true
    | some (.dK _) => true
    | _ => false
  | _ => false
/-- d.get(k, x) -/
def eGet2 (fo fk fx : EV) : EV := fun env st => (fo env st).bind fun o => if isDct o.2 o.1 = true then (fk env o.2).bind fun k => (fx env k.2).bind fun x => match dvalG x.2 o.1 k.1 with
  | some v => .ok (v.getD x.1, x.2)
  | none => .bad else .bad
@[simp] theorem r_eGet2 (fo fk fx : EV) (env : Env) (st : Store) : eGet2 fo fk fx env st = (fo env st).bind fun o => if isDct o.2 o.1 = true then (fk env o.2).bind fun k => (fx env k.2).bind fun x => match dvalG x.2 o.1 k.1 with
  | some v => .ok (v.getD x.1, x.2)
  | none => .bad else .bad := (rfl)
end Dl
namespace Dl
open PySem L2
def keyD : D → Option L2.Key
  | .int i => some (.inl i)
  | .str s => some (.inr ⟨s.toArray⟩)
  | _ => none
theorem keyD_ok {F : Hp} {r : List Addr} {v : V} {d : D} {k : L2.Key} (h : Rep F r v d) (e : keyD d = some k) : v = kV k := by
  cases h with
  | int i => cases e; rfl
  | str s h1 h2 => cases e; rfl
  | _ => cases e
abbrev PV := Env → Store → R (List (L2.Key × D) × Store)
def pNil : PV := fun _ st => .ok ([], st)
def pCons (fk fv : EV) (g : PV) : PV := fun env st => (fk env st).bind fun a => (fv env a.2).bind fun b => match keyD a.1 with
  | some k => (g env b.2).bind fun c => .ok ((k, b.1) :: c.1, c.2)
  | none => .bad
@[simp] theorem r_pNil (env : Env) (st : Store) : pNil env st = .ok ([], st) := (rfl)
@[simp] theorem r_pCons (fk fv : EV) (g : PV) (env : Env) (st : Store) : pCons fk fv g env st = (fk env st).bind fun a => (fv env a.2).bind fun b => match keyD a.1 with
  | some k => (g env b.2).bind fun c => .ok ((k, b.1) :: c.1, c.2)
  | none => .bad := (rfl)
/-- what stands in the display -/
structure DPs (W : Wd) (X : Cx) (E : XK) (pos : Pos) (ks : List (Option Expr)) (vs : List Expr) (f : PV) : Prop where
  ex : ∃ trs, PPs X pos ks vs trs ∧ ∀ Rs F H r sg env st (Q : List (V × V) → Hp → Prop), Holds W Rs F H r st → EnvOk F r sg env →
    PostX W Rs F r (f env st) (fun a => ∀ F' H' r' (kvs : List (L2.Key × V)), Same F F' → Ext r r' → Holds W Rs F' H' r' a.2 → KVr F' r' kvs a.1 → Q (kvs.map fun kv => (kV kv.1, kv.2)) H') E → tPairs trs sg H Q
variable {W : Wd} {X : Cx} {E : XK}
theorem dp_nil {pos : Pos} : DPs W X E pos [] [] pNil := ⟨[], pps_nil, fun Rs F H r sg env st Q hH hE hP => hP F H r [] (Same.refl _) (Ext.refl _) hH trivial⟩
theorem KVr.cons {κ : Type} {F : Hp} {r : List Addr} {k : κ} {v : V} {d : D} {vs : List (κ × V)} {kvs : List (κ × D)} (h : Rep F r v d) (t : KVr F r vs kvs) : KVr F r ((k, v) :: vs) ((k, d) :: kvs) := by
  first | exact ⟨rfl, h, t⟩ | exact ⟨⟨rfl, h⟩, t⟩
theorem dp_cons {pos : Pos} {k v : Expr} {ks : List (Option Expr)} {vs : List Expr} {fk fv : EV} {g : PV} (hk : DE W X E k fk) (hv : DE W X E v fv) (hr : DPs W X E pos ks vs g) : DPs W X E pos (some k :: ks) (v :: vs) (pCons fk fv g) := by
  obtain ⟨tk, pk, qk⟩ := hk.ex
  obtain ⟨tv, pv, qv⟩ := hv.ex
  obtain ⟨trs, pr, qr⟩ := hr.ex
  refine ⟨_, pps_cons pk pv pr, fun Rs F H r sg env st Q hH hE hP => ?_⟩
  show tk sg H _
  refine qk Rs F H r sg env st _ hH hE (bindX hP fun a ea z F1 H1 r1 x s1 x1 h1 k1 => ?_)
  refine qv Rs F1 H1 r1 sg env a.2 _ h1 (hE.mono s1 x1) (bindX (PostX.imp s1 x1 z fun _ q => q) fun b eb z2 F2 H2 r2 y s2 x2 h2 k2 => ?_)
  cases ek : keyD a.1 with
  | none => rw [ek] at z2; exact z2.elim
  | some kk =>
    rw [ek] at z2
    refine qr Rs F2 H2 r2 sg env b.2 _ h2 (hE.mono (s1.trans s2) (x1.trans x2)) (bindX (PostX.imp s2 x2 z2 fun _ q => q) fun c ec z3 F3 H3 r3 kvs s3 x3 h3 k3 => ?_)
    have := z3 F3 H3 r3 ((kk, y) :: kvs) ((s1.trans s2).trans s3) ((x1.trans x2).trans x3) h3 (KVr.cons (k2.mono s3 x3) k3)
    rw [List.map_cons] at this
    rw [keyD_ok k1 ek]
    exact this
def mergeD (kvs more : List (L2.Key × D)) : List (L2.Key × D) := more.foldl (fun acc kv => putKD acc kv.1 kv.2) kvs
theorem KVr.merge {F : Hp} {r : List Addr} : ∀ {more : List (L2.Key × V)} {moreD : List (L2.Key × D)} {vs : List (L2.Key × V)} {kvs : List (L2.Key × D)}, KVr F r more moreD → KVr F r vs kvs → KVr F r (mergeK vs more) (mergeD kvs moreD)
  | [], [], vs, kvs, _, h => h
  | p :: ps, q :: qs, vs, kvs, h, h0 => by
    have hc : p.1 = q.1 ∧ Rep F r p.2 q.2 ∧ KVr F r ps qs := by
      first | exact h | (obtain ⟨⟨a, b⟩, c⟩ := h; exact ⟨a, b, c⟩) | (cases h; exact ⟨rfl, by assumption, by assumption⟩)
    obtain ⟨h1, h2, h3⟩ := hc
    have := KVr.put (k := q.1) h2 h0
    show KVr F r (mergeK (putK vs p.1 p.2) ps) (mergeD (putKD kvs q.1 q.2) qs)
    rw [h1]
    exact KVr.merge h3 this
  | [], q :: qs, _, _, h, _ => by have := KVr.len h; simp at this
  | p :: ps, [], _, _, h, _ => by have := KVr.len h; simp at this
def eDictL (f : PV) : EV := fun env st => (f env (st ++ [.dK []])).bind fun a => match a.2[st.length]? with
  | some (.dK []) => if a.1.length ≤ 15 then .ok (.ref st.length, a.2.set st.length (.dK (mergeD [] a.1))) else .bad
  | _ => .bad
@[simp] theorem r_eDictL (f : PV) (env : Env) (st : Store) : eDictL f env st = (f env (st ++ [.dK []])).bind fun a => match a.2[st.length]? with
  | some (.dK []) => if a.1.length ≤ 15 then .ok (.ref st.length, a.2.set st.length (.dK (mergeD [] a.1))) else .bad
  | _ => .bad := (rfl)
theorem de_dictL {pos : Pos} {ks : List (Option Expr)} {vs : List Expr} {f : PV} (h : DPs W X E pos ks vs f) (hall : ks.all (·.isSome) = true := by rfl) (hl : ks.length = vs.length := by rfl) (h0 : ks ≠ [] := by intro z; cases z) (h15 : ks.length ≤ 15 := by decide) : DE W X E (.Dict ks vs pos) (eDictL f) := by
  obtain ⟨trs, p, q⟩ := h.ex
  refine .mk (pe_disp p hall hl h0 h15) fun Rs F H r sg env st Q hH hE hP pp hp => ?_
  have hH1 : Holds W Rs F (upd H pp (.dK [])) (r ++ [pp]) (st ++ [.dK []]) := hH.fresh hp (b := .dK []) ⟨[], upd_same, trivial⟩
  have hl0 := hH.len
  refine q Rs F _ _ sg env _ _ hH1 (hE.mono (Same.refl _) (Ext.snoc _ _)) (bindX (PostX.imp (Same.refl _) (Ext.snoc r pp) hP fun _ z => z) fun a ea z F1 H1 r1 kvs s1 x1 h1 k1 => ?_)
  have rp : r1[st.length]? = some pp := x1 _ _ (by rw [← hl0, List.getElem?_append_right (Nat.le_refl _)]; simp)
  split at z
  · rename_i e
    obtain ⟨vs0, e1, e2⟩ := h1.ob _ _ _ rp e
    have : vs0 = [] := by
      have := KVr.len e2
      exact List.length_eq_zero_iff.mp this
    subst this
    split at z
    · rename_i h15'
      refine ⟨e1, kvs, rfl, by rw [KVr.len k1]; exact h15', ?_⟩
      refine z F1 _ r1 (.ref pp) s1 (Ext.trans (Ext.snoc _ _) x1) (h1.write rp (b := .dK (mergeD [] a.1)) ⟨_, upd_same, KVr.merge k1 trivial⟩) (.ref rp)
    · exact z.elim
  · exact z.elim
end Dl
namespace Dl
open PySem PySem.Spec L2
section
variable {W : Wd} {X : Cx} {E : XK}
/-- lambdas at these places -/
def MadesAt (X : Cx) (Rs F : Hp) (ls : List LamW) (fs : List Addr) : Prop := fs.length = ls.length ∧ ∀ (i : Nat) (l : LamW) (f : Addr), ls[i]? = some l → fs[i]? = some f → MadeAt Rs F l.ld (cloFrom X.env.cells l.ld.scope.names []) f
theorem MadesAt.mono {Rs Rs' F F' : Hp} {ls : List LamW} {fs : List Addr} (s : Same Rs Rs') (s' : Same F F') (m : MadesAt X Rs F ls fs) : MadesAt X Rs' F' ls fs := ⟨m.1, fun i l f e1 e2 => (m.2 i l f e1 e2).mono s s'⟩
theorem MadesAt.app {Rs F : Hp} {ls ls' : List LamW} {fs fs' : List Addr} (m : MadesAt X Rs F ls fs) (m' : MadesAt X Rs F ls' fs') : MadesAt X Rs F (ls ++ ls') (fs ++ fs') := by
  refine ⟨by simp [m.1, m'.1], fun i l f e1 e2 => ?_⟩
  by_cases h : i < ls.length
  · rw [List.getElem?_append_left h] at e1
    rw [List.getElem?_append_left (by rw [m.1]; exact h)] at e2
    exact m.2 i l f e1 e2
  · rw [List.getElem?_append_right (by omega)] at e1
    rw [List.getElem?_append_right (by rw [m.1]; omega), m.1] at e2
    exact m'.2 _ l f e1 e2
/-- x = [lambda: .., ..]; if not g(x .., e): a / else: b; .. -/
def sLams (i : Nat) (f : SV) : SV := fun env st => f (env.set i none) st
@[simp] theorem r_sLams (i : Nat) (f : SV) (env : Env) (st : Store) : sLams i f env st = f (env.set i none) st := (rfl)
end
end Dl
namespace Dl
open PySem PySem.Spec L2
theorem tabs_uniq : ∀ {l : List (Addr × Str)} {P : Addr} {q : Str}, (l.map (·.1)).Nodup → (P, q) ∈ l → ∀ p ∈ l, p.1 = P → p.2 = q
  | [], _, _, _, h, _, _, _ => by cases h
  | x :: l, P, q, nd, h, p, hp, e => by
    rw [List.map_cons, List.nodup_cons] at nd
    rcases List.mem_cons.mp h with h | h
    · rcases List.mem_cons.mp hp with hp | hp
      · rw [hp, ← h]
      · exact absurd (List.mem_map.mpr ⟨p, hp, by rw [e, ← h]⟩) nd.1
    · rcases List.mem_cons.mp hp with hp | hp
      · exact absurd (List.mem_map.mpr ⟨(P, q), h, by rw [← hp, e]⟩) nd.1
      · exact tabs_uniq nd.2 h p hp e
section
variable {P : Program} {w : World} {W : Wd} {mg : Str → Option Value} {base : Heap} {E : XK}
theorem maker_in {N : List Str} {qual : Str} {sc : Scope} {f c P' : Addr} {A : Around} {outer : List PySem.Env} {sh : Shared} {H : Hp} {q : Str} (TB : LamX.TabB base mg c P') (hW : (P', q) ∈ W.tabs ∧ (W.tabs.map (·.1)).Nodup) : Maker W (cxOf (L2.CX P w) P w W.K mg base N qual sc f (.ref c) A outer sh H E) q :=
  ⟨c, P', TB, rfl, hW.1, tabs_uniq hW.2 hW.1⟩
end
/-- the tables of defs at hand are empty -/
theorem own_of_top {p : Program} {loose : List Str} {mean : ExcName → Option Value} {mg mb : Str → Option Value} {h : Heap} {K : PySem.W.Frag} (T : PyProof.Rows.Top p loose mean mg mb h) (KX : K.In h) {nm : Str} {f : Addr}
    (hrec : ((PyProof.Rows.recsOf p).any fun e => e.name == nm) = true) (hf : mg nm = some (.ref f)) : LamX.OwnTab K f h := by
  have ⟨d, hd, e⟩ := List.any_eq_true.mp hrec
  have ⟨a, o, fd, c, P, h1, h2, h3, h4, _, ⟨oc, vc, h5, _, h6, h7⟩, h8⟩ := T.tab d hd
  have : a = f := by simpa [beq_iff_eq.mp e, hf, eq_comm] using h1
  subst this
  intro c' P' o' fd' u dd vs sl k1 k2 k3 k4 k5
  have e1 := h2.symm.trans (KX _ _ k1)
  simp only [Option.some.injEq] at e1
  subst e1
  simp only [h3, Data.func.injEq] at k2
  subst k2
  simp only [h4, Value.ref.injEq] at k3
  subst k3
  have e2 := h5.symm.trans (KX _ _ k4)
  simp only [Option.some.injEq] at e2
  subst e2
  simp only [Data.fields.injEq] at h6
  rw [← h6, k5] at h7
  simp only [Option.some.injEq, Value.ref.injEq] at h7
  rw [h7]
  exact h8
theorem walk_ofOwnAll {l : PySem.W.OpenLaw} {n k : Nat} {q : Program} {loose : List Str} {XP : (Str → Option Value) → Heap → Prop} {YP : World → Heap → Prop} {d : DefRec} {K : Params → PySem.W.Frag} {CX : World → CXT} {x : Str} (names : List Str)
    (hn : l.most = some n) (hn2 : n ≤ sizeLine) (hdf : d.params.defaults = []) (hr : Room k callerA) (hrec : ∀ nm ∈ names, ((PyProof.Rows.recsOf q).any fun e => e.name == nm) = true) (hY : ∀ (w : World) (h : Heap), YP w h → (K w.params).In h)
    (F : ∀ (w : World) (mg : Str → Option Value) (fa : Addr) (h : Heap), YP w h → (K w.params).In h → h.Ns mainGlobals mg → mg d.name = some (.ref fa) → (∀ nm ∈ names, ∀ f, mg nm = some (.ref f) → LamX.OwnTab (K w.params) f h) → LamX.LawAtS l w (K w.params) (CX w) k n x mg fa h)
    (hCX : ∀ (w : World) (H : Hp) (s : Shared) (e : Value) (s' : Shared), CX w [] H s (fun _ _ _ => False) e s' → False) :
    PySem.W.WalkO q loose XP YP l.row.toRowW d [] (fun f vs => PySem.call f vs) :=
  Att.attach_callB hn hdf fun w _ s1 mg _ fa _ _ _ _ a _ ns G Y _ _ _ hfa ha hi hl hbits hg =>
    have KX := hY w _ Y
    have ⟨_, _, _, c1, c2, c3, c4, c5, c6⟩ := F w mg fa _ Y KX G.T.g hfa fun nm m f e => own_of_top G.T KX (hrec nm m) e
    LamX.law_callTs KX G.T.g G.T.b G.T.builtins G.T.nolimit hg c1 c2 c3 G.T.bmain ha hi (Nat.le_trans hl hn2) hr c6 c4 (fun H => c5 H a ns hl hbits) fun H => hCX w H s1
/-- the end of a law, some of whose defs make lambdas -/
theorem law_walkTs {l : PySem.W.OpenLaw} {n k : Nat} {q : Program} {loose : List Str} {XP : (Str → Option Value) → Heap → Prop} {YP : World → Heap → Prop} {d : DefRec} {K : Params → PySem.W.Frag} {x : Str} (names : List Str) (hn : l.most = some n) (hn2 : n ≤ sizeLine) (hdf : d.params.defaults = []) (hr : Room k callerA)
    (hrec : ∀ nm ∈ names, ((PyProof.Rows.recsOf q).any fun e => e.name == nm) = true) (hL : ∀ w : World, noList (K w.params)) (hY : ∀ (w : World) (h : Heap), YP w h → (K w.params).In h)
    (F : ∀ (w : World) (mg : Str → Option Value) (fa : Addr) (h : Heap), (K w.params).In h → h.Ns mainGlobals mg → mg d.name = some (.ref fa) → (∀ nm ∈ names, ∀ f, mg nm = some (.ref f) → LamX.OwnTab (K w.params) f h) →
      ∃ (fd : FuncData) (cs : List (Addr × Addr)), (∀ p ∈ cs, h.get? p.2 = some { cls := .none, data := .fields #[] }) ∧ (∀ p ∈ cs, (K w.params).lookup p.2 = none) ∧ (∀ p ∈ cs, PySem.W.CodeHd h p.1 p.2) ∧ (∀ (s : Shared) (u : Value), BindsTo s fd ⟨[u], []⟩ [(x, u)]) ∧
        ∀ base : Heap, (K w.params).In base → base.Ns mainGlobals mg → (∀ p ∈ cs, LamX.TabB base mg p.1 p.2) → FnOk l.prog w (K w.params) mg base (L2.CX l.prog w) k fa fd [x] (spLawT (cs.map (·.2)) n)) :
    PySem.W.WalkO q loose XP YP l.row.toRowW d [] (fun f vs => PySem.call f vs) := by
  refine walk_ofOwnAll (n := n) (k := k) (x := x) (CX := fun w => L2.CX l.prog w) names hn hn2 hdf hr hrec hY (fun w mg fa h Y KX G hmg OT => ?_) fun w H s e s1 h => by
    obtain ⟨_, _, _, _, _, _, _, _, _, _, _, z⟩ := h
    exact z.2
  obtain ⟨fd, cs, h1, h2, h3, h4, h5⟩ := F w mg fa h KX G hmg OT
  refine ⟨fd, cs, spLawT (cs.map (·.2)) n, h1, h2, h3, h4, fun H a ns hl hbits hT hS => ?_, fun base a b hTB => h5 base a b hTB⟩
  rcases hS with hS | ⟨o, its, m, e1, e2, _⟩
  · have hN : ScrAt H a ns := by
      rcases hS with hS | ⟨o, hS⟩
      · exact .inr hS
      · exact .inl ⟨o, hS⟩
    exact ⟨a, ns, rfl, hN, fun P' hP => by
      obtain ⟨p, hp, rfl⟩ := List.mem_map.mp hP
      exact hT p hp, hl, fun _ => rfl⟩
  · exact absurd e2 (hL w a o e1)
end Dl
namespace Dl
open PySem L2
mutual
def D.toQ : D → PyData
  | .non => .none
  | .bl b => .bool b
  | .int i => .int i
  | .str s => .str ⟨s.toArray⟩
  | .tup ds => .tuple (D.toQs ds)
  | .lst ds => .list (D.toQs ds)
  | .ref _ => .none
  | .scr _ => .none
  | .exn _ _ => .none
def D.toQs : List D → List PyData
  | [] => []
  | d :: ds => D.toQ d :: D.toQs ds
end
mutual
/-- no reference, no truth value -/
def D.pl : D → Bool
  | .bl _ => false
  | .tup ds => D.pls ds
  | .lst ds => D.pls ds
  | .ref _ => false
  | .scr _ => false
  | .exn _ _ => false
  | _ => true
def D.pls : List D → Bool
  | [] => true
  | d :: ds => D.pl d && D.pls ds
end
mutual
def D.dp : D → Nat
  | .tup ds => D.dps ds + 1
  | .lst ds => D.dps ds + 1
  | _ => 1
def D.dps : List D → Nat
  | [] => 0
  | d :: ds => max (D.dp d) (D.dps ds)
end
theorem pls_iff : ∀ {ds : List D}, D.pls ds = true ↔ ∀ d ∈ ds, D.pl d = true
  | [] => by simp [D.pls]
  | d :: ds => by simp [D.pls, pls_iff (ds := ds)]
theorem dps_le {n : Nat} : ∀ {ds : List D}, D.dps ds ≤ n ↔ ∀ d ∈ ds, D.dp d ≤ n
  | [] => by simp [D.dps]
  | d :: ds => by simp [D.dps, Nat.max_le, dps_le (ds := ds)]
mutual
theorem toP_pl {st : Store} : ∀ (n : Nat) (d : D), D.pl d = true → D.dp d ≤ n → toP st n d = some (D.toQ d)
  | 0, d, _, h => by cases d <;> simp [D.dp] at h
  | n + 1, .non, _, _ => rfl
  | n + 1, .bl _, h, _ => by simp [D.pl] at h
  | n + 1, .int _, _, _ => rfl
  | n + 1, .str _, _, _ => rfl
  | n + 1, .tup ds, h, k => by
    rw [D.pl] at h
    rw [D.dp] at k
    rw [toP]
    simp only [toPs_pl n ds h (by omega), D.toQ]
  | n + 1, .lst ds, h, k => by
    rw [D.pl] at h
    rw [D.dp] at k
    rw [toP]
    simp only [toPs_pl n ds h (by omega), D.toQ]
  | n + 1, .ref _, h, _ => by simp [D.pl] at h
  | n + 1, .scr _, h, _ => by simp [D.pl] at h
  | n + 1, .exn _ _, h, _ => by simp [D.pl] at h
theorem toPs_pl {st : Store} : ∀ (n : Nat) (ds : List D), D.pls ds = true → D.dps ds ≤ n → optAll (ds.map (toP st n)) = some (D.toQs ds)
  | n, [], _, _ => by simp [optAll, D.toQs]
  | n, d :: ds, h, k => by
    simp only [D.pls, Bool.and_eq_true] at h
    simp only [D.dps, Nat.max_le] at k
    rw [List.map_cons, toP_pl n d h.1 k.1, optAll, toPs_pl n ds h.2 k.2]
    simp only [D.toQs]
end
mutual
theorem eqv_pl : ∀ (d e : D), D.pl d = true → D.pl e = true → PyData.eqv d.toQ e.toQ = D.beq d e
  | .non, e, _, h => by cases e <;> simp_all [D.toQ, PyData.eqv, D.beq, D.pl]
  | .bl _, e, h, _ => by simp [D.pl] at h
  | .int _, e, _, h => by cases e <;> simp_all [D.toQ, PyData.eqv, D.beq, D.pl]
  | .str s, e, _, h => by
    cases e with
    | str t => simp only [D.toQ, PyData.eqv, D.beq, str_beq]
    | _ => simp_all [D.toQ, PyData.eqv, D.beq, D.pl]
  | .tup ds, e, h1, h => by
    cases e with
    | tup es =>
      simp only [D.pl] at h1 h
      simp only [D.toQ, PyData.eqv, D.beq]
      exact eqvs_pl ds es h1 h
    | _ => simp_all [D.toQ, PyData.eqv, D.beq, D.pl]
  | .lst ds, e, h1, h => by
    cases e with
    | lst es =>
      simp only [D.pl] at h1 h
      simp only [D.toQ, PyData.eqv, D.beq]
      exact eqvs_pl ds es h1 h
    | _ => simp_all [D.toQ, PyData.eqv, D.beq, D.pl]
  | .ref _, e, h, _ => by simp [D.pl] at h
  | .scr _, e, h, _ => by simp [D.pl] at h
  | .exn _ _, e, h, _ => by simp [D.pl] at h
theorem eqvs_pl : ∀ (ds es : List D), D.pls ds = true → D.pls es = true → PyData.eqvAll (D.toQs ds) (D.toQs es) = D.beqs ds es
  | [], [], _, _ => by simp only [D.toQs, PyData.eqvAll, D.beqs]
  | [], e :: es, _, _ => by simp only [D.toQs, PyData.eqvAll, D.beqs]
  | d :: ds, [], _, _ => by simp only [D.toQs, PyData.eqvAll, D.beqs]
  | d :: ds, e :: es, h1, h2 => by
    simp only [D.pls, Bool.and_eq_true] at h1 h2
    simp only [D.toQs, PyData.eqvAll, D.beqs]
    rw [eqv_pl d e h1.1 h2.1, eqvs_pl ds es h1.2 h2.2]
end
instance : DecidableEq D := fun d e => if h : D.beq d e = true then isTrue (D.eq_of_beq d e h) else isFalse fun z => h (z ▸ D.beq_refl d)
theorem beq_dec (d e : D) : D.beq d e = decide (d = e) := by
  by_cases h : d = e
  · subst h; simp [D.beq_refl]
  · simp only [h, decide_false]
    cases q : D.beq d e with
    | true => exact absurd (D.eq_of_beq d e q) h
    | false => rfl
/-- equality of plain data -/
theorem eqG_pl {neg : Bool} {st : Store} {d e : D} (h1 : D.pl d = true) (h2 : D.pl e = true) (k1 : D.dp d ≤ 40) (k2 : D.dp e ≤ 40) : eqG neg st d e = .ok (.bl (if neg = true then !decide (d = e) else decide (d = e)), st) := by
  unfold eqG
  rw [toP_pl 40 d h1 k1, toP_pl 40 e h2 k2]
  simp only [eqv_pl d e h1 h2, beq_dec]
theorem toP_ref {n k : Nat} {st : Store} {ds : List D} (h : st[k]? = some (.lst ds)) : toP st (n + 1) (.ref k) = toP st (n + 1) (.lst ds) := by
  rw [toP, toP]
  simp only [h]
theorem eqG_refL {neg : Bool} {st : Store} {k : Nat} {ds : List D} {e : D} (h : st[k]? = some (.lst ds)) : eqG neg st (.ref k) e = eqG neg st (.lst ds) e := by
  unfold eqG; rw [toP_ref (n := 39) h]
@[simp] theorem eqG_int {neg : Bool} {st : Store} (i j : Int) : eqG neg st (.int i) (.int j) = .ok (.bl (if neg = true then !decide (i = j) else decide (i = j)), st) := by
  rw [eqG_pl rfl rfl (by simp [D.dp]) (by simp [D.dp])]
  simp
@[simp] theorem eqG_str {neg : Bool} {st : Store} (i j : List Nat) : eqG neg st (.str i) (.str j) = .ok (.bl (if neg = true then !decide (i = j) else decide (i = j)), st) := by
  rw [eqG_pl rfl rfl (by simp [D.dp]) (by simp [D.dp])]
  simp
@[simp] theorem eqG_bl {neg : Bool} {st : Store} (i j : Bool) : eqG neg st (.bl i) (.bl j) = .ok (.bl (if neg = true then !(i == j) else (i == j)), st) := by
  unfold eqG
  simp [toP, PyData.eqv]
@[simp] theorem pl_int (i : Int) : D.pl (.int i) = true := rfl
@[simp] theorem pl_str (s : List Nat) : D.pl (.str s) = true := rfl
@[simp] theorem pl_non : D.pl .non = true := rfl
@[simp] theorem pl_tup (ds : List D) : D.pl (.tup ds) = D.pls ds := by rw [D.pl]
@[simp] theorem pl_lst (ds : List D) : D.pl (.lst ds) = D.pls ds := by rw [D.pl]
@[simp] theorem pls_nil : D.pls [] = true := rfl
@[simp] theorem pls_cons (d : D) (ds : List D) : D.pls (d :: ds) = (D.pl d && D.pls ds) := by rw [D.pls]
@[simp] theorem dp_int (i : Int) : D.dp (.int i) = 1 := rfl
@[simp] theorem dp_str (s : List Nat) : D.dp (.str s) = 1 := rfl
@[simp] theorem dp_non : D.dp .non = 1 := rfl
@[simp] theorem dp_tup (ds : List D) : D.dp (.tup ds) = D.dps ds + 1 := by rw [D.dp]
@[simp] theorem dp_lst (ds : List D) : D.dp (.lst ds) = D.dps ds + 1 := by rw [D.dp]
@[simp] theorem dps_nil : D.dps [] = 0 := rfl
@[simp] theorem dps_cons (d : D) (ds : List D) : D.dps (d :: ds) = max (D.dp d) (D.dps ds) := by rw [D.dps]
@[simp] theorem pls_strs (ss : List (List Nat)) : D.pls (ss.map D.str) = true := pls_iff.mpr fun d h => by
  obtain ⟨s, _, rfl⟩ := List.mem_map.mp h; rfl
@[simp] theorem pls_ints (ss : List Int) : D.pls (ss.map D.int) = true := pls_iff.mpr fun d h => by
  obtain ⟨s, _, rfl⟩ := List.mem_map.mp h; rfl
theorem dps_strs (ss : List (List Nat)) : D.dps (ss.map D.str) ≤ 1 := dps_le.mpr fun d h => by
  obtain ⟨s, _, rfl⟩ := List.mem_map.mp h; exact Nat.le_refl _
theorem dps_ints (ss : List Int) : D.dps (ss.map D.int) ≤ 1 := dps_le.mpr fun d h => by
  obtain ⟨s, _, rfl⟩ := List.mem_map.mp h; exact Nat.le_refl _
@[simp] theorem lim_0 : (0 ≤ LIM) = True := eq_true (le_LIM (by decide))
@[simp] theorem lim_1 : (1 ≤ LIM) = True := eq_true (le_LIM (by decide))
@[simp] theorem lim_2 : (2 ≤ LIM) = True := eq_true (le_LIM (by decide))
@[simp] theorem lim_3 : (3 ≤ LIM) = True := eq_true (le_LIM (by decide))
@[simp] theorem lim_4 : (4 ≤ LIM) = True := eq_true (le_LIM (by decide))
@[simp] theorem lim_5 : (5 ≤ LIM) = True := eq_true (le_LIM (by decide))
@[simp] theorem lim_6 : (6 ≤ LIM) = True := eq_true (le_LIM (by decide))
@[simp] theorem lim_7 : (7 ≤ LIM) = True := eq_true (le_LIM (by decide))
@[simp] theorem lim_8 : (8 ≤ LIM) = True := eq_true (le_LIM (by decide))
@[simp] theorem lim_9 : (9 ≤ LIM) = True := eq_true (le_LIM (by decide))
@[simp] theorem lim_10 : (10 ≤ LIM) = True := eq_true (le_LIM (by decide))
@[simp] theorem lim_11 : (11 ≤ LIM) = True := eq_true (le_LIM (by decide))
@[simp] theorem lim_12 : (12 ≤ LIM) = True := eq_true (le_LIM (by decide))
@[simp] theorem lim_13 : (13 ≤ LIM) = True := eq_true (le_LIM (by decide))
@[simp] theorem lim_14 : (14 ≤ LIM) = True := eq_true (le_LIM (by decide))
@[simp] theorem lim_15 : (15 ≤ LIM) = True := eq_true (le_LIM (by decide))
@[simp] theorem wipe_nil (env : Env) : wipeD env [] = env := rfl
@[simp] theorem wipe_cons (env : Env) (v : Nat) (vs : List Nat) : wipeD env (v :: vs) = (wipeD env vs).set v none := rfl
@[simp] theorem intsD_len (lo : Int) (n : Nat) : (intsD lo n).length = n := by simp [intsD]
@[simp ↓] theorem bind_m {A B : Type} (r : R A) (f : A → R B) : r.bind f = match r with
  | .ok a => f a
  | .exc c p st => .exc c p st
  | .bad => .bad := (rfl)
@[simp ↓] theorem sOf_m {A : Type} (r : R A) (f : A → SR) : sOf r f = match r with
  | .ok a => f a
  | .exc c p st => .exc c p st
  | .bad => .bad := (rfl)
/-- a turn's end that goes on -/
def SR.turn (r : SR) (J : Env → Store → Prop) : Prop := match r with
  | .nx e s => J e s
  | .ct e s => J e s
  | _ => False
@[simp] theorem turn_nx (e : Env) (s : Store) (J : Env → Store → Prop) : (SR.nx e s).turn J = J e s := rfl
@[simp] theorem turn_ct (e : Env) (s : Store) (J : Env → Store → Prop) : (SR.ct e s).turn J = J e s := rfl
theorem turn_ex {r : SR} {J : Env → Store → Prop} (h : r.turn J) : ∃ e s, (r = .nx e s ∨ r = .ct e s) ∧ J e s := by
  cases r with
  | nx e s => exact ⟨e, s, .inl rfl, h⟩
  | ct e s => exact ⟨e, s, .inr rfl, h⟩
  | _ => exact h.elim
theorem for_at {sub : List (Nat × List D)} {g : GV} {b : SV} {ds : List D} {env : Env} {st : Store} {r : SR} (hf : forGo sub g b ds env st = r) (I : Nat → Env → Store → Prop) (h0 : I 0 env st)
    (hst : ∀ i env st, i ≤ ds.length → I i env st → still sub st = true)
    (turn : ∀ i d env st, ds[i]? = some d → I i env st → (sOf (g d env st) fun a => b a.1 a.2).turn (I (i + 1))) : ∃ e s, r = .nx e s ∧ I ds.length e s := by
  subst hf
  refine for_inv I h0 hst fun i d env st hd hI => ?_
  have t := turn i d env st hd hI
  cases q : g d env st with
  | ok a =>
    obtain ⟨e1, s1⟩ := a
    rw [q] at t
    obtain ⟨e2, s2, t1, t2⟩ := turn_ex t
    exact ⟨e1, s1, e2, s2, rfl, t1, t2⟩
  | exc c p s => rw [q] at t; exact t.elim
  | bad => rw [q] at t; exact t.elim
/-- a turn's end: on, or out -/
def SR.turnE (r : SR) (J : Env → Store → Prop) (P : SR → Prop) : Prop := match r with
  | .nx e s => J e s
  | .ct e s => J e s
  | .bk e s => P (.nx e s)
  | .rt d s => P (.rt d s)
  | .exc c p s => P (.exc c p s)
  | .bad => False
@[simp] theorem turnE_nx (e : Env) (s : Store) (J : Env → Store → Prop) (P : SR → Prop) : (SR.nx e s).turnE J P = J e s := rfl
@[simp] theorem turnE_ct (e : Env) (s : Store) (J : Env → Store → Prop) (P : SR → Prop) : (SR.ct e s).turnE J P = J e s := rfl
@[simp] theorem turnE_bk (e : Env) (s : Store) (J : Env → Store → Prop) (P : SR → Prop) : (SR.bk e s).turnE J P = P (.nx e s) := rfl
@[simp] theorem turnE_rt (d : D) (s : Store) (J : Env → Store → Prop) (P : SR → Prop) : (SR.rt d s).turnE J P = P (.rt d s) := rfl
@[simp] theorem turnE_exc (c : Nat) (p : Option D) (s : Store) (J : Env → Store → Prop) (P : SR → Prop) : (SR.exc c p s).turnE J P = P (.exc c p s) := rfl
theorem for_atE {sub : List (Nat × List D)} {g : GV} {b : SV} {ds : List D} {env : Env} {st : Store} {r : SR} (hf : forGo sub g b ds env st = r) (I : Nat → Env → Store → Prop) (P : SR → Prop) (h0 : I 0 env st)
    (hst : ∀ i env st, i ≤ ds.length → I i env st → still sub st = true)
    (turn : ∀ i d env st, ds[i]? = some d → I i env st → ∃ e1 s1, g d env st = .ok (e1, s1) ∧ (b e1 s1).turnE (I (i + 1)) P)
    (done : ∀ e s, I ds.length e s → P (.nx e s)) : P r := by
  subst hf
  refine for_inv_end I P h0 hst (fun i d env st hd hI => ?_) done
  obtain ⟨e1, s1, q, t⟩ := turn i d env st hd hI
  refine ⟨e1, s1, q, ?_⟩
  cases w : b e1 s1 with
  | nx e s => rw [w] at t; exact .inl ⟨e, s, .inl rfl, t⟩
  | ct e s => rw [w] at t; exact .inl ⟨e, s, .inr rfl, t⟩
  | bk e s => rw [w] at t; exact .inr (.inl ⟨e, s, rfl, t⟩)
  | rt d s => rw [w] at t; exact .inr (.inr (.inl ⟨d, s, rfl, t⟩))
  | exc c p s => rw [w] at t; exact .inr (.inr (.inr ⟨c, p, s, rfl, t⟩))
  | bad => rw [w] at t; exact t.elim
/-- the value of an expression, with what is so behind it -/
def R.to {A : Type} (r : R (A × Store)) (J : A → Store → Prop) : Prop := match r with
  | .ok a => J a.1 a.2
  | _ => False
@[simp] theorem to_ok {A : Type} (a : A × Store) (J : A → Store → Prop) : (R.ok a).to J = J a.1 a.2 := rfl
theorem lc_at {sub : List (Nat × List D)} {t : Tg1} {tt : TV} {te : EV} {env : Env} {ds : List D} {st : Store} {r : R (List D × Store)} (hf : lcGo sub t tt te env ds [] st = r) (I : Nat → List D → Store → Prop) (h0 : I 0 [] st)
    (hst : ∀ i acc st, i ≤ ds.length → I i acc st → still sub st = true)
    (turn : ∀ i d acc st, ds[i]? = some d → I i acc st → ∃ env1, t.put d env = some env1 ∧ (tt env1 st).to fun b st1 => if b = true then (te env1 st1).to fun y st2 => I (i + 1) (acc ++ [y]) st2 else I (i + 1) acc st1) :
    ∃ acc s, r = .ok (acc, s) ∧ I ds.length acc s := by
  subst hf
  have gen : ∀ (es : List D) (i : Nat) (acc : List D) (st : Store), i + es.length = ds.length → ds.drop i = es → I i acc st → ∃ acc' s, lcGo sub t tt te env es acc st = .ok (acc', s) ∧ I ds.length acc' s := by
    intro es
    induction es with
    | nil =>
      intro i acc st hl hd hI
      have : i = ds.length := by simpa using hl
      exact ⟨acc, st, lcGo_nil (hst i acc st (by omega) hI), this ▸ hI⟩
    | cons d es ih =>
      intro i acc st hl hd hI
      have hi : ds[i]? = some d := by
        have := congrArg (fun l => l[0]?) hd
        simpa using this
      have hd' : ds.drop (i + 1) = es := by
        have : ds.drop (i + 1) = (ds.drop i).drop 1 := by rw [List.drop_drop]
        rw [this, hd]; rfl
      have hl' : i + 1 + es.length = ds.length := by simp at hl; omega
      obtain ⟨env1, p1, p2⟩ := turn i d acc st hi hI
      rw [lcGo_cons (hst i acc st (by simp at hl; omega) hI), p1]
      show ∃ acc' s, ((noX (tt env1 st)).bind fun b => if b.1 = true then (noX (te env1 b.2)).bind fun y => lcGo sub t tt te env es (acc ++ [y.1]) y.2 else lcGo sub t tt te env es acc b.2) = .ok (acc', s) ∧ I ds.length acc' s
      cases q : tt env1 st with
      | ok b =>
        obtain ⟨b, st1⟩ := b
        rw [q] at p2
        simp only [to_ok] at p2
        simp only [noX_ok, R.bind_ok]
        cases b with
        | true =>
          simp only [if_true] at p2 ⊢
          cases q2 : te env1 st1 with
          | ok y =>
            rw [q2] at p2
            simp only [noX_ok, R.bind_ok]
            exact ih _ _ _ hl' hd' p2
          | exc c p s => rw [q2] at p2; exact p2.elim
          | bad => rw [q2] at p2; exact p2.elim
        | false => exact ih _ _ _ hl' hd' p2
      | exc c p s => rw [q] at p2; exact p2.elim
      | bad => rw [q] at p2; exact p2.elim
  exact gen ds 0 [] st (by simp) (by simp) h0
end Dl
namespace Dl
open PySem L2
/-- is_sign: 1 slots, 1 parameters -/
def d_is_sign : SV := sRet (eAnd (eChain leG leG (eC (.str [32])) (eV 0) (eC (.str [126]))) (eOp (eqG true) (eB ordG (aCons (eV 0) (aNil))) (eC (.int 37))))
/-- is_cell: 2 slots, 1 parameters -/
def d_is_cell (m_is_sign : FV) : SV := sCons (sIf (tOrD (tNotD (tv (eIs "str" (eV 0)))) (tv (eOp gtG (eB lenG (aCons (eV 0) (aNil))) (eC (.int 10))))) (sRet (eC (.bl false))) (sNext)) (sRet (eOp (eqG false) (eLc false (iSeq (eV 0)) [1] (.one 1) (tNotD (tv (eCall 1 m_is_sign (aCons (eV 1) (aNil))))) (eV 1)) (eLst false (aNil))))
/-- is_row: 2 slots, 1 parameters -/
def d_is_row (m_is_cell : FV) : SV := sCons (sIf (tOrD (tNotD (tv (eIs "tuple" (eV 0)))) (tNotD (tv (eChain leG leG (eC (.int 1)) (eB lenG (aCons (eV 0) (aNil))) (eC (.int 6)))))) (sRet (eC (.bl false))) (sNext)) (sRet (eOp (eqG false) (eLc false (iSeq (eV 0)) [1] (.one 1) (tNotD (tv (eCall 1 m_is_cell (aCons (eV 1) (aNil))))) (eV 1)) (eLst false (aNil))))
/-- need_page: 3 slots, 1 parameters -/
def d_need_page (m_is_row : FV) : SV := sCons (sIf (tOrD (tNotD (tv (eIs "list" (eV 0)))) (tv (eOp (eqG false) (eV 0) (eLst false (aNil))))) (sBad) (sNext)) (sFor (iEn (aCons (eV 0) (aNil))) (gTp 2 (gsCons (gN 1) (gsCons (gN 2) (gsNil)))) (sIf (tOrD (tv (eOp geG (eV 1) (eC (.int 30)))) (tNotD (tv (eCall 1 m_is_row (aCons (eV 2) (aNil)))))) (sBad) (sNext)))
/-- written: 2 slots, 1 parameters -/
def d_written (m_need_page : FV) : SV := sCons (sExpr (eCall 1 m_need_page (aCons (eV 0) (aNil)))) (sRet (eMt "str" (joinG) (eC (.str [10])) (aCons (eLc false (iSeq (eV 0)) [1] (.one 1) (tYesD) (eMt "str" (joinG) (eC (.str [9])) (aCons (eB (listG false) (aCons (eV 1) (aNil))) (aNil)))) (aNil))))
/-- law_begun: 3 slots, 1 parameters -/
def d_law_begun : SV := sCons (sAsg (eC (.int 0)) (gN 1)) (sCons (sFor (iSeq (eV 0)) (gN 2) (sAsg (eOp modG (eOp (addG true) (eOp (addG true) (eOp (mulG true) (eV 1) (eC (.int 48271))) (eOp (mulG true) (eV 2) (eC (.int 69621)))) (eC (.int 11))) (eC (.int 2147483647))) (gN 1))) (sRet (eLst true (aCons (eB (listG true) (aCons (eV 0) (aNil))) (aCons (eOp (mulG true) (eV 1) (eB intG (aCons (eOp gtG (eB lenG (aCons (eV 0) (aNil))) (eC (.int 2))) (aNil)))) (aNil))))))
/-- law_take: 3 slots, 2 parameters -/
def d_law_take : SV := sCons (sIf (tv (eOp (eqG false) (eOp ixG (eV 0) (eC (.int 0))) (eLst false (aNil)))) (sCons (sAsg (eOp modG (eOp (mulG false) (eOp ixG (eV 0) (eC (.int 1))) (eC (.int 48271))) (eC (.int 2147483647))) (gSb (eV 0) (eC (.int 1)) setLG)) (sRet (eOp modG (eOp divG (eOp ixG (eV 0) (eC (.int 1))) (eC (.int 7))) (eV 1)))) (sNext)) (sCons (sAsg (eOp ixG (eOp ixG (eV 0) (eC (.int 0))) (eC (.int 0))) (gN 2)) (sCons (sAsg (eOp divG (eV 2) (eV 1)) (gSb (eOp ixG (eV 0) (eC (.int 0))) (eC (.int 0)) setLG)) (sCons (sIf (tOrD (tv (eOp (eqG false) (eOp ixG (eOp ixG (eV 0) (eC (.int 0))) (eC (.int 0))) (eC (.int 0)))) (tv (eOp (eqG false) (eOp ixG (eOp ixG (eV 0) (eC (.int 0))) (eC (.int 0))) (eNeg (eC (.int 1)))))) (sExpr (eMt "list" (popG) (eOp ixG (eV 0) (eC (.int 0))) (aCons (eC (.int 0)) (aNil)))) (sNext)) (sRet (eOp modG (eV 2) (eV 1))))))
/-- law_alike: 3 slots, 2 parameters -/
def d_law_alike (rec_ : FV) : SV := sCons (sIf (tv (eOp (isG false) (eV 1) (eC .non))) (sRet (eOp (isG false) (eV 0) (eC .non))) (sNext)) (sCons (sIf (tv (eIs "bool" (eV 1))) (sRet (eAnd (eIs "bool" (eV 0)) (eOp (eqG false) (eV 0) (eV 1)))) (sNext)) (sCons (sIf (tv (eIs "int" (eV 1))) (sRet (eAnd (eIs "int" (eV 0)) (eAnd (eNot (eIs "bool" (eV 0))) (eOp (eqG false) (eV 0) (eV 1))))) (sNext)) (sCons (sIf (tv (eIs "str" (eV 1))) (sRet (eAnd (eIs "str" (eV 0)) (eOp (eqG false) (eV 0) (eV 1)))) (sNext)) (sCons (sIf (tOrD (tv (eOp (eqG true) (eIs "tuple" (eV 1)) (eIs "tuple" (eV 0)))) (tv (eOp (eqG true) (eIs "list" (eV 1)) (eIs "list" (eV 0))))) (sRet (eC (.bl false))) (sNext)) (sCons (sIf (tv (eOp (eqG true) (eB lenG (aCons (eV 0) (aNil))) (eB lenG (aCons (eV 1) (aNil))))) (sRet (eC (.bl false))) (sNext)) (sCons (sFor (iR1 (aCons (eB lenG (aCons (eV 1) (aNil))) (aNil))) (gN 2) (sIf (tNotD (tv (eCall 2 rec_ (aCons (eOp ixG (eV 0) (eV 2)) (aCons (eOp ixG (eV 1) (eV 2)) (aNil)))))) (sRet (eC (.bl false))) (sNext))) (sRet (eC (.bl true)))))))))
/-- law_sign: 2 slots, 1 parameters -/
def d_law_sign (m_law_take : FV) : SV := sCons (sAsg (eC (.str [32, 33, 34, 35, 36, 38, 39, 40, 41, 42, 43, 44, 45, 46, 47, 48, 49, 50, 51, 52, 53, 54, 55, 56, 57, 58, 59, 60, 61, 62, 63, 64, 65, 66, 67, 68, 69, 70, 71, 72, 73, 74, 75, 76, 77, 78, 79, 80, 81, 82, 83, 84, 85, 86, 87, 88, 89, 90, 91, 92, 93, 94, 95, 96, 97, 98, 99, 100, 101, 102, 103, 104, 105, 106, 107, 108, 109, 110, 111, 112, 113, 114, 115, 116, 117, 118, 119, 120, 121, 122, 123, 124, 125, 126])) (gN 1)) (sRet (eOp ixG (eV 1) (eCall 2 m_law_take (aCons (eV 0) (aCons (eC (.int 94)) (aNil))))))
end Dl
namespace Dl
open PySem L2
def okSign (c : Nat) : Bool := decide (32 ≤ c) && decide (c ≤ 126) && decide (c ≠ 37)
def okCell (s : List Nat) : Bool := decide (s.length ≤ 10) && s.all okSign
def okRow (r : List (List Nat)) : Bool := decide (1 ≤ r.length) && decide (r.length ≤ 6) && r.all okCell
abbrev Row := List (List Nat)
abbrev Page := List Row
def okPage (p : Page) : Bool := decide (1 ≤ p.length) && decide (p.length ≤ 30) && p.all okRow
def encR (r : Row) : D := .tup (r.map .str)
def encP (p : Page) : List D := p.map encR
@[simp] theorem encP_len (p : Page) : (encP p).length = p.length := by simp [encP]
@[simp] theorem pl_encR (r : Row) : D.pl (encR r) = true := by simp [encR]
@[simp] theorem pls_encP (p : Page) : D.pls (encP p) = true := pls_iff.mpr fun d h => by
  obtain ⟨s, _, rfl⟩ := List.mem_map.mp h; exact pl_encR s
theorem dp_encR (r : Row) : D.dp (encR r) ≤ 2 := by
  have := dps_strs r
  simp only [encR, dp_tup]; omega
theorem dps_encP (p : Page) : D.dps (encP p) ≤ 2 := dps_le.mpr fun d h => by
  obtain ⟨s, _, rfl⟩ := List.mem_map.mp h; exact dp_encR s
theorem ltc (a b : Nat) : ([a] < [b]) ↔ a < b := by
  rw [List.cons_lt_cons_iff]
  simp
def m_is_sign : FV := funD 1 d_is_sign
theorem is_sign_str (c : Nat) (st : Store) : m_is_sign [.str [c]] st = .ok (.bl (okSign c), st) := by
  unfold m_is_sign funD d_is_sign
  simp [leG, ordG, ltc]
  by_cases h1 : 32 ≤ c
  · by_cases h2 : c ≤ 126
    · simp [okSign, h1, h2, Nat.not_lt.mpr h1, Nat.not_lt.mpr h2]
      omega
    · simp [okSign, h1, h2, Nat.not_lt.mpr h1, Nat.lt_of_not_le h2]
  · simp [okSign, h1, Nat.lt_of_not_le h1]
theorem still_list {st : Store} {d : D} {w : Wk} (h : listOf st d = some w) : still w.2 st = true := by
  unfold listOf at h
  split at h
  · cases h; rfl
  · split at h
    · cases h; exact still_one ‹_›
    · cases h
  · cases h
theorem items_list {st : Store} {d : D} {w : Wk} (h : listOf st d = some w) : itemsOf st d = some w := by
  unfold listOf at h
  split at h
  · exact h
  · exact h
  · cases h
theorem lst_list {st : Store} {d : D} {w : Wk} (h : listOf st d = some w) : lstOf st d = some w.1 := by
  unfold listOf at h
  split at h
  · cases h; rfl
  · split at h
    · cases h
      rename_i e
      simp [lstOf, e]
    · cases h
  · cases h
theorem ty_list {st : Store} {d : D} {w : Wk} (h : listOf st d = some w) : tyOf st d = some "list" := by
  unfold listOf at h
  split at h
  · rfl
  · split at h
    · cases h
      rename_i e
      simp [tyOf, e]
    · cases h
  · cases h
theorem len_list {st : Store} {d : D} {w : Wk} (h : listOf st d = some w) : lenG st [d] = .ok (.int w.1.length, st) := by
  have e := lst_list h
  unfold listOf at h
  split at h
  · simp [lenG, e]
  · simp [lenG, e]
  · cases h
theorem eq_list {neg : Bool} {st : Store} {d e : D} {w : Wk} (h : listOf st d = some w) : eqG neg st d e = eqG neg st (.lst w.1) e := by
  unfold listOf at h
  split at h
  · cases h; rfl
  · split at h
    · cases h; exact eqG_refL ‹_›
    · cases h
  · cases h
/-- a comprehension that keeps what p likes -/
theorem lc_keep {sub : List (Nat × List D)} {j : Nat} {tt : TV} {env : Env} {st : Store} (hs : still sub st = true) (p : D → Bool) (ds : List D)
    (h : ∀ d ∈ ds, tt (env.set j (some d)) st = .ok (p d, st)) (hj : j < env.length) : lcGo sub (.one j) tt (eV j) env ds [] st = .ok (ds.filter p, st) := by
  have := lc_pure (t := .one j) (te := eV j) (env := env) (tt := tt) hs p (fun d => d) ds [] fun d hd => ⟨_, rfl, h d hd, fun _ => by simp [hj]⟩
  simpa using this
theorem eq_nilD {st : Store} {ds : List D} (h : D.pls ds = true) (k : D.dps ds ≤ 39) : eqG false st (.lst ds) (.lst []) = .ok (.bl (decide (ds = [])), st) := by
  rw [eqG_pl (by simpa using h) rfl (by simp; omega) (by simp)]
  simp
def m_is_cell : FV := funD 2 (d_is_cell m_is_sign)
theorem is_cell_str (s : List Nat) (st : Store) : m_is_cell [.str s] st = .ok (.bl (okCell s), st) := by
  unfold m_is_cell funD d_is_cell
  simp [tyOf, subTy, gtG, lenG, itemsOf]
  by_cases h : s.length ≤ 10
  · have h' : ¬ ((10 : Int) < s.length) := by omega
    simp only [h', if_false]
    have hl : s.length ≤ LIM := le_LIM (by omega)
    simp [hl, itemsOf]
    rw [lc_keep rfl (fun d => match d with | .str [c] => !okSign c | _ => true) _ (fun d hd => ?_) (by simp [wipeD])]
    · have e : (s.map fun c => D.str [c]).filter (fun d => match d with | .str [c] => !okSign c | _ => true) = ((s.filter fun c => !okSign c).map fun c => [c]).map D.str := by
        rw [List.filter_map, List.map_map]; rfl
      simp only [R.bind_ok, e]
      rw [eq_nilD (pls_strs _) (Nat.le_trans (dps_strs _) (by decide))]
      simp only [R.bind_ok, sOf_ok, List.map_eq_nil_iff]
      congr 3
      rw [okCell, decide_eq_true h, Bool.true_and, Bool.eq_iff_iff]
      simp [List.filter_eq_nil_iff]
    · obtain ⟨c, _, rfl⟩ := List.mem_map.mp hd
      simp [wipeD, is_sign_str]
  · have h' : (10 : Int) < s.length := by omega
    simp [h', h, okCell]
def m_is_row : FV := funD 2 (d_is_row m_is_cell)
theorem is_row_tup (r : Row) (st : Store) : m_is_row [encR r] st = .ok (.bl (okRow r), st) := by
  unfold m_is_row funD d_is_row encR
  simp [tyOf, subTy, leG, lenG, itemsOf]
  by_cases h : 1 ≤ r.length
  · have h1 : (1 : Int) ≤ r.length := by omega
    by_cases h2 : r.length ≤ 6
    · have h3 : (r.length : Int) ≤ 6 := by omega
      have hl : r.length ≤ LIM := le_LIM (by omega)
      simp [h1, h3, hl, itemsOf]
      rw [lc_keep rfl (fun d => match d with | .str c => !okCell c | _ => true) _ (fun d hd => ?_) (by simp [wipeD])]
      · have e : (r.map D.str).filter (fun d => match d with | .str c => !okCell c | _ => true) = (r.filter fun c => !okCell c).map D.str := by
          rw [List.filter_map]; rfl
        simp only [R.bind_ok, e]
        rw [eq_nilD (pls_strs _) (Nat.le_trans (dps_strs _) (by decide))]
        simp only [R.bind_ok, sOf_ok, List.map_eq_nil_iff]
        congr 3
        rw [okRow, decide_eq_true h, decide_eq_true h2, Bool.true_and, Bool.true_and, Bool.eq_iff_iff]
        simp [List.filter_eq_nil_iff]
      · obtain ⟨c, _, rfl⟩ := List.mem_map.mp hd
        simp [wipeD, is_cell_str]
    · have h3 : ¬ (r.length : Int) ≤ 6 := by omega
      simp [h1, h3, h2, okRow]
  · have h1 : ¬ (1 : Int) ≤ r.length := by omega
    simp [h1, h, okRow]
def m_need_page : FV := funD 3 (d_need_page m_is_row)
theorem need_page_ok {p : Page} {d : D} {w : List (Nat × List D)} {st : Store} (h : listOf st d = some (encP p, w)) (hp : okPage p = true) : m_need_page [d] st = .ok (.non, st) := by
  unfold m_need_page funD d_need_page
  simp only [okPage, Bool.and_eq_true, decide_eq_true_eq, List.all_eq_true] at hp
  obtain ⟨⟨h1, h2⟩, h3⟩ := hp
  have ne : encP p ≠ [] := fun z => by rw [← encP_len, z] at h1; simp at h1
  simp [ty_list h, subTy, eq_list h, eq_nilD (pls_encP p) (Nat.le_trans (dps_encP p) (by decide)), ne, h]
  generalize hf : forGo _ _ _ _ _ _ = r
  obtain ⟨e, s, rfl, rfl, e2⟩ := for_at hf (fun i env st' => st' = st ∧ ∃ a b, env = [some d, a, b]) ⟨rfl, _, _, rfl⟩ (fun i env st' _ hI => by rw [hI.1]; exact still_list h) (fun i x env st' hi hI => by
      obtain ⟨rfl, a, b, rfl⟩ := hI
      obtain ⟨y, hy, rfl⟩ := pairUp_at hi
      unfold encP at hy
      rw [List.getElem?_map] at hy
      cases q : p[i]? with
      | none => rw [q] at hy; cases hy
      | some r =>
        rw [q] at hy
        cases hy
        have hr := h3 r (List.mem_of_getElem? q)
        have hi := (List.getElem?_eq_some_iff.mp q).1
        have hi2 : ¬ (30 : Int) ≤ i := by omega
        simp [geG, hi2, is_row_tup, hr])
  rfl
end Dl
namespace Dl
open PySem L2
/-- the box stands first in the store -/
structure Box where
  ns : List Int
  s : Int
def Bx (b : Box) (rest : Store) : Store := .lst (b.ns.map .int) :: .lst [.ref 0, .int b.s] :: rest
@[simp] theorem Bx_len (b : Box) (rest : Store) : (Bx b rest).length = rest.length + 2 := rfl
@[simp] theorem Bx_app (b : Box) (rest more : Store) : Bx b rest ++ more = Bx b (rest ++ more) := rfl
@[simp high] theorem Bx_get (b : Box) (rest : Store) (k : Nat) : (Bx b rest)[k + 2]? = rest[k]? := by simp [Bx]
@[simp] theorem Bx_set (b : Box) (rest : Store) (k : Nat) (o : Ob) : (Bx b rest).set (k + 2) o = Bx b (rest.set k o) := by simp [Bx]
/-- what is taken, and the box behind -/
def tk (b : Box) (n : Int) : Int × Box := match b.ns with
  | [] => (b.s * 48271 % 2147483647 / 7 % n, ⟨[], b.s * 48271 % 2147483647⟩)
  | x :: ns => (x % n, if x / n = 0 ∨ x / n = -1 then ⟨ns, b.s⟩ else ⟨x / n :: ns, b.s⟩)
theorem tk_lo (b : Box) {n : Int} (h : 0 < n) : 0 ≤ (tk b n).1 := by
  obtain ⟨ns, s⟩ := b
  cases ns <;> exact Int.emod_nonneg _ (by omega)
theorem tk_hi (b : Box) {n : Int} (h : 0 < n) : (tk b n).1 < n := by
  obtain ⟨ns, s⟩ := b
  cases ns <;> exact Int.emod_lt_of_pos _ h
@[simp] theorem atI_0 {A : Type} (a : A) (l : List A) : atI (a :: l) 0 = some a := by
  have : (0 : Int) < ↑(l.length + 1) := by omega
  simp [atI, ixN, this]
@[simp] theorem atI_1 {A : Type} (a b : A) (l : List A) : atI (a :: b :: l) 1 = some b := by
  have : (1 : Int) < (l.length : Int) + 1 + 1 := by omega
  simp [atI, ixN, this]
theorem atI_nat {A : Type} (l : List A) (i : Nat) : atI l (i : Int) = l[i]? := by
  by_cases h : i < l.length
  · have : (i : Int) < l.length := by omega
    simp [atI, ixN, h]
  · have : ¬ (i : Int) < l.length := by omega
    simp [atI, ixN, h]
theorem atI_int {A : Type} (l : List A) (i : Int) (h0 : 0 ≤ i) : atI l i = l[i.toNat]? := by
  have := atI_nat l i.toNat
  rwa [Int.toNat_of_nonneg h0] at this
theorem atI_last {A : Type} (l : List A) (a : A) : atI (l ++ [a]) (-1) = some a := by
  have h : -(((l ++ [a]).length : Nat) : Int) ≤ -1 := by simp; omega
  have h1 : ¬ (0 : Int) ≤ -1 := by decide
  simp only [atI, ixN, if_neg h1, if_pos h]
  have : (-1 + (((l ++ [a]).length : Nat) : Int)).toNat = l.length := by simp; omega
  rw [Option.bind_some, this]
  simp
theorem eq_intsR {st : Store} {k : Nat} {ns : List Int} (h : st[k]? = some (.lst (ns.map .int))) : eqG false st (.ref k) (.lst []) = .ok (.bl (decide (ns = [])), st) := by
  rw [eqG_refL h, eq_nilD (pls_ints _) (Nat.le_trans (dps_ints _) (by decide))]
  simp
def m_law_begun : FV := funD 3 d_law_begun
def m_law_take : FV := funD 3 d_law_take
theorem begun_ok (ns : List Int) : ∃ b, m_law_begun [.scr ns] [] = .ok (.ref 1, Bx b []) := by
  unfold m_law_begun funD d_law_begun
  simp [itemsOf]
  generalize hf : forGo _ _ _ _ _ _ = r
  obtain ⟨e, s, rfl, rfl, i, v, rfl⟩ := for_at hf (fun i env st' => st' = [] ∧ ∃ i v, env = [some (.scr ns), some (.int i), v]) ⟨rfl, 0, none, rfl⟩ (fun i env st' _ hI => rfl) (fun i x env st' hi hI => by
    obtain ⟨rfl, a, b, rfl⟩ := hI
    rw [List.getElem?_map] at hi
    cases q : ns[i]? with
    | none => rw [q] at hi; cases hi
    | some r =>
      rw [q] at hi
      cases hi
      simp [mulG, addG, modG])
  have h3 : ∀ b : Bool, -18446744073709551616 < (if b = true then (1 : Int) else 0) ∧ (if b = true then (1 : Int) else 0) < 18446744073709551616 := fun b => by cases b <;> decide
  simp [listG, lenG, gtG, intG, mulG, newL]
  by_cases hb : (2 : Int) < ns.length
  · exact ⟨⟨ns, _⟩, by simp [hb, Bx]; rfl⟩
  · exact ⟨⟨ns, _⟩, by simp [hb, Bx]; rfl⟩
theorem take_eq (b : Box) (rest : Store) (n : Int) (h : 0 < n) (hn : n < 18446744073709551616) : m_law_take [.ref 1, .int n] (Bx b rest) = .ok (.int (tk b n).1, Bx (tk b n).2 rest) := by
  unfold m_law_take funD d_law_take
  obtain ⟨ns, s⟩ := b
  cases ns with
  | nil =>
    have e := eq_intsR (st := Bx ⟨[], s⟩ rest) (k := 0) (ns := []) rfl
    simp only [Bx, List.map_nil] at e
    simp [Bx, ixG, lstOf, e, mulG, modG, divG, setLG, ixN, h, tk]
  | cons x ns =>
    have e := eq_intsR (st := Bx ⟨x :: ns, s⟩ rest) (k := 0) (ns := x :: ns) rfl
    simp only [Bx, List.map_cons] at e
    have hl : (0 : Int) < (ns.length : Int) + 1 := by omega
    by_cases h1 : x / n = 0
    · simp [Bx, ixG, lstOf, e, mulG, modG, divG, setLG, ixN, h, hl, hn, h1, tyM, popG, tk]
    · by_cases h2 : x / n = -1
      · simp [Bx, ixG, lstOf, e, mulG, modG, divG, setLG, ixN, h, hl, hn, h2, tyM, popG, tk]
      · simp [Bx, ixG, lstOf, e, mulG, modG, divG, setLG, ixN, h, hl, hn, h1, h2, tk]
def l_law_alike : Nat → FV
  | 0 => fvBad
  | n + 1 => funD 3 (d_law_alike (l_law_alike n))
def m_law_alike : FV := l_law_alike 8
theorem alike_str (n : Nat) (s t : List Nat) (st : Store) : l_law_alike (n + 1) [.str s, .str t] st = .ok (.bl (decide (s = t)), st) := by
  rw [l_law_alike]
  unfold funD d_law_alike
  simp [isG, tyOf, subTy]
theorem alike_int (n : Nat) (s t : Int) (st : Store) : l_law_alike (n + 1) [.int s, .int t] st = .ok (.bl (decide (s = t)), st) := by
  rw [l_law_alike]
  unfold funD d_law_alike
  simp [isG, tyOf, subTy]
theorem atI_mem {A : Type} {l : List A} {i : Int} (h0 : 0 ≤ i) (h1 : i < l.length) : ∃ x, atI l i = some x ∧ x ∈ l := by
  rw [atI_int l i h0]
  have : i.toNat < l.length := by omega
  exact ⟨l[i.toNat], by simp [this], by simp⟩
def m_law_sign : FV := funD 2 (d_law_sign m_law_take)
def everySign : List Nat := [32, 33, 34, 35, 36, 38, 39, 40, 41, 42, 43, 44, 45, 46, 47, 48, 49, 50, 51, 52, 53, 54, 55, 56, 57, 58, 59, 60, 61, 62, 63, 64, 65, 66, 67, 68, 69, 70, 71, 72, 73, 74, 75, 76, 77, 78, 79, 80, 81, 82, 83, 84, 85, 86, 87, 88, 89, 90, 91, 92, 93, 94, 95, 96, 97, 98, 99, 100, 101, 102, 103, 104, 105, 106, 107, 108, 109, 110, 111, 112, 113, 114, 115, 116, 117, 118, 119, 120, 121, 122, 123, 124, 125, 126]
theorem sign_ok (b : Box) (rest : Store) : ∃ c b', okSign c = true ∧ m_law_sign [.ref 1] (Bx b rest) = .ok (.str [c], Bx b' rest) := by
  obtain ⟨c, e, m⟩ := atI_mem (l := everySign) (tk_lo b (n := 94) (by decide)) (tk_hi b (n := 94) (by decide))
  refine ⟨c, (tk b 94).2, ?_, ?_⟩
  · have : ∀ c ∈ everySign, okSign c = true := by decide
    exact this c m
  · unfold m_law_sign funD d_law_sign
    unfold everySign at e
    simp [take_eq, ixG, e]
theorem joinL_ones (cs : List Nat) : TL.joinL [] (cs.map fun c => [c]) = cs := by
  induction cs with
  | nil => rfl
  | cons c cs ih =>
    cases cs with
    | nil => rfl
    | cons d cs =>
      simp only [List.map_cons] at ih ⊢
      rw [TL.joinL, ih]; rfl
theorem join_ones (cs : List Nat) (st : Store) (h : cs.length ≤ LIM) : joinG st (.str []) [.lst ((cs.map fun c => [c]).map D.str)] = .ok (.str cs, st) := by
  unfold joinG
  simp only [lstOf, Option.bind_some, strsOf_map]
  have e : ((cs.map fun c => [c]).map List.length).sum = cs.length := by
    induction cs with
    | nil => rfl
    | cons c cs ih => simp_all; omega
  rw [e, joinL_ones]
  simp [h]
theorem join_ones' (cs : List Nat) (st : Store) (h : cs.length ≤ LIM) : joinG st (.str []) [.lst (cs.map (D.str ∘ fun c => [c]))] = .ok (.str cs, st) := by
  rw [← List.map_map]; exact join_ones cs st h
end Dl
namespace Dl
open PySem L2
theorem ints_get {n : Nat} {i : Nat} {x : D} (h : (intsD 0 n)[i]? = some x) : i < n ∧ x = .int i := by
  have hi := (List.getElem?_eq_some_iff.mp h).1
  rw [intsD_len] at hi
  rw [ints_at 0 n i hi] at h
  cases h
  exact ⟨hi, by simp⟩
end Dl
namespace Dl
open PySem L2
def txtR (r : Row) : List Nat := TL.joinL [9] r
def txtP (p : Page) : List Nat := TL.joinL [10] (p.map txtR)
theorem sum_le {k : Nat} : ∀ {ss : List (List Nat)}, (∀ s ∈ ss, s.length ≤ k) → (ss.map List.length).sum ≤ ss.length * k
  | [], _ => by simp
  | s :: ss, h => by
    have h1 := h s (by simp)
    have h2 := sum_le (ss := ss) fun t ht => h t (by simp [ht])
    simp [Nat.add_mul]; omega
theorem okRow_parts {r : Row} (h : okRow r = true) : 1 ≤ r.length ∧ r.length ≤ 6 ∧ ∀ c ∈ r, okCell c = true := by
  simp only [okRow, Bool.and_eq_true, decide_eq_true_eq, List.all_eq_true] at h
  exact ⟨h.1.1, h.1.2, h.2⟩
theorem okPage_parts {p : Page} (h : okPage p = true) : 1 ≤ p.length ∧ p.length ≤ 30 ∧ ∀ r ∈ p, okRow r = true := by
  simp only [okPage, Bool.and_eq_true, decide_eq_true_eq, List.all_eq_true] at h
  exact ⟨h.1.1, h.1.2, h.2⟩
theorem okCell_parts {c : List Nat} (h : okCell c = true) : c.length ≤ 10 ∧ ∀ x ∈ c, 32 ≤ x ∧ x ≤ 126 ∧ x ≠ 37 := by
  simp only [okCell, Bool.and_eq_true, decide_eq_true_eq, List.all_eq_true] at h
  refine ⟨h.1, fun x hx => ?_⟩
  have := h.2 x hx
  simp only [okSign, Bool.and_eq_true, decide_eq_true_eq] at this
  omega
theorem row_join (r : Row) (h : okRow r = true) : (r.map List.length).sum + r.length * ([9] : List Nat).length ≤ 66 := by
  obtain ⟨h1, h2, h3⟩ := okRow_parts h
  have := sum_le (k := 10) fun c hc => (okCell_parts (h3 c hc)).1
  simp; omega
theorem txtR_len (r : Row) (h : okRow r = true) : (txtR r).length ≤ 66 := Nat.le_trans (joinL_len _ _) (row_join r h)
theorem page_join (p : Page) (h : okPage p = true) : ((p.map txtR).map List.length).sum + (p.map txtR).length * ([10] : List Nat).length ≤ 2010 := by
  obtain ⟨h1, h2, h3⟩ := okPage_parts h
  have := sum_le (k := 66) (ss := p.map txtR) fun c hc => by
    obtain ⟨r, hr, rfl⟩ := List.mem_map.mp hc
    exact txtR_len r (h3 r hr)
  simp at this ⊢; omega
theorem txtP_len (p : Page) (h : okPage p = true) : (txtP p).length ≤ 2010 := Nat.le_trans (joinL_len _ _) (page_join p h)
theorem joinL_mem {S : List Nat} {x : Nat} : ∀ {ss : List (List Nat)}, x ∈ TL.joinL S ss → x ∈ S ∨ ∃ s ∈ ss, x ∈ s
  | [], h => by simp [TL.joinL] at h
  | [p], h => .inr ⟨p, by simp, by simpa [TL.joinL] using h⟩
  | p :: q :: r, h => by
    rw [TL.joinL] at h
    rcases List.mem_append.mp h with h | h
    · exact .inr ⟨p, by simp, h⟩
    · rcases List.mem_append.mp h with h | h
      · exact .inl h
      · rcases joinL_mem h with h | ⟨s, h1, h2⟩
        · exact .inl h
        · exact .inr ⟨s, by simp at h1 ⊢; exact .inr h1, h2⟩
def m_written : FV := funD 2 (d_written m_need_page)
theorem take_snoc {A : Type} {l : List A} {i : Nat} {a : A} (h : l[i]? = some a) : l.take (i + 1) = l.take i ++ [a] := by
  rw [List.take_add_one, h]; rfl
theorem written_ok {p : Page} {d : D} {w : List (Nat × List D)} {st : Store} (h : listOf st d = some (encP p, w)) (hp : okPage p = true) : m_written [d] st = .ok (.str (txtP p), st) := by
  unfold m_written funD d_written
  obtain ⟨h1, h2, h3⟩ := okPage_parts hp
  have hl : p.length ≤ LIM := le_LIM (by omega)
  simp [need_page_ok h hp, items_list h, hl]
  generalize hf : lcGo _ _ _ _ _ _ _ _ = r
  obtain ⟨acc, s, rfl, rfl, rfl⟩ := lc_at hf (fun i acc st' => st' = st ∧ acc = ((p.take i).map txtR).map D.str) ⟨rfl, by simp⟩ (fun i acc st' _ hI => by rw [hI.1]; exact still_list h) (fun i x acc st' hi ⟨e1, e2⟩ => by
    subst e1 e2
    unfold encP at hi
    rw [List.getElem?_map] at hi
    cases q : p[i]? with
    | none => rw [q] at hi; cases hi
    | some r =>
      rw [q] at hi
      cases hi
      have hr := h3 r (List.mem_of_getElem? q)
      have hj : (r.map List.length).sum + r.length ≤ LIM := le_LIM (by have := row_join r hr; simp at this; omega)
      refine ⟨_, rfl, ?_⟩
      simp [tyM, encR, listG, joinG, lstOf, hj, take_snoc q, txtR])
  have hj : ((p.map txtR).map List.length).sum + (p.map txtR).length ≤ LIM := le_LIM (by have := page_join p hp; simp at this ⊢; omega)
  have e : (encP p).length = p.length := encP_len p
  simp only [e, List.take_length]
  have e2 : strsOf (List.map D.str (List.map txtR p)) = some (p.map txtR) := strsOf_map _
  simp only [R.bind_ok, r_newF, bind_m, sOf_m, tyM, joinG, lstOf, Option.bind_some, e2, if_true, txtP, hj]
  simp only [List.map_map, List.length_map] at hj
  simp [hj]
theorem ix_list {st : Store} {d : D} {w : Wk} (h : listOf st d = some w) (i : Int) : ixG st d (.int i) = R.of ((atI w.1 i).map fun x => (x, st)) := by
  have e := lst_list h
  unfold listOf at h
  split at h
  · simp [ixG, e]
  · simp [ixG, e]
  · cases h
theorem is_list {st : Store} {d : D} {w : Wk} (h : listOf st d = some w) : isG false st d .non = .ok (.bl false, st) := by
  unfold listOf at h
  split at h
  · rfl
  · rfl
  · cases h
end Dl
namespace Dl
open PySem L2
def All2 {A B : Type} (R : A → B → Prop) : List A → List B → Prop
  | [], [] => True
  | a :: as, b :: bs => R a b ∧ All2 R as bs
  | _, _ => False
theorem All2.len {A B : Type} {R : A → B → Prop} : ∀ {as : List A} {bs : List B}, All2 R as bs → as.length = bs.length
  | [], [], _ => rfl
  | a :: as, b :: bs, h => by simp [All2.len h.2]
  | [], _ :: _, h => h.elim
  | _ :: _, [], h => h.elim
theorem All2.imp {A B : Type} {R S : A → B → Prop} (k : ∀ a b, R a b → S a b) : ∀ {as : List A} {bs : List B}, All2 R as bs → All2 S as bs
  | [], [], _ => trivial
  | a :: as, b :: bs, h => ⟨k _ _ h.1, All2.imp k h.2⟩
  | [], _ :: _, h => h.elim
  | _ :: _, [], h => h.elim
theorem All2.app {A B : Type} {R : A → B → Prop} : ∀ {as as' : List A} {bs bs' : List B}, All2 R as bs → All2 R as' bs' → All2 R (as ++ as') (bs ++ bs')
  | [], _, [], _, _, k => k
  | a :: as, _, b :: bs, _, h, k => ⟨h.1, All2.app h.2 k⟩
  | [], _, _ :: _, _, h, _ => h.elim
  | _ :: _, _, [], _, h, _ => h.elim
theorem All2.get {A B : Type} {R : A → B → Prop} : ∀ {as : List A} {bs : List B} {i : Nat} {a : A}, All2 R as bs → as[i]? = some a → ∃ b, bs[i]? = some b ∧ R a b
  | a :: as, b :: bs, 0, x, h, e => by simp at e; subst e; exact ⟨b, rfl, h.1⟩
  | a :: as, b :: bs, i + 1, x, h, e => by simpa using All2.get h.2 (by simpa using e)
  | [], [], _, _, _, e => by simp at e
  | [], _ :: _, _, _, h, _ => h.elim
  | _ :: _, [], _, _, h, _ => h.elim
mutual
/-- d reads as the plain x -/
def Rd (st : Store) : D → D → Prop
  | d, .tup xs => ∃ ds, d = .tup ds ∧ Rds st ds xs
  | d, .lst xs => ∃ ds w, listOf st d = some (ds, w) ∧ Rds st ds xs
  | d, .non => d = .non
  | d, .bl b => d = .bl b
  | d, .int i => d = .int i
  | d, .str s => d = .str s
  | _, .ref _ => False
  | _, .scr _ => False
  | _, .exn _ _ => False
def Rds (st : Store) : List D → List D → Prop
  | [], [] => True
  | d :: ds, x :: xs => Rd st d x ∧ Rds st ds xs
  | _, _ => False
end
theorem rds_len {st : Store} : ∀ {ds xs : List D}, Rds st ds xs → ds.length = xs.length
  | [], [], _ => rfl
  | d :: ds, x :: xs, h => by
    rw [Rds] at h
    simp [rds_len h.2]
  | [], _ :: _, h => by simp [Rds] at h
  | _ :: _, [], h => by simp [Rds] at h
theorem rds_get {st : Store} : ∀ {ds xs : List D} {i : Nat} {x : D}, Rds st ds xs → xs[i]? = some x → ∃ d, ds[i]? = some d ∧ Rd st d x
  | d :: ds, x :: xs, 0, y, h, e => by
    rw [Rds] at h
    simp at e; subst e; exact ⟨d, rfl, h.1⟩
  | d :: ds, x :: xs, i + 1, y, h, e => by
    rw [Rds] at h
    simpa using rds_get h.2 (by simpa using e)
  | [], [], _, _, _, e => by simp at e
  | [], _ :: _, _, _, h, _ => by simp [Rds] at h
  | _ :: _, [], _, _, h, _ => by simp [Rds] at h
/-- what stays of the store -/
def Stays (st st' : Store) : Prop := ∀ (k : Nat) (ds : List D), st[k]? = some (.lst ds) → st'[k]? = some (.lst ds)
theorem listOf_stays {st st' : Store} (s : Stays st st') {d : D} {w : Wk} (h : listOf st d = some w) : listOf st' d = some w := by
  unfold listOf at h
  split at h
  · exact h
  · split at h
    · rename_i n ds e
      cases h
      have e' := s _ _ e
      simp [listOf, e']
    · cases h
  · cases h
theorem Stays.app (st more : Store) : Stays st (st ++ more) := fun k ds e => by
  have h := (List.getElem?_eq_some_iff.mp e).1
  rw [List.getElem?_append_left h]; exact e
theorem Stays.refl (st : Store) : Stays st st := fun _ _ e => e
theorem Stays.trans {a b c : Store} (x : Stays a b) (y : Stays b c) : Stays a c := fun k ds e => y k ds (x k ds e)
mutual
/-- plain, truth values too -/
def D.pk : D → Bool
  | .tup ds => D.pks ds
  | .lst ds => D.pks ds
  | .ref _ => false
  | .scr _ => false
  | .exn _ _ => false
  | _ => true
def D.pks : List D → Bool
  | [] => true
  | d :: ds => D.pk d && D.pks ds
end
mutual
theorem rd_self {st : Store} : ∀ {x : D}, D.pk x = true → Rd st x x
  | .tup xs, h => by
    rw [D.pk] at h
    rw [Rd]; exact ⟨xs, rfl, rds_self h⟩
  | .lst xs, h => by
    rw [D.pk] at h
    rw [Rd]; exact ⟨xs, [], rfl, rds_self h⟩
  | .non, _ => by rw [Rd]
  | .bl _, _ => by rw [Rd]
  | .int _, _ => by rw [Rd]
  | .str _, _ => by rw [Rd]
  | .ref _, h => by simp [D.pk] at h
  | .scr _, h => by simp [D.pk] at h
  | .exn _ _, h => by simp [D.pk] at h
theorem rds_self {st : Store} : ∀ {xs : List D}, D.pks xs = true → Rds st xs xs
  | [], _ => by rw [Rds]; trivial
  | x :: xs, h => by
    simp only [D.pks, Bool.and_eq_true] at h
    rw [Rds]
    exact ⟨rd_self h.1, rds_self h.2⟩
end
theorem alike_list2 {n : Nat} {f g : D} {ds es : List D} {w w' : List (Nat × List D)} {st : Store} (hf : listOf st f = some (ds, w)) (hg : listOf st g = some (es, w')) (hl : es.length ≤ 1000000) (he : ds.length = es.length)
    (h : ∀ (i : Nat) (d e : D), ds[i]? = some d → es[i]? = some e → l_law_alike n [d, e] st = .ok (.bl true, st)) : l_law_alike (n + 1) [f, g] st = .ok (.bl true, st) := by
  rw [l_law_alike]
  unfold funD d_law_alike
  have m1 : -1000000 ≤ (es.length : Int) ∧ (es.length : Int) ≤ 1000000 := by omega
  simp [is_list hg, ty_list hg, ty_list hf, subTy, len_list hf, len_list hg, m1, he]
  generalize q : forGo _ _ _ _ _ _ = r
  obtain ⟨e, s, rfl, rfl, a, rfl⟩ := for_at q (fun i env st' => st' = st ∧ ∃ a, env = [some f, some g, a]) ⟨rfl, _, rfl⟩ (fun _ _ _ _ _ => rfl) (fun i x env st' hi ⟨e1, a, e2⟩ => by
    subst e1 e2
    obtain ⟨hi, rfl⟩ := ints_get hi
    have hd : ds[i]? = some ds[i] := by simp
    have hee : es[i]? = some es[i] := by simp
    have z := h i _ _ hd hee
    simp [ix_list hf, ix_list hg, atI_nat, hd, hee, z])
  simp
theorem alike_tup2 {n : Nat} {ds es : List D} {st : Store} (hl : es.length ≤ 1000000) (he : ds.length = es.length)
    (h : ∀ (i : Nat) (d e : D), ds[i]? = some d → es[i]? = some e → l_law_alike n [d, e] st = .ok (.bl true, st)) : l_law_alike (n + 1) [.tup ds, .tup es] st = .ok (.bl true, st) := by
  rw [l_law_alike]
  unfold funD d_law_alike
  have m1 : -1000000 ≤ (es.length : Int) ∧ (es.length : Int) ≤ 1000000 := by omega
  simp [isG, tyOf, subTy, lenG, m1, he]
  generalize q : forGo _ _ _ _ _ _ = r
  obtain ⟨e, s, rfl, rfl, a, rfl⟩ := for_at q (fun i env st' => st' = st ∧ ∃ a, env = [some (.tup ds), some (.tup es), a]) ⟨rfl, _, rfl⟩ (fun _ _ _ _ _ => rfl) (fun i x env st' hi ⟨e1, a, e2⟩ => by
    subst e1 e2
    obtain ⟨hi, rfl⟩ := ints_get hi
    have hd : ds[i]? = some ds[i] := by simp
    have hee : es[i]? = some es[i] := by simp
    have z := h i _ _ hd hee
    simp [ixG, atI_nat, hd, hee, z])
  simp
mutual
/-- no list of it is too long -/
def D.sm : D → Bool
  | .tup ds => decide (ds.length ≤ 1000000) && D.sms ds
  | .lst ds => decide (ds.length ≤ 1000000) && D.sms ds
  | _ => true
def D.sms : List D → Bool
  | [] => true
  | d :: ds => D.sm d && D.sms ds
end
theorem sms_get : ∀ {ds : List D} {i : Nat} {d : D}, D.sms ds = true → ds[i]? = some d → D.sm d = true
  | d :: ds, 0, x, h, e => by
    simp only [D.sms, Bool.and_eq_true] at h
    simp at e; subst e; exact h.1
  | d :: ds, i + 1, x, h, e => by
    simp only [D.sms, Bool.and_eq_true] at h
    exact sms_get (i := i) h.2 (by simpa using e)
  | [], _, _, _, e => by simp at e
theorem dps_get : ∀ {ds : List D} {i : Nat} {d : D}, ds[i]? = some d → D.dp d ≤ D.dps ds := fun {ds i d} e => dps_le.mp (Nat.le_refl _) d (List.mem_of_getElem? e)
theorem alike_rd {st : Store} : ∀ (n : Nat) (x f g : D), Rd st f x → Rd st g x → D.sm x = true → D.dp x ≤ n → l_law_alike n [f, g] st = .ok (.bl true, st)
  | 0, x, _, _, _, _, _, h => by cases x <;> simp [D.dp] at h
  | n + 1, .non, f, g, hf, hg, _, _ => by
    rw [Rd] at hf hg
    subst hf hg
    rw [l_law_alike]
    unfold funD d_law_alike
    simp [isG]
  | n + 1, .bl b, f, g, hf, hg, _, _ => by
    rw [Rd] at hf hg
    subst hf hg
    rw [l_law_alike]
    unfold funD d_law_alike
    simp [isG, tyOf, subTy]
  | n + 1, .int i, f, g, hf, hg, _, _ => by
    rw [Rd] at hf hg
    subst hf hg
    rw [alike_int]; simp
  | n + 1, .str s, f, g, hf, hg, _, _ => by
    rw [Rd] at hf hg
    subst hf hg
    rw [alike_str]; simp
  | n + 1, .tup xs, f, g, hf, hg, hs, hd => by
    rw [Rd] at hf hg
    obtain ⟨ds, rfl, kf⟩ := hf
    obtain ⟨es, rfl, kg⟩ := hg
    simp only [D.sm, Bool.and_eq_true, decide_eq_true_eq] at hs
    rw [D.dp] at hd
    have l1 := rds_len kf
    have l2 := rds_len kg
    refine alike_tup2 (by omega) (by omega) fun i d e e1 e2 => ?_
    have hi : i < xs.length := by
      have := (List.getElem?_eq_some_iff.mp e1).1
      omega
    have ex : xs[i]? = some xs[i] := by simp
    obtain ⟨d', q1, r1⟩ := rds_get kf ex
    obtain ⟨e', q2, r2⟩ := rds_get kg ex
    rw [q1] at e1; cases e1
    rw [q2] at e2; cases e2
    have := dps_get ex
    exact alike_rd n _ _ _ r1 r2 (sms_get hs.2 ex) (by omega)
  | n + 1, .lst xs, f, g, hf, hg, hs, hd => by
    rw [Rd] at hf hg
    obtain ⟨ds, w, hf, kf⟩ := hf
    obtain ⟨es, w', hg, kg⟩ := hg
    simp only [D.sm, Bool.and_eq_true, decide_eq_true_eq] at hs
    rw [D.dp] at hd
    have l1 := rds_len kf
    have l2 := rds_len kg
    refine alike_list2 hf hg (by omega) (by omega) fun i d e e1 e2 => ?_
    have hi : i < xs.length := by
      have := (List.getElem?_eq_some_iff.mp e1).1
      omega
    have ex : xs[i]? = some xs[i] := by simp
    obtain ⟨d', q1, r1⟩ := rds_get kf ex
    obtain ⟨e', q2, r2⟩ := rds_get kg ex
    rw [q1] at e1; cases e1
    rw [q2] at e2; cases e2
    have := dps_get ex
    exact alike_rd n _ _ _ r1 r2 (sms_get hs.2 ex) (by omega)
  | n + 1, .ref _, f, g, hf, _, _, _ => by rw [Rd] at hf; exact hf.elim
  | n + 1, .scr _, f, g, hf, _, _, _ => by rw [Rd] at hf; exact hf.elim
  | n + 1, .exn _ _, f, g, hf, _, _, _ => by rw [Rd] at hf; exact hf.elim
end Dl
namespace Dl
open PySem L2
/-- Mark_init: 4 slots, 4 parameters -/
def d_Mark_init : SV := sCons (sFldD 15 "name" (eV 0) (eV 1)) (sCons (sFldD 15 "sign" (eV 0) (eV 2)) (sCons (sFldD 15 "born" (eV 0) (eV 3)) (sFldD 15 "cuts" (eV 0) (eLst true (aNil)))))
/-- Table_init: 7 slots, 4 parameters -/
def d_Table_init (m_need_page : FV) (m_need_style : FV) (m_is_number : FV) (m_written : FV) (m_Mark_init : FV) : SV := sCons (sExpr (eCall 1 m_need_page (aCons (eV 1) (aNil)))) (sCons (sExpr (eCall 1 m_need_style (aCons (eV 2) (aNil)))) (sCons (sIf (tNotD (tv (eCall 3 m_is_number (aCons (eV 3) (aCons (eC (.int 1)) (aCons (eC (.int 4)) (aNil))))))) (sBad) (sNext)) (sCons (sFldD 16 "style" (eV 0) (eV 2)) (sCons (sFldD 16 "marks" (eV 0) (eLc false (iEnS (aCons (eCall 1 m_written (aCons (eV 1) (aNil))) (aNil))) [4, 5] (.two 4 5) (tYesD) (eMake 15 4 m_Mark_init (aCons (eV 4) (aCons (eV 5) (aCons (eC .non) (aNil))))))) (sCons (sFldD 16 "many" (eV 0) (eB lenG (aCons (eFld 16 "marks" (eV 0)) (aNil)))) (sCons (sFldD 16 "stood" (eV 0) (eLc true (iR1 (aCons (eV 3) (aNil))) [6] (.one 6) (tYesD) (eIf (tv (eOp gtG (eFld 16 "many" (eV 0)) (eC (.int 0)))) (eC (.int 0)) (eC .non)))) (sCons (sFldD 16 "deeds" (eV 0) (eLst true (aNil))) (sCons (sFldD 16 "lasting" (eV 0) (eLst true (aNil))) (sFldD 16 "undone" (eV 0) (eLc true (iR1 (aCons (eV 3) (aNil))) [6] (.one 6) (tYesD) (eLst true (aNil))))))))))))
/-- Table_need_hand: 2 slots, 2 parameters -/
def d_Table_need_hand (m_is_number : FV) : SV := sIf (tNotD (tv (eCall 3 m_is_number (aCons (eV 1) (aCons (eC (.int 0)) (aCons (eOp subG (eB lenG (aCons (eFld 16 "stood" (eV 0)) (aNil))) (eC (.int 1))) (aNil))))))) (sRaise 6) (sNext)
/-- Table_is_there: 3 slots, 2 parameters -/
def d_Table_is_there : SV := sCons (sIf (tAndD (tv (eOp (isG true) (eFld 15 "born" (eV 1)) (eC .non))) (tNotD (tv (eOp ixG (eFld 16 "lasting" (eV 0)) (eFld 15 "born" (eV 1)))))) (sRet (eC (.bl false))) (sNext)) (sRet (eNot (eB anyG (aCons (eLc false (iSeq (eFld 15 "cuts" (eV 1))) [2] (.one 2) (tYesD) (eOp ixG (eFld 16 "lasting" (eV 0)) (eV 2))) (aNil)))))
/-- Table_lines: 4 slots, 1 parameters -/
def d_Table_lines (m_Table_is_there : FV) : SV := sCons (sAsg (eMt "str" (joinG) (eC (.str [])) (aCons (eLc false (iSeq (eFld 16 "marks" (eV 0))) [2] (.one 2) (tv (eMeth 16 "is_there" 2 m_Table_is_there (eV 0) (aCons (eV 2) (aNil)))) (eFld 15 "sign" (eV 2))) (aNil))) (gN 1)) (sRet (eLc true (iSeq (eMt "str" (splitG false) (eV 1) (aCons (eC (.str [10])) (aNil)))) [3] (.one 3) (tYesD) (eB tupG (aCons (eMt "str" (splitG false) (eV 3) (aCons (eC (.str [9])) (aNil))) (aNil)))))
/-- Table_is_page: 3 slots, 1 parameters -/
def d_Table_is_page (m_Table_lines : FV) (m_is_row : FV) : SV := sCons (sAsg (eMeth 16 "lines" 1 m_Table_lines (eV 0) aNil) (gN 1)) (sRet (eAnd (eOp leG (eB lenG (aCons (eV 1) (aNil))) (eC (.int 30))) (eNot (eB anyG (aCons (eLc false (iSeq (eV 1)) [2] (.one 2) (tYesD) (eNot (eCall 1 m_is_row (aCons (eV 2) (aNil))))) (aNil))))))
/-- Table_number_of: 4 slots, 2 parameters -/
def d_Table_number_of : SV := sCons (sFor (iEn (aCons (eFld 16 "marks" (eV 0)) (aNil))) (gTp 2 (gsCons (gN 2) (gsCons (gN 3) (gsNil)))) (sIf (tv (eOp (eqG false) (eFld 15 "name" (eV 3)) (eOp ixG (eFld 16 "stood" (eV 0)) (eV 1)))) (sRet (eV 2)) (sNext))) (sRet (eB lenG (aCons (eFld 16 "marks" (eV 0)) (aNil))))
/-- Table_ahead: 3 slots, 2 parameters -/
def d_Table_ahead (m_Table_number_of : FV) (m_Table_is_there : FV) : SV := sRet (eLc false (iSeq (eSl false (eFld 16 "marks" (eV 0)) (poNone) (poSome (eMeth 16 "number_of" 2 m_Table_number_of (eV 0) (aCons (eV 1) (aNil)))))) [2] (.one 2) (tv (eMeth 16 "is_there" 2 m_Table_is_there (eV 0) (aCons (eV 2) (aNil)))) (eV 2))
/-- Table_go_on: 4 slots, 1 parameters -/
def d_Table_go_on (m_Table_number_of : FV) (m_Table_is_there : FV) : SV := sFor (iR1 (aCons (eB lenG (aCons (eFld 16 "stood" (eV 0)) (aNil))) (aNil))) (gN 1) (sCons (sAsg (eLc false (iSeq (eSl false (eFld 16 "marks" (eV 0)) (poSome (eMeth 16 "number_of" 2 m_Table_number_of (eV 0) (aCons (eV 1) (aNil)))) (poNone))) [3] (.one 3) (tv (eMeth 16 "is_there" 2 m_Table_is_there (eV 0) (aCons (eV 3) (aNil)))) (eFld 15 "name" (eV 3))) (gN 2)) (sAsg (eIf (tv (eOp (eqG true) (eV 2) (eLst false (aNil)))) (eOp ixG (eV 2) (eC (.int 0))) (eC .non)) (gSb (eFld 16 "stood" (eV 0)) (eV 1) setLG)))
/-- Table_note: 3 slots, 3 parameters -/
def d_Table_note : SV := sCons (sExpr (eMt "list" (appendG) (eFld 16 "deeds" (eV 0)) (aCons (eTup (aCons (eV 1) (aCons (eV 2) (aNil)))) (aNil)))) (sExpr (eMt "list" (appendG) (eFld 16 "lasting" (eV 0)) (aCons (eC (.bl true)) (aNil))))
/-- Table_forget: 1 slots, 1 parameters -/
def d_Table_forget : SV := sCons (sExpr (eMt "list" (popG) (eFld 16 "deeds" (eV 0)) aNil)) (sExpr (eMt "list" (popG) (eFld 16 "lasting" (eV 0)) aNil))
/-- Table_rub: 3 slots, 2 parameters -/
def d_Table_rub (m_Table_need_hand : FV) (m_Table_ahead : FV) (m_Table_note : FV) (m_Table_is_page : FV) (m_Table_forget : FV) (m_Table_go_on : FV) : SV := sCons (sExpr (eMeth 16 "need_hand" 2 m_Table_need_hand (eV 0) (aCons (eV 1) (aNil)))) (sCons (sAsg (eMeth 16 "ahead" 2 m_Table_ahead (eV 0) (aCons (eV 1) (aNil))) (gN 2)) (sCons (sIf (tv (eOp eqNilG (eV 2) (eLst false (aNil)))) (sRaise 4) (sNext)) (sCons (sExpr (eMt "list" (appendG) (eFld 15 "cuts" (eOp ixG (eV 2) (eNeg (eC (.int 1))))) (aCons (eB lenG (aCons (eFld 16 "deeds" (eV 0)) (aNil))) (aNil)))) (sCons (sExpr (eMeth 16 "note" 3 m_Table_note (eV 0) (aCons (eV 1) (aCons (eC (.str [])) (aNil))))) (sCons (sIf (tNotD (tv (eMeth 16 "is_page" 1 m_Table_is_page (eV 0) aNil))) (sCons (sExpr (eMt "list" (popG) (eFld 15 "cuts" (eOp ixG (eV 2) (eNeg (eC (.int 1))))) aNil)) (sCons (sExpr (eMeth 16 "forget" 1 m_Table_forget (eV 0) aNil)) (sRaise 7))) (sNext)) (sCons (sAsg (eLst true (aNil)) (gSb (eFld 16 "undone" (eV 0)) (eV 1) setLG)) (sExpr (eMeth 16 "go_on" 1 m_Table_go_on (eV 0) aNil))))))))
/-- Table_turn: 3 slots, 3 parameters -/
def d_Table_turn (m_Table_is_page : FV) (m_Table_go_on : FV) : SV := sCons (sAsg (eV 2) (gSb (eFld 16 "lasting" (eV 0)) (eV 1) setLG)) (sCons (sIf (tNotD (tv (eMeth 16 "is_page" 1 m_Table_is_page (eV 0) aNil))) (sCons (sAsg (eNot (eV 2)) (gSb (eFld 16 "lasting" (eV 0)) (eV 1) setLG)) (sRaise 7)) (sNext)) (sExpr (eMeth 16 "go_on" 1 m_Table_go_on (eV 0) aNil)))
/-- Table_back: 5 slots, 2 parameters -/
def d_Table_back (m_Table_need_hand : FV) (m_Table_turn : FV) : SV := sCons (sExpr (eMeth 16 "need_hand" 2 m_Table_need_hand (eV 0) (aCons (eV 1) (aNil)))) (sCons (sAsg (eLc false (iEn (aCons (eFld 16 "deeds" (eV 0)) (aNil))) [3, 4] (.two 3 4) (tAndD (tv (eOp (eqG false) (eOp ixG (eV 4) (eC (.int 0))) (eV 1))) (tv (eOp ixG (eFld 16 "lasting" (eV 0)) (eV 3)))) (eV 3)) (gN 2)) (sCons (sIf (tv (eOp (eqG false) (eV 2) (eLst false (aNil)))) (sRet (eC (.bl false))) (sNext)) (sCons (sExpr (eMeth 16 "turn" 3 m_Table_turn (eV 0) (aCons (eOp ixG (eV 2) (eNeg (eC (.int 1)))) (aCons (eC (.bl false)) (aNil))))) (sCons (sExpr (eMt "list" (appendG) (eOp ixG (eFld 16 "undone" (eV 0)) (eV 1)) (aCons (eOp ixG (eV 2) (eNeg (eC (.int 1)))) (aNil)))) (sRet (eC (.bl true)))))))
/-- Table_again_k32: 2 slots, 2 parameters -/
def d_Table_again_k32 (m_Table_need_hand : FV) (m_Table_turn : FV) : SV := sCons (sExpr (eMeth 16 "need_hand" 2 m_Table_need_hand (eV 0) (aCons (eV 1) (aNil)))) (sCons (sIf (tv (eOp (eqG false) (eOp ixG (eFld 16 "undone" (eV 0)) (eV 1)) (eLst false (aNil)))) (sRet (eC (.bl false))) (sNext)) (sCons (sExpr (eMeth 16 "turn" 3 m_Table_turn (eV 0) (aCons (eOp ixG (eOp ixG (eFld 16 "undone" (eV 0)) (eV 1)) (eNeg (eC (.int 1)))) (aCons (eC (.bl true)) (aNil))))) (sCons (sExpr (eMt "list" (popG) (eOp ixG (eFld 16 "undone" (eV 0)) (eV 1)) aNil)) (sRet (eC (.bl true))))))
/-- Table_right: 4 slots, 2 parameters -/
def d_Table_right (m_Table_need_hand : FV) (m_Table_number_of : FV) (m_Table_is_there : FV) : SV := sCons (sExpr (eMeth 16 "need_hand" 2 m_Table_need_hand (eV 0) (aCons (eV 1) (aNil)))) (sCons (sIf (tv (eOp (isG false) (eOp ixG (eFld 16 "stood" (eV 0)) (eV 1)) (eC .non))) (sRet (eC (.bl false))) (sNext)) (sCons (sAsg (eLc false (iSeq (eSl false (eFld 16 "marks" (eV 0)) (poSome (eOp (addG false) (eMeth 16 "number_of" 2 m_Table_number_of (eV 0) (aCons (eV 1) (aNil))) (eC (.int 1)))) (poNone))) [3] (.one 3) (tv (eMeth 16 "is_there" 2 m_Table_is_there (eV 0) (aCons (eV 3) (aNil)))) (eFld 15 "name" (eV 3))) (gN 2)) (sCons (sAsg (eIf (tv (eOp (eqG true) (eV 2) (eLst false (aNil)))) (eOp ixG (eV 2) (eC (.int 0))) (eC .non)) (gSb (eFld 16 "stood" (eV 0)) (eV 1) setLG)) (sRet (eC (.bl true))))))
/-- Table_at: 5 slots, 2 parameters -/
def d_Table_at (m_Table_need_hand : FV) (m_Table_ahead : FV) : SV := sCons (sExpr (eMeth 16 "need_hand" 2 m_Table_need_hand (eV 0) (aCons (eV 1) (aNil)))) (sCons (sAsg (eMt "str" (splitG false) (eMt "str" (joinG) (eC (.str [])) (aCons (eLc false (iSeq (eMeth 16 "ahead" 2 m_Table_ahead (eV 0) (aCons (eV 1) (aNil)))) [4] (.one 4) (tYesD) (eFld 15 "sign" (eV 4))) (aNil))) (aCons (eC (.str [10])) (aNil))) (gN 2)) (sCons (sAsg (eMt "str" (splitG false) (eOp ixG (eV 2) (eNeg (eC (.int 1)))) (aCons (eC (.str [9])) (aNil))) (gN 3)) (sRet (eTup (aCons (eOp subG (eB lenG (aCons (eV 2) (aNil))) (eC (.int 1))) (aCons (eOp subG (eB lenG (aCons (eV 3) (aNil))) (eC (.int 1))) (aCons (eB lenG (aCons (eOp ixG (eV 3) (eNeg (eC (.int 1)))) (aNil))) (aNil))))))))
/-- Table_page: 1 slots, 1 parameters -/
def d_Table_page (m_Table_lines : FV) : SV := sRet (eMeth 16 "lines" 1 m_Table_lines (eV 0) aNil)
/-- Table_told: 3 slots, 1 parameters -/
def d_Table_told : SV := sRet (eLc true (iZp (aCons (eFld 16 "deeds" (eV 0)) (aCons (eFld 16 "lasting" (eV 0)) (aNil)))) [1, 2] (.two 1 2) (tYesD) (eOp (addG false) (eV 1) (eTup (aCons (eV 2) (aNil)))))
end Dl
namespace Dl
open PySem L2
/-- is_number: 3 slots, 3 parameters -/
def d_is_number : SV := sRet (eAnd (eIs "int" (eV 0)) (eAnd (eNot (eIs "bool" (eV 0))) (eChain leG leG (eV 1) (eV 0) (eV 2))))
/-- need_style: 1 slots, 1 parameters -/
def d_need_style (m_is_number : FV) : SV := sCons (sIf (tOrD (tNotD (tv (eIs "tuple" (eV 0)))) (tv (eOp (eqG true) (eB lenG (aCons (eV 0) (aNil))) (eC (.int 2))))) (sBad) (sNext)) (sIf (tOrD (tNotD (tv (eCall 3 m_is_number (aCons (eOp ixG (eV 0) (eC (.int 0))) (aCons (eC (.int 0)) (aCons (eC (.int 4)) (aNil))))))) (tNotD (tv (eCall 3 m_is_number (aCons (eOp ixG (eV 0) (eC (.int 1))) (aCons (eC (.int 0)) (aCons (eC (.int 12)) (aNil)))))))) (sBad) (sNext))
end Dl
namespace Dl
open PySem L2
def m_is_number : FV := funD 3 d_is_number
@[simp] theorem is_number_int (i lo hi : Int) (st : Store) : m_is_number [.int i, .int lo, .int hi] st = .ok (.bl (decide (lo ≤ i ∧ i ≤ hi)), st) := by
  unfold m_is_number funD d_is_number
  simp [tyOf, subTy, leG]
  by_cases h : lo ≤ i <;> simp [h]
def m_need_style : FV := funD 1 (d_need_style m_is_number)
structure Sty where
  g : Int
  l : Int
def Sty.ok (s : Sty) : Prop := (0 ≤ s.g ∧ s.g ≤ 4) ∧ 0 ≤ s.l ∧ s.l ≤ 12
def Sty.enc (s : Sty) : D := .tup [.int s.g, .int s.l]
theorem need_style_ok {s : Sty} (h : s.ok) (st : Store) : m_need_style [s.enc] st = .ok (.non, st) := by
  unfold m_need_style funD d_need_style Sty.enc
  simp [tyOf, subTy, lenG, ixG, h.1.1, h.1.2, h.2.1, h.2.2]
def figs (s : List Nat) : Bool :=
  let rest := if s.take 1 = [45] then s.drop 1 else s
  decide (rest ≠ []) && rest.all fun c => decide (48 ≤ c ∧ c ≤ 57)
theorem cut_to {A : Type} (xs : List A) (k : Nat) : cutD xs none (some (k : Int)) = xs.take k := by
  unfold cutD
  rw [HT.sIx_none, HT.sIx_nat]
  simp
theorem cut_from {A : Type} (xs : List A) (k : Nat) : cutD xs (some (k : Int)) none = xs.drop k := by
  unfold cutD
  rw [HT.sIx_nat, HT.sIx_none]
  by_cases h : k ≤ xs.length
  · rw [Nat.min_eq_left h, List.take_of_length_le (by simp)]
  · rw [Nat.min_eq_right (by omega)]
    simp
    omega
def clo (p : Page) (c k : Nat) : Bool := match p[k]? with
  | some r => decide (c + 1 < r.length)
  | none => false
def rEnd (f : Nat → Bool) : Nat → Nat → Nat
  | 0, k => k
  | n + 1, k => if f k = true then rEnd f n (k + 1) else k
/-- where the run that holds k ends -/
def endOf (p : Page) (c k : Nat) : Nat := rEnd (clo p c) (p.length - k) k
/-- a stretch: its column, begin, end -/
structure Stt where
  c : Nat
  b : Nat
  e : Nat
def sttOf (p : Page) (c b : Nat) : Stt := ⟨c, b, endOf p c b⟩
def cellAt (p : Page) (k c : Nat) : List Nat := (p.getD k []).getD c []
def cellsOf (p : Page) (s : Stt) : List (List Nat) := (List.range (s.e - s.b)).map fun k => cellAt p (s.b + k) s.c
end Dl
namespace Dl
open PySem L2
/-- a mark, with where it stands, and its list of cuts -/
structure MkC where
  name : Nat
  sg : Nat
  born : Option Nat
  cuts : List Nat
  a : Nat
  c : Nat
/-- a table, with where its lists stand -/
structure TC where
  marks : List MkC
  many : Nat
  stood : List (Option Nat)
  deeds : List (Nat × List Nat)
  lasts : List Bool
  undone : List (List Nat × Nat)
  s : Nat
  d : Nat
  l : Nat
  u : Nat
def encN : Option Nat → D
  | none => .non
  | some k => .int k
def natsD (ks : List Nat) : List D := ks.map fun (k : Nat) => D.int (k : Int)
def mkFs (m : MkC) : List (Str × D) := [("name", .int m.name), ("sign", .str [m.sg]), ("born", encN m.born), ("cuts", .ref m.c)]
def tbFs (y : Sty) (t : TC) : List (Str × D) := [("style", y.enc), ("marks", .lst (t.marks.map fun m => .ref m.a)), ("many", .int t.many), ("stood", .ref t.s), ("deeds", .ref t.d), ("lasting", .ref t.l), ("undone", .ref t.u)]
theorem mk_name (m : MkC) : (mkFs m).lookup ("name" : Str) = some (.int m.name) := by
  unfold mkFs
  rw [List.lookup_cons, show (("name" : Str) == "name") = true by decide +kernel]
theorem mk_sign (m : MkC) : (mkFs m).lookup ("sign" : Str) = some (.str [m.sg]) := by
  unfold mkFs
  rw [List.lookup_cons, show (("sign" : Str) == "name") = false by decide +kernel, List.lookup_cons, show (("sign" : Str) == "sign") = true by decide +kernel]
theorem mk_born (m : MkC) : (mkFs m).lookup ("born" : Str) = some (encN m.born) := by
  unfold mkFs
  rw [List.lookup_cons, show (("born" : Str) == "name") = false by decide +kernel, List.lookup_cons, show (("born" : Str) == "sign") = false by decide +kernel, List.lookup_cons, show (("born" : Str) == "born") = true by decide +kernel]
theorem mk_cuts (m : MkC) : (mkFs m).lookup ("cuts" : Str) = some (.ref m.c) := by
  unfold mkFs
  rw [List.lookup_cons, show (("cuts" : Str) == "name") = false by decide +kernel, List.lookup_cons, show (("cuts" : Str) == "sign") = false by decide +kernel, List.lookup_cons, show (("cuts" : Str) == "born") = false by decide +kernel, List.lookup_cons, show (("cuts" : Str) == "cuts") = true by decide +kernel]
theorem tb_marks (y : Sty) (t : TC) : (tbFs y t).lookup ("marks" : Str) = some (.lst (t.marks.map fun m => .ref m.a)) := by
  unfold tbFs
  rw [List.lookup_cons, show (("marks" : Str) == "style") = false by decide +kernel, List.lookup_cons, show (("marks" : Str) == "marks") = true by decide +kernel]
theorem tb_stood (y : Sty) (t : TC) : (tbFs y t).lookup ("stood" : Str) = some (.ref t.s) := by
  unfold tbFs
  rw [List.lookup_cons, show (("stood" : Str) == "style") = false by decide +kernel, List.lookup_cons, show (("stood" : Str) == "marks") = false by decide +kernel, List.lookup_cons, show (("stood" : Str) == "many") = false by decide +kernel, List.lookup_cons, show (("stood" : Str) == "stood") = true by decide +kernel]
theorem tb_deeds (y : Sty) (t : TC) : (tbFs y t).lookup ("deeds" : Str) = some (.ref t.d) := by
  unfold tbFs
  rw [List.lookup_cons, show (("deeds" : Str) == "style") = false by decide +kernel, List.lookup_cons, show (("deeds" : Str) == "marks") = false by decide +kernel, List.lookup_cons, show (("deeds" : Str) == "many") = false by decide +kernel, List.lookup_cons, show (("deeds" : Str) == "stood") = false by decide +kernel, List.lookup_cons, show (("deeds" : Str) == "deeds") = true by decide +kernel]
theorem tb_lasting (y : Sty) (t : TC) : (tbFs y t).lookup ("lasting" : Str) = some (.ref t.l) := by
  unfold tbFs
  rw [List.lookup_cons, show (("lasting" : Str) == "style") = false by decide +kernel, List.lookup_cons, show (("lasting" : Str) == "marks") = false by decide +kernel, List.lookup_cons, show (("lasting" : Str) == "many") = false by decide +kernel, List.lookup_cons, show (("lasting" : Str) == "stood") = false by decide +kernel, List.lookup_cons, show (("lasting" : Str) == "deeds") = false by decide +kernel, List.lookup_cons, show (("lasting" : Str) == "lasting") = true by decide +kernel]
theorem tb_undone (y : Sty) (t : TC) : (tbFs y t).lookup ("undone" : Str) = some (.ref t.u) := by
  unfold tbFs
  rw [List.lookup_cons, show (("undone" : Str) == "style") = false by decide +kernel, List.lookup_cons, show (("undone" : Str) == "marks") = false by decide +kernel, List.lookup_cons, show (("undone" : Str) == "many") = false by decide +kernel, List.lookup_cons, show (("undone" : Str) == "stood") = false by decide +kernel, List.lookup_cons, show (("undone" : Str) == "deeds") = false by decide +kernel, List.lookup_cons, show (("undone" : Str) == "lasting") = false by decide +kernel, List.lookup_cons, show (("undone" : Str) == "undone") = true by decide +kernel]
theorem tn_is_there (y : Sty) (t : TC) : (tbFs y t).lookup ("is_there" : Str) = none := by
  unfold tbFs
  rw [List.lookup_cons, show (("is_there" : Str) == "style") = false by decide +kernel, List.lookup_cons, show (("is_there" : Str) == "marks") = false by decide +kernel, List.lookup_cons, show (("is_there" : Str) == "many") = false by decide +kernel, List.lookup_cons, show (("is_there" : Str) == "stood") = false by decide +kernel, List.lookup_cons, show (("is_there" : Str) == "deeds") = false by decide +kernel, List.lookup_cons, show (("is_there" : Str) == "lasting") = false by decide +kernel, List.lookup_cons, show (("is_there" : Str) == "undone") = false by decide +kernel, List.lookup_nil]
theorem tn_lines (y : Sty) (t : TC) : (tbFs y t).lookup ("lines" : Str) = none := by
  unfold tbFs
  rw [List.lookup_cons, show (("lines" : Str) == "style") = false by decide +kernel, List.lookup_cons, show (("lines" : Str) == "marks") = false by decide +kernel, List.lookup_cons, show (("lines" : Str) == "many") = false by decide +kernel, List.lookup_cons, show (("lines" : Str) == "stood") = false by decide +kernel, List.lookup_cons, show (("lines" : Str) == "deeds") = false by decide +kernel, List.lookup_cons, show (("lines" : Str) == "lasting") = false by decide +kernel, List.lookup_cons, show (("lines" : Str) == "undone") = false by decide +kernel, List.lookup_nil]
theorem tn_is_page (y : Sty) (t : TC) : (tbFs y t).lookup ("is_page" : Str) = none := by
  unfold tbFs
  rw [List.lookup_cons, show (("is_page" : Str) == "style") = false by decide +kernel, List.lookup_cons, show (("is_page" : Str) == "marks") = false by decide +kernel, List.lookup_cons, show (("is_page" : Str) == "many") = false by decide +kernel, List.lookup_cons, show (("is_page" : Str) == "stood") = false by decide +kernel, List.lookup_cons, show (("is_page" : Str) == "deeds") = false by decide +kernel, List.lookup_cons, show (("is_page" : Str) == "lasting") = false by decide +kernel, List.lookup_cons, show (("is_page" : Str) == "undone") = false by decide +kernel, List.lookup_nil]
theorem tn_number_of (y : Sty) (t : TC) : (tbFs y t).lookup ("number_of" : Str) = none := by
  unfold tbFs
  rw [List.lookup_cons, show (("number_of" : Str) == "style") = false by decide +kernel, List.lookup_cons, show (("number_of" : Str) == "marks") = false by decide +kernel, List.lookup_cons, show (("number_of" : Str) == "many") = false by decide +kernel, List.lookup_cons, show (("number_of" : Str) == "stood") = false by decide +kernel, List.lookup_cons, show (("number_of" : Str) == "deeds") = false by decide +kernel, List.lookup_cons, show (("number_of" : Str) == "lasting") = false by decide +kernel, List.lookup_cons, show (("number_of" : Str) == "undone") = false by decide +kernel, List.lookup_nil]
theorem tn_ahead (y : Sty) (t : TC) : (tbFs y t).lookup ("ahead" : Str) = none := by
  unfold tbFs
  rw [List.lookup_cons, show (("ahead" : Str) == "style") = false by decide +kernel, List.lookup_cons, show (("ahead" : Str) == "marks") = false by decide +kernel, List.lookup_cons, show (("ahead" : Str) == "many") = false by decide +kernel, List.lookup_cons, show (("ahead" : Str) == "stood") = false by decide +kernel, List.lookup_cons, show (("ahead" : Str) == "deeds") = false by decide +kernel, List.lookup_cons, show (("ahead" : Str) == "lasting") = false by decide +kernel, List.lookup_cons, show (("ahead" : Str) == "undone") = false by decide +kernel, List.lookup_nil]
theorem tn_go_on (y : Sty) (t : TC) : (tbFs y t).lookup ("go_on" : Str) = none := by
  unfold tbFs
  rw [List.lookup_cons, show (("go_on" : Str) == "style") = false by decide +kernel, List.lookup_cons, show (("go_on" : Str) == "marks") = false by decide +kernel, List.lookup_cons, show (("go_on" : Str) == "many") = false by decide +kernel, List.lookup_cons, show (("go_on" : Str) == "stood") = false by decide +kernel, List.lookup_cons, show (("go_on" : Str) == "deeds") = false by decide +kernel, List.lookup_cons, show (("go_on" : Str) == "lasting") = false by decide +kernel, List.lookup_cons, show (("go_on" : Str) == "undone") = false by decide +kernel, List.lookup_nil]
theorem tn_note (y : Sty) (t : TC) : (tbFs y t).lookup ("note" : Str) = none := by
  unfold tbFs
  rw [List.lookup_cons, show (("note" : Str) == "style") = false by decide +kernel, List.lookup_cons, show (("note" : Str) == "marks") = false by decide +kernel, List.lookup_cons, show (("note" : Str) == "many") = false by decide +kernel, List.lookup_cons, show (("note" : Str) == "stood") = false by decide +kernel, List.lookup_cons, show (("note" : Str) == "deeds") = false by decide +kernel, List.lookup_cons, show (("note" : Str) == "lasting") = false by decide +kernel, List.lookup_cons, show (("note" : Str) == "undone") = false by decide +kernel, List.lookup_nil]
theorem tn_forget (y : Sty) (t : TC) : (tbFs y t).lookup ("forget" : Str) = none := by
  unfold tbFs
  rw [List.lookup_cons, show (("forget" : Str) == "style") = false by decide +kernel, List.lookup_cons, show (("forget" : Str) == "marks") = false by decide +kernel, List.lookup_cons, show (("forget" : Str) == "many") = false by decide +kernel, List.lookup_cons, show (("forget" : Str) == "stood") = false by decide +kernel, List.lookup_cons, show (("forget" : Str) == "deeds") = false by decide +kernel, List.lookup_cons, show (("forget" : Str) == "lasting") = false by decide +kernel, List.lookup_cons, show (("forget" : Str) == "undone") = false by decide +kernel, List.lookup_nil]
theorem tn_need_hand (y : Sty) (t : TC) : (tbFs y t).lookup ("need_hand" : Str) = none := by
  unfold tbFs
  rw [List.lookup_cons, show (("need_hand" : Str) == "style") = false by decide +kernel, List.lookup_cons, show (("need_hand" : Str) == "marks") = false by decide +kernel, List.lookup_cons, show (("need_hand" : Str) == "many") = false by decide +kernel, List.lookup_cons, show (("need_hand" : Str) == "stood") = false by decide +kernel, List.lookup_cons, show (("need_hand" : Str) == "deeds") = false by decide +kernel, List.lookup_cons, show (("need_hand" : Str) == "lasting") = false by decide +kernel, List.lookup_cons, show (("need_hand" : Str) == "undone") = false by decide +kernel, List.lookup_nil]
theorem tn_rub (y : Sty) (t : TC) : (tbFs y t).lookup ("rub" : Str) = none := by
  unfold tbFs
  rw [List.lookup_cons, show (("rub" : Str) == "style") = false by decide +kernel, List.lookup_cons, show (("rub" : Str) == "marks") = false by decide +kernel, List.lookup_cons, show (("rub" : Str) == "many") = false by decide +kernel, List.lookup_cons, show (("rub" : Str) == "stood") = false by decide +kernel, List.lookup_cons, show (("rub" : Str) == "deeds") = false by decide +kernel, List.lookup_cons, show (("rub" : Str) == "lasting") = false by decide +kernel, List.lookup_cons, show (("rub" : Str) == "undone") = false by decide +kernel, List.lookup_nil]
theorem tn_turn (y : Sty) (t : TC) : (tbFs y t).lookup ("turn" : Str) = none := by
  unfold tbFs
  rw [List.lookup_cons, show (("turn" : Str) == "style") = false by decide +kernel, List.lookup_cons, show (("turn" : Str) == "marks") = false by decide +kernel, List.lookup_cons, show (("turn" : Str) == "many") = false by decide +kernel, List.lookup_cons, show (("turn" : Str) == "stood") = false by decide +kernel, List.lookup_cons, show (("turn" : Str) == "deeds") = false by decide +kernel, List.lookup_cons, show (("turn" : Str) == "lasting") = false by decide +kernel, List.lookup_cons, show (("turn" : Str) == "undone") = false by decide +kernel, List.lookup_nil]
theorem tn_back (y : Sty) (t : TC) : (tbFs y t).lookup ("back" : Str) = none := by
  unfold tbFs
  rw [List.lookup_cons, show (("back" : Str) == "style") = false by decide +kernel, List.lookup_cons, show (("back" : Str) == "marks") = false by decide +kernel, List.lookup_cons, show (("back" : Str) == "many") = false by decide +kernel, List.lookup_cons, show (("back" : Str) == "stood") = false by decide +kernel, List.lookup_cons, show (("back" : Str) == "deeds") = false by decide +kernel, List.lookup_cons, show (("back" : Str) == "lasting") = false by decide +kernel, List.lookup_cons, show (("back" : Str) == "undone") = false by decide +kernel, List.lookup_nil]
theorem tn_again (y : Sty) (t : TC) : (tbFs y t).lookup ("again" : Str) = none := by
  unfold tbFs
  rw [List.lookup_cons, show (("again" : Str) == "style") = false by decide +kernel, List.lookup_cons, show (("again" : Str) == "marks") = false by decide +kernel, List.lookup_cons, show (("again" : Str) == "many") = false by decide +kernel, List.lookup_cons, show (("again" : Str) == "stood") = false by decide +kernel, List.lookup_cons, show (("again" : Str) == "deeds") = false by decide +kernel, List.lookup_cons, show (("again" : Str) == "lasting") = false by decide +kernel, List.lookup_cons, show (("again" : Str) == "undone") = false by decide +kernel, List.lookup_nil]
theorem tn_right (y : Sty) (t : TC) : (tbFs y t).lookup ("right" : Str) = none := by
  unfold tbFs
  rw [List.lookup_cons, show (("right" : Str) == "style") = false by decide +kernel, List.lookup_cons, show (("right" : Str) == "marks") = false by decide +kernel, List.lookup_cons, show (("right" : Str) == "many") = false by decide +kernel, List.lookup_cons, show (("right" : Str) == "stood") = false by decide +kernel, List.lookup_cons, show (("right" : Str) == "deeds") = false by decide +kernel, List.lookup_cons, show (("right" : Str) == "lasting") = false by decide +kernel, List.lookup_cons, show (("right" : Str) == "undone") = false by decide +kernel, List.lookup_nil]
theorem tn_at (y : Sty) (t : TC) : (tbFs y t).lookup ("at" : Str) = none := by
  unfold tbFs
  rw [List.lookup_cons, show (("at" : Str) == "style") = false by decide +kernel, List.lookup_cons, show (("at" : Str) == "marks") = false by decide +kernel, List.lookup_cons, show (("at" : Str) == "many") = false by decide +kernel, List.lookup_cons, show (("at" : Str) == "stood") = false by decide +kernel, List.lookup_cons, show (("at" : Str) == "deeds") = false by decide +kernel, List.lookup_cons, show (("at" : Str) == "lasting") = false by decide +kernel, List.lookup_cons, show (("at" : Str) == "undone") = false by decide +kernel, List.lookup_nil]
theorem tn_page (y : Sty) (t : TC) : (tbFs y t).lookup ("page" : Str) = none := by
  unfold tbFs
  rw [List.lookup_cons, show (("page" : Str) == "style") = false by decide +kernel, List.lookup_cons, show (("page" : Str) == "marks") = false by decide +kernel, List.lookup_cons, show (("page" : Str) == "many") = false by decide +kernel, List.lookup_cons, show (("page" : Str) == "stood") = false by decide +kernel, List.lookup_cons, show (("page" : Str) == "deeds") = false by decide +kernel, List.lookup_cons, show (("page" : Str) == "lasting") = false by decide +kernel, List.lookup_cons, show (("page" : Str) == "undone") = false by decide +kernel, List.lookup_nil]
theorem tn_told (y : Sty) (t : TC) : (tbFs y t).lookup ("told" : Str) = none := by
  unfold tbFs
  rw [List.lookup_cons, show (("told" : Str) == "style") = false by decide +kernel, List.lookup_cons, show (("told" : Str) == "marks") = false by decide +kernel, List.lookup_cons, show (("told" : Str) == "many") = false by decide +kernel, List.lookup_cons, show (("told" : Str) == "stood") = false by decide +kernel, List.lookup_cons, show (("told" : Str) == "deeds") = false by decide +kernel, List.lookup_cons, show (("told" : Str) == "lasting") = false by decide +kernel, List.lookup_cons, show (("told" : Str) == "undone") = false by decide +kernel, List.lookup_nil]
theorem tb_len (y : Sty) (t : TC) : (tbFs y t).length = 7 := rfl
end Dl
namespace Dl
open PySem L2
@[simp high] theorem low0 : ((-1000000 : Int) ≤ 0) = True := eq_true (by decide)
@[simp high] theorem hi0 : ((0 : Int) ≤ 1000000) = True := eq_true (by decide)
section
variable (env : Env) (st : Store)
@[simp] theorem r_eMake (c n : Nat) (g : FV) (ga : AV) : eMake c n g ga env st = (ga env st).bind fun a => if a.1.length + 1 = n then (g (.ref a.2.length :: a.1) (a.2 ++ [.ins c []])).bind fun b => match b.1 with
  | .non => .ok (.ref a.2.length, b.2)
  | _ => .bad else .bad := rfl
@[simp] theorem r_eMeth (c : Nat) (m : Str) (n : Nat) (g : FV) (fo : EV) (ga : AV) : eMeth c m n g fo ga env st = (fo env st).bind fun o => match o.1 with
  | .ref i => match o.2[i]? with
    | some (.ins c' fs) => if c' = c ∧ fs.lookup m = none then (ga env o.2).bind fun a => if a.1.length + 1 = n then g (.ref i :: a.1) a.2 else .bad else .bad
    | _ => .bad
  | _ => .bad := rfl
@[simp] theorem r_sFldD (c : Nat) (f : Str) (fo fv : EV) : sFldD c f fo fv env st = sOf (fv env st) fun v => sOf (fo env v.2) fun o => match o.1 with
  | .ref i => match o.2[i]? with
    | some (.ins c' fs) => if c' = c ∧ fs.length < 900 then .nx env (o.2.set i (.ins c' (putD f v.1 fs))) else .bad
    | _ => .bad
  | _ => .bad := rfl
end
/-- the references from k on -/
def refs (k n : Nat) : List D := (List.range n).map fun i => .ref (k + i)
@[simp] theorem refs_len (k n : Nat) : (refs k n).length = n := by simp [refs]
end Dl
namespace Dl
open PySem L2
end Dl
namespace Dl
open PySem L2
/-- the longest cell -/
def most (ss : List (List Nat)) : Int := maxL (ss.map fun s => (s.length : Int))
def wid (y : Sty) (ss : List (List Nat)) : Int := max y.l (most ss + y.g)
def right (ss : List (List Nat)) : Bool := decide (ss.filter (fun s => decide (s ≠ [])) ≠ []) && (ss.filter fun s => decide (s ≠ [])).all figs
@[simp] theorem maxG2 (a b : Int) (st : Store) : maxG st [.int a, .int b] = .ok (.int (max a b), st) := (rfl)
@[simp] theorem minG2 (a b : Int) (st : Store) : minG st [.int a, .int b] = .ok (.int (min a b), st) := (rfl)
end Dl
namespace Dl
open PySem L2
theorem turn_eq {r : SR} {e : Env} {s : Store} {J : Env → Store → Prop} (h : r = .nx e s) (k : J e s) : r.turn J := by rw [h]; exact k
end Dl
namespace Dl
open PySem L2
def begOf (p : Page) (c : Nat) : Nat → Nat
  | 0 => 0
  | k + 1 => if clo p c k = true then begOf p c k else k + 1
@[simp] theorem lenR (r : Row) (st : Store) : lenG st [encR r] = .ok (.int r.length, st) := by simp [lenG, encR]
@[simp] theorem sty0 (y : Sty) (st : Store) : ixG st y.enc (.int 0) = .ok (.int y.g, st) := by simp [Sty.enc, ixG]
@[simp] theorem sty1 (y : Sty) (st : Store) : ixG st y.enc (.int 1) = .ok (.int y.l, st) := by simp [Sty.enc, ixG]
@[simp] theorem lenS (s : List Nat) (st : Store) : lenG st [.str s] = .ok (.int s.length, st) := (rfl)
end Dl
namespace Dl
open PySem L2
@[simp] theorem ix_tup (ds : List D) (i : Int) (st : Store) : ixG st (.tup ds) (.int i) = R.of ((atI ds i).map fun x => (x, st)) := (rfl)
@[simp] theorem ix_lst (ds : List D) (i : Int) (st : Store) : ixG st (.lst ds) (.int i) = R.of ((atI ds i).map fun x => (x, st)) := (rfl)
@[simp] theorem ix_str (s : List Nat) (i : Int) (st : Store) : ixG st (.str s) (.int i) = R.of ((atI s i).map fun c => (.str [c], st)) := (rfl)
end Dl
namespace Dl
open PySem L2
end Dl
namespace Dl
open PySem L2
end Dl
namespace Dl
open PySem L2
def sttAt (p : Page) (k c : Nat) : Stt := sttOf p c (begOf p c k)
/-- the cell k, c lies in the stretch s -/
def Covers (s : Stt) (k c : Nat) : Prop := s.c = c ∧ s.b ≤ k ∧ k < s.e
instance (s : Stt) (k c : Nat) : Decidable (Covers s k c) := by unfold Covers; exact inferInstance
def wAt (p : Page) (y : Sty) (k c : Nat) : Int := wid y (cellsOf p (sttAt p k c))
def sumW (p : Page) (y : Sty) (k : Nat) : Nat → Int
  | 0 => 0
  | c + 1 => sumW p y k c + wAt p y k c
def leftsN (p : Page) (y : Sty) (k n : Nat) : List Int := (List.range n).map (sumW p y k)
@[simp] theorem leftsN_len (p : Page) (y : Sty) (k n : Nat) : (leftsN p y k n).length = n := by simp [leftsN]
def cellsIn (p : Page) (k : Nat) : Nat := (p.getD k []).length
def rowI (p : Page) (f : Nat → Nat → Int) (k : Nat) : List D := ((List.range (cellsIn p k)).map (f k)).map .int
def gridS (p : Page) (f : Nat → Nat → Int) : Store := (List.range p.length).map fun k => .lst (rowI p f k)
@[simp] theorem rowI_len (p : Page) (f : Nat → Nat → Int) (k : Nat) : (rowI p f k).length = cellsIn p k := by simp [rowI]
@[simp] theorem gridS_len (p : Page) (f : Nat → Nat → Int) : (gridS p f).length = p.length := by simp [gridS]
end Dl
namespace Dl
open PySem L2
theorem get_app {st more : Store} {n : Nat} {o : Ob} (h : st[n]? = some o) : (st ++ more)[n]? = some o := by
  rw [List.getElem?_append_left (List.getElem?_eq_some_iff.mp h).1]; exact h
end Dl
namespace Dl
open PySem L2
end Dl
namespace Dl
open PySem L2
end Dl
namespace Dl
open PySem L2
end Dl
namespace Dl
open PySem L2
/-- the class's field -/
def payOf : Nat → Option Str
  | 1 => some "row" | 8 => some "line" | 9 => some "number" | 10 => some "number" | 11 => some "row" | _ => none
end Dl
namespace Dl
open PySem L2
section
variable {g : G2} {fa fb : EV} {env : Env} {st sx sy : Store} {x y : D} {r : R (D × Store)}
theorem eOp_at (h1 : fa env st = .ok (x, sx)) (h2 : fb env sx = .ok (y, sy)) (h3 : g sy x y = r) : eOp g fa fb env st = r := by
  rw [r_eOp, h1]
  show (fb env sx).bind _ = r
  rw [h2]
  exact h3
theorem tv_at {b : Bool} (h1 : fa env st = .ok (.bl b, sx)) : tv fa env st = .ok (b, sx) := by
  rw [r_tv, h1]
  rfl
theorem eV_at {i : Nat} (h : env[i]? = some (some x)) : eV i env st = .ok (x, st) := by
  rw [r_eV, h]
theorem sCons_nx {f h : SV} {e : Env} {s : Store} (h1 : f env st = .nx e s) : sCons f h env st = h e s := by
  rw [r_sCons, h1]
  rfl
theorem sAsgN_at {i : Nat} (h1 : fa env st = .ok (x, sx)) : sAsg fa (gN i) env st = .nx (env.set i (some x)) sx := by
  rw [r_sAsg, h1]
  rfl
theorem sIf_at {t : TV} {f h : SV} {b : Bool} (h1 : t env st = .ok (b, sx)) : sIf t f h env st = if b = true then f env sx else h env sx := by
  rw [r_sIf, h1]
  rfl
end
theorem add_ss (st : Store) (a b : List Nat) (h : a.length + b.length ≤ 1000000) : addG false st (.str a) (.str b) = .ok (.str (a ++ b), st) := by
  unfold addG
  exact if_pos (le_LIM h)
theorem int_b (st : Store) (b : Bool) : intG st [.bl b] = .ok (.int (if b = true then 1 else 0), st) := by
  cases b <;> rfl
theorem is_str (st : Store) (a b : List Nat) : eqG false st (.str a) (.str b) = .ok (.bl (decide (a = b)), st) := by rw [eqG_str]; rfl
theorem pks_of : ∀ {ds : List D}, (∀ d ∈ ds, D.pk d = true) → D.pks ds = true
  | [], _ => rfl
  | d :: ds, h => by
    rw [D.pks, h d (by simp), pks_of fun e he => h e (by simp [he])]; rfl
theorem sms_of' : ∀ {ds : List D}, (∀ d ∈ ds, D.sm d = true) → D.sms ds = true
  | [], _ => rfl
  | d :: ds, h => by
    rw [D.sms, h d (by simp), sms_of' fun e he => h e (by simp [he])]; rfl
theorem fr_list (st : Store) (L : List D) : listOf (st ++ [.lst L]) (.ref st.length) = some (L, [(st.length, L)]) := by simp only [listOf, List.getElem?_concat_length]
theorem alike_self {x : D} (st : Store) (h : D.pk x = true) (hs : D.sm x = true) (hd : D.dp x ≤ 8) : m_law_alike [x, x] st = .ok (.bl true, st) := alike_rd 8 x x x (rd_self h) (rd_self h) hs hd
theorem add_ll (st : Store) (a b : List D) (h : a.length + b.length ≤ 1000000) : addG false st (.lst a) (.lst b) = .ok (.lst (a ++ b), st) := by
  unfold addG
  simp only [lstOf]
  rw [if_pos (le_LIM h)]
  rfl
theorem add_tt (st : Store) (m : Bool) (a b : List D) (h : a.length + b.length ≤ 1000000) : addG m st (.tup a) (.tup b) = .ok (.tup (a ++ b), st) := by
  unfold addG
  exact if_pos (le_LIM h)
theorem add_ii (st : Store) (m : Bool) (a b : Int) : addG m st (.int a) (.int b) = .ok (.int (a + b), st) := rfl
theorem sl_l (st : Store) (ds : List D) (lo hi : Option Int) : slG false st (.lst ds) lo hi = .ok (.lst (cutD ds lo hi), st) := by simp [slG, lstOf, newL]
theorem ixL (st : Store) (ds : List D) (i : Int) : ixG st (.lst ds) (.int i) = R.of ((atI ds i).map fun x => (x, st)) := (rfl)
theorem len_l (st : Store) (ds : List D) : lenG st [.lst ds] = .ok (.int ds.length, st) := by simp [lenG, lstOf]
theorem len_s (st : Store) (s : List Nat) : lenG st [.str s] = .ok (.int s.length, st) := by simp [lenG]
theorem app_at {S : Store} {k : Nat} {L : List D} (d : D) (h : S[k]? = some (.lst L)) (hl : L.length < 1000000) : appendG S (.ref k) [d] = .ok (.non, S.set k (.lst (L ++ [d]))) := by
  simp only [appendG, h]
  rw [if_pos (lt_LIM hl)]
end Dl
namespace Dl
open PySem L2
end Dl
namespace Dl
open PySem L2
structure Has (S : Store) (L : List (Nat × Ob)) : Prop where
  nd : (L.map (·.1)).Nodup
  at_ : ∀ p ∈ L, S[p.1]? = some p.2
theorem Has.lt {S : Store} {L : List (Nat × Ob)} (h : Has S L) : ∀ k ∈ L.map (·.1), k < S.length := fun k hk => by
  obtain ⟨p, hp, rfl⟩ := List.mem_map.mp hk
  exact (List.getElem?_eq_some_iff.mp (h.at_ p hp)).1
theorem Has.app {S M : Store} {L : List (Nat × Ob)} (h : Has S L) : Has (S ++ M) L := ⟨h.nd, fun p hp => get_app (h.at_ p hp)⟩
/-- what keeps all that stands at the places keeps the objects -/
theorem Has.keep {S S' : Store} {L : List (Nat × Ob)} (h : Has S L) (k : ∀ p ∈ L, S'[p.1]? = S[p.1]?) : Has S' L := ⟨h.nd, fun p hp => (k p hp).trans (h.at_ p hp)⟩
theorem Has.set {S : Store} {A B : List (Nat × Ob)} {k : Nat} {o : Ob} (o' : Ob) (h : Has S (A ++ (k, o) :: B)) : Has (S.set k o') (A ++ (k, o') :: B) := by
  have hk := h.lt k (by simp)
  have nd := h.nd
  rw [List.map_append, List.map_cons] at nd
  refine ⟨by rw [List.map_append, List.map_cons]; exact nd, fun p hp => ?_⟩
  rw [List.nodup_append] at nd
  obtain ⟨n1, n2, n3⟩ := nd
  rw [List.nodup_cons] at n2
  rcases List.mem_append.mp hp with hp | hp
  · have : p.1 ≠ k := n3 p.1 (List.mem_map.mpr ⟨p, hp, rfl⟩) k (by simp)
    rw [List.getElem?_set_ne (Ne.symm this)]
    exact h.at_ p (by simp [hp])
  · rcases List.mem_cons.mp hp with rfl | hp
    · exact List.getElem?_set_self hk
    · have : p.1 ≠ k := fun z => n2.1 (z ▸ List.mem_map.mpr ⟨p, hp, rfl⟩)
      rw [List.getElem?_set_ne (Ne.symm this)]
      exact h.at_ p (by simp [hp])
theorem Has.new {S : Store} {L : List (Nat × Ob)} (h : Has S L) (o : Ob) : Has (S ++ [o]) (L ++ [(S.length, o)]) := by
  refine ⟨?_, fun p hp => ?_⟩
  · rw [List.map_append, List.nodup_append]
    refine ⟨h.nd, by simp, fun a ha b hb => ?_⟩
    simp at hb
    have := h.lt a ha
    omega
  · rcases List.mem_append.mp hp with hp | hp
    · exact get_app (h.at_ p hp)
    · simp at hp
      subst hp
      simp
theorem Has.perm {S : Store} {L M : List (Nat × Ob)} (h : Has S L) (p : L.Perm M) : Has S M := ⟨(p.map _).nodup_iff.mp h.nd, fun q hq => h.at_ q (p.mem_iff.mpr hq)⟩
theorem Has.sub {S : Store} {L M : List (Nat × Ob)} (h : Has S L) (p : M.Sublist L) : Has S M := ⟨(p.map _).nodup h.nd, fun q hq => h.at_ q (p.subset hq)⟩
/-- what stands elsewhere stays -/
def Stay (S S' : Store) (A : List Nat) : Prop := S.length ≤ S'.length ∧ ∀ i ob, i ∉ A → S[i]? = some ob → S'[i]? = some ob
theorem Stay.refl (S : Store) (A : List Nat) : Stay S S A := ⟨Nat.le_refl _, fun _ _ _ h => h⟩
theorem Stay.trans {S T U : Store} {A B : List Nat} (h : Stay S T A) (k : Stay T U B) (hB : ∀ b ∈ B, b ∈ A ∨ S.length ≤ b) : Stay S U A := ⟨Nat.le_trans h.1 k.1, fun i ob hi e => by
  refine k.2 i ob (fun z => ?_) (h.2 i ob hi e)
  rcases hB i z with q | q
  · exact hi q
  · have := (List.getElem?_eq_some_iff.mp e).1
    omega⟩
theorem Stay.app (S M : Store) (A : List Nat) : Stay S (S ++ M) A := ⟨by simp, fun i ob _ e => get_app e⟩
theorem Stay.set (S : Store) (A : List Nat) {k : Nat} (o : Ob) (h : k ∈ A) : Stay S (S.set k o) A := ⟨by simp, fun i ob hi e => by rw [List.getElem?_set_ne (fun z : k = i => hi (z ▸ h))]; exact e⟩
theorem Has.stay {S S' : Store} {L : List (Nat × Ob)} {A : List Nat} (h : Has S L) (k : Stay S S' A) (d : ∀ p ∈ L, p.1 ∉ A) : Has S' L := ⟨h.nd, fun p hp => k.2 _ _ (d p hp) (h.at_ p hp)⟩
def mkOb (m : MkC) : List (Nat × Ob) := [(m.a, .ins 15 (mkFs m)), (m.c, .lst (natsD m.cuts))]
def encDd (d : Nat × List Nat) : D := .tup [.int d.1, .str d.2]
def unOb (x : List Nat × Nat) : Nat × Ob := (x.2, .lst (natsD x.1))
def objsT (n : Nat) (y : Sty) (t : TC) : List (Nat × Ob) :=
  (n, .ins 16 (tbFs y t)) :: (t.s, .lst (t.stood.map encN)) :: (t.d, .lst (t.deeds.map encDd)) :: (t.l, .lst (t.lasts.map .bl)) :: (t.u, .lst (t.undone.map fun x => .ref x.2)) :: (t.undone.map unOb ++ t.marks.flatMap mkOb)
def Tbl (S : Store) (n : Nat) (y : Sty) (t : TC) : Prop := Has S (objsT n y t)
def keysT (n : Nat) (y : Sty) (t : TC) : List Nat := (objsT n y t).map (·.1)
section
variable {S : Store} {n : Nat} {y : Sty} {t : TC}
theorem Tbl.tb (h : Tbl S n y t) : S[n]? = some (.ins 16 (tbFs y t)) := Has.at_ h (n, _) (by simp [objsT])
theorem Tbl.st (h : Tbl S n y t) : S[t.s]? = some (.lst (t.stood.map encN)) := Has.at_ h (t.s, _) (by simp [objsT])
theorem Tbl.de (h : Tbl S n y t) : S[t.d]? = some (.lst (t.deeds.map encDd)) := Has.at_ h (t.d, _) (by simp [objsT])
theorem Tbl.la (h : Tbl S n y t) : S[t.l]? = some (.lst (t.lasts.map .bl)) := Has.at_ h (t.l, _) (by simp [objsT])
theorem Tbl.un (h : Tbl S n y t) : S[t.u]? = some (.lst (t.undone.map fun x => .ref x.2)) := Has.at_ h (t.u, _) (by simp [objsT])
theorem Tbl.uk (h : Tbl S n y t) {x : List Nat × Nat} (hx : x ∈ t.undone) : S[x.2]? = some (.lst (natsD x.1)) := Has.at_ h (x.2, _) (by
  simp only [objsT, List.mem_cons, List.mem_append]
  exact .inr (.inr (.inr (.inr (.inr (.inl (List.mem_map.mpr ⟨x, hx, rfl⟩)))))))
theorem Tbl.mk (h : Tbl S n y t) {m : MkC} (hm : m ∈ t.marks) : S[m.a]? = some (.ins 15 (mkFs m)) ∧ S[m.c]? = some (.lst (natsD m.cuts)) := by
  have hs : ∀ p ∈ mkOb m, p ∈ objsT n y t := fun p hp => by
    simp only [objsT, List.mem_cons, List.mem_append]
    exact .inr (.inr (.inr (.inr (.inr (.inr (List.mem_flatMap.mpr ⟨m, hm, hp⟩))))))
  exact ⟨Has.at_ h (m.a, _) (hs _ (by simp [mkOb])), Has.at_ h (m.c, _) (hs _ (by simp [mkOb]))⟩
end
/-- whether a mark is there -/
def thr (la : List Bool) (m : MkC) : Bool := (match m.born with | none => true | some b => la.getD b false) && !(m.cuts.any fun c => la.getD c false)
/-- a table as it can be -/
structure TOk (N : Nat) (t : TC) : Prop where
  le : N ≤ 10000
  born : ∀ m ∈ t.marks, ∀ b, m.born = some b → b < t.lasts.length
  cuts : ∀ m ∈ t.marks, ∀ c ∈ m.cuts, c < t.lasts.length
  dl : t.deeds.length = t.lasts.length
  su : t.undone.length = t.stood.length
  nam : (t.marks.map (·.name)).Nodup
  sgn : ∀ m ∈ t.marks, okSign m.sg = true ∨ m.sg = 9 ∨ m.sg = 10
  sto : ∀ k, some k ∈ t.stood → ∃ m ∈ t.marks, m.name = k
  und : ∀ x ∈ t.undone, ∀ k ∈ x.1, k < t.lasts.length
  lm : t.marks.length ≤ N
  ll : t.lasts.length ≤ N
  lc : ∀ m ∈ t.marks, m.cuts.length ≤ N
  lu : ∀ x ∈ t.undone, x.1.length ≤ N
  lh : t.stood.length ≤ 4
theorem natsD_len (ks : List Nat) : (natsD ks).length = ks.length := by simp [natsD]
theorem blsD_at {la : List Bool} {b : Nat} (h : b < la.length) : atI (la.map D.bl) (b : Int) = some (.bl (la.getD b false)) := by
  rw [atI_nat, List.getElem?_map, List.getElem?_eq_getElem h]
  simp [h]
def m_Table_is_there : FV := funD 3 d_Table_is_there
section
variable {S : Store} {n N : Nat} {y : Sty} {t : TC}
theorem is_there_ok (h : Tbl S n y t) (w : TOk N t) {m : MkC} (hm : m ∈ t.marks) : m_Table_is_there [.ref n, .ref m.a] S = .ok (.bl (thr t.lasts m), S) := by
  rw [m_Table_is_there, funD, d_Table_is_there]
  obtain ⟨g1, g2⟩ := h.mk hm
  have gt := h.tb
  have gl := h.la
  have lL : listOf S (.ref t.l) = some (t.lasts.map .bl, [(t.l, t.lasts.map .bl)]) := by simp only [listOf, gl]
  have ixl : ∀ b, b < t.lasts.length → ixG S (.ref t.l) (.int (b : Int)) = .ok (.bl (t.lasts.getD b false), S) := fun b hb => by
    rw [ix_list lL, blsD_at hb]; rfl
  have lC : listOf S (.ref m.c) = some (natsD m.cuts, [(m.c, natsD m.cuts)]) := by simp only [listOf, g2]
  have it := items_list lC
  have ll : m.cuts.length ≤ LIM := le_LIM (by have := w.lc m hm; have := w.le; omega)
  have key : lcGo [(m.c, natsD m.cuts)] (.one 2) tYesD (eOp ixG (eFld 16 "lasting" (eV 0)) (eV 2)) [some (.ref n), some (.ref m.a), none] (natsD m.cuts) [] S = .ok ((m.cuts.map fun c => t.lasts.getD c false).map .bl, S) := by
    rw [lc_map (still_list lC) (fun d => match d with | .int i => .bl (t.lasts.getD i.toNat false) | d => d) (natsD m.cuts) (fun d hd => by
      unfold natsD at hd
      obtain ⟨c, hc, rfl⟩ := List.mem_map.mp hd
      refine ⟨_, rfl, ?_⟩
      simp [gt, tb_lasting, ixl c (w.cuts m hm c hc)])]
    unfold natsD
    rw [List.map_map, List.map_map]
    rfl
  have an := any_lst S (m.cuts.map fun c => t.lasts.getD c false)
  have ea : (m.cuts.map fun c => t.lasts.getD c false).any id = m.cuts.any fun c => t.lasts.getD c false := by rw [List.any_map]; rfl
  rw [ea] at an
  obtain ⟨bs, hbs⟩ : ∃ bs, bs = (m.cuts.map fun c => t.lasts.getD c false).map D.bl := ⟨_, rfl⟩
  rw [← hbs] at an key
  have le : (natsD m.cuts).length ≤ LIM := by rw [natsD_len]; exact ll
  unfold thr
  cases hb : m.born with
  | none =>
    simp [g1, gt, mk_born, hb, encN, isG, it, mk_cuts, le, key, an]
  | some b =>
    have ib := ixl b (w.born m hm b hb)
    cases hl : t.lasts.getD b false with
    | false =>
      rw [hl] at ib
      have hl' : t.lasts[b]?.getD false = false := by simpa using hl
      simp [g1, gt, mk_born, hb, encN, isG, tb_lasting, ib, hl']
    | true =>
      rw [hl] at ib
      have hl' : t.lasts[b]?.getD false = true := by simpa using hl
      simp [g1, gt, mk_born, hb, encN, isG, tb_lasting, hl', ib, it, mk_cuts, le, key, an]
def refsM (ms : List MkC) : List D := ms.map fun m => .ref m.a
theorem marks_lc (h : Tbl S n y t) (w : TOk N t) {sub : List (Nat × List D)} (hs : still sub S = true) {j : Nat} {te : EV} {env : Env} (f : MkC → D) (h0 : env[0]? = some (some (.ref n))) (hj : 0 < j) (hl : j < env.length)
    (hf : ∀ m ∈ t.marks, te (env.set j (some (.ref m.a))) S = .ok (f m, S)) (ms : List MkC) (hm : ∀ m ∈ ms, m ∈ t.marks) :
    lcGo sub (.one j) (tv (eMeth 16 "is_there" 2 m_Table_is_there (eV 0) (aCons (eV j) (aNil)))) te env (refsM ms) [] S = .ok ((ms.filter (thr t.lasts)).map f, S) := by
  have gt := h.tb
  have g0 : ∀ d, (env.set j d)[0]? = some (some (.ref n)) := fun d => by rw [List.getElem?_set_ne (by omega)]; exact h0
  have gj : ∀ d, (env.set j d)[j]? = some d := fun d => by rw [List.getElem?_set_self hl]
  have gen : ∀ (ms : List MkC) (acc : List D), (∀ m ∈ ms, m ∈ t.marks) → lcGo sub (.one j) (tv (eMeth 16 "is_there" 2 m_Table_is_there (eV 0) (aCons (eV j) (aNil)))) te env (refsM ms) acc S = .ok (acc ++ (ms.filter (thr t.lasts)).map f, S) := by
    intro ms
    induction ms with
    | nil => intro acc _; rw [show refsM [] = [] from rfl, lcGo_nil hs]; simp
    | cons m ms ih =>
      intro acc hm
      have hmm := hm m (by simp)
      have th := is_there_ok h w hmm
      rw [show refsM (m :: ms) = .ref m.a :: refsM ms from rfl, lcGo_cons hs]
      have e : tv (eMeth 16 "is_there" 2 m_Table_is_there (eV 0) (aCons (eV j) (aNil))) (env.set j (some (.ref m.a))) S = .ok (thr t.lasts m, S) := by
        simp [g0, gt, tn_is_there, gj, th]
      simp only [Tg1.put, e, noX_ok, R.bind_ok]
      cases q : thr t.lasts m with
      | true =>
        simp only [if_true, hf m hmm, noX_ok, R.bind_ok]
        rw [ih _ fun m hm' => hm m (by simp [hm'])]
        simp [q]
      | false =>
        simp only [Bool.false_eq_true, if_false]
        rw [ih _ fun m hm' => hm m (by simp [hm'])]
        simp [q]
  have := gen ms [] hm
  simpa using this
/-- the text of what is there -/
def txtT (t : TC) : List Nat := (t.marks.filter (thr t.lasts)).map (·.sg)
def rowsS (s : List Nat) : Page := (splitL [10] s).map (splitL [9])
def rowsT (t : TC) : Page := rowsS (txtT t)
def m_Table_lines : FV := funD 4 (d_Table_lines m_Table_is_there)
theorem splitL_len1 (S s : List Nat) : (splitL S s).length ≤ s.length + 1 := by
  have gen : ∀ (s : List Nat) (k : Nat) (acc : List Nat), (TL.spl S k acc s).length ≤ s.length + 1 := by
    intro s
    induction s with
    | nil => intro k acc; cases k <;> simp [TL.spl]
    | cons c s ih =>
      intro k acc
      cases k with
      | zero =>
        rw [TL.spl]
        split
        · have := ih (S.length - 1) []; simp; omega
        · have := ih 0 (acc ++ [c]); simp; omega
      | succ k =>
        rw [TL.spl]
        have := ih k acc; simp; omega
  exact gen s 0 []
theorem join_signs (S : Store) (ms : List MkC) (h : ms.length ≤ 10000) : joinG S (.str []) [.lst (ms.map fun m => .str [m.sg])] = .ok (.str (ms.map (·.sg)), S) := by
  have := join_ones' (ms.map (·.sg)) S (le_LIM (by simp; omega))
  rw [List.map_map] at this
  exact this
theorem lines_ok (h : Tbl S n y t) (w : TOk N t) : m_Table_lines [.ref n] S = .ok (.ref S.length, S ++ [.lst (encP (rowsT t))]) := by
  rw [m_Table_lines, funD, d_Table_lines]
  have gt := h.tb
  have lm : t.marks.length ≤ LIM := le_LIM (by have := w.lm; have := w.le; omega)
  have it : itemsOf S (.lst (refsM t.marks)) = some (refsM t.marks, []) := rfl
  have fl := List.length_filter_le (thr t.lasts) t.marks
  have key := marks_lc h w (sub := []) rfl (j := 2) (te := eFld 15 "sign" (eV 2)) (env := [some (.ref n), none, none, none]) (fun m => .str [m.sg]) rfl (by decide) (by simp) (fun m hm => by
    have g := (h.mk hm).1
    simp [g, mk_sign]) t.marks (fun _ h => h)
  have jn := join_signs S (t.marks.filter (thr t.lasts)) (by have := w.lm; have := w.le; omega)
  have ll : (refsM t.marks).length ≤ LIM := by simp [refsM]; exact lm
  have em : t.marks.map (fun m => D.ref m.a) = refsM t.marks := rfl
  have sl := splitL_len1 [10] (txtT t)
  have tl : (txtT t).length ≤ 10000 := by unfold txtT; rw [List.length_map]; have := w.lm; have := w.le; omega
  have sl2 : (splitL [10] (txtT t)).length ≤ LIM := le_LIM (by omega)
  rw [show (t.marks.filter (thr t.lasts)).map (·.sg) = txtT t from rfl] at jn
  generalize (t.marks.filter (thr t.lasts)).map (fun m => D.str [m.sg]) = SG at key jn
  have it2 : itemsOf S (.lst ((splitL [10] (txtT t)).map D.str)) = some ((splitL [10] (txtT t)).map D.str, []) := rfl
  simp [gt, tb_marks, em, it, ll, key, tyM, jn, splitG, it2, sl2]
  rw [lc_map (st := S) rfl (fun d => match d with | .str s => encR (splitL [9] s) | d => d) ((splitL [10] (txtT t)).map D.str) (fun d hd => by
    obtain ⟨s, hs, rfl⟩ := List.mem_map.mp hd
    refine ⟨_, rfl, ?_⟩
    simp [tyM, splitG, tupG, lstOf, encR])]
  have e : ((splitL [10] (txtT t)).map D.str).map (fun d => match d with | .str s => encR (splitL [9] s) | d => d) = encP (rowsT t) := by
    unfold encP rowsT rowsS
    rw [List.map_map, List.map_map]; rfl
  rw [e]
def pageB (p : Page) : Bool := decide (p.length ≤ 30) && p.all okRow
def m_Table_is_page : FV := funD 3 (d_Table_is_page m_Table_lines m_is_row)
theorem is_page_ok (h : Tbl S n y t) (w : TOk N t) : m_Table_is_page [.ref n] S = .ok (.bl (pageB (rowsT t)), S ++ [.lst (encP (rowsT t))]) := by
  rw [m_Table_is_page, funD, d_Table_is_page]
  have gt := h.tb
  have li := lines_ok h w
  have fl := fr_list S (encP (rowsT t))
  have ln := len_list fl
  have it := items_list fl
  have st := still_list fl
  have sl := splitL_len1 [10] (txtT t)
  have tl : (txtT t).length ≤ 10000 := by unfold txtT; rw [List.length_map]; have := w.lm; have := w.le; have := List.length_filter_le (thr t.lasts) t.marks; omega
  have rl : (rowsT t).length ≤ LIM := le_LIM (by unfold rowsT rowsS; rw [List.length_map]; omega)
  simp only [encP_len] at ln
  obtain ⟨S1, hS1⟩ : ∃ S1, S1 = S ++ [Ob.lst (encP (rowsT t))] := ⟨_, rfl⟩
  rw [← hS1] at li fl ln it st ⊢
  have key : lcGo [(S.length, encP (rowsT t))] (.one 2) tYesD (eNot (eCall 1 m_is_row (aCons (eV 2) (aNil)))) [some (.ref n), some (.ref S.length), none] (encP (rowsT t)) [] S1 = .ok (((rowsT t).map fun r => !okRow r).map .bl, S1) := by
    have gen : ∀ (q : Page) (acc : List D), lcGo [(S.length, encP (rowsT t))] (.one 2) tYesD (eNot (eCall 1 m_is_row (aCons (eV 2) (aNil)))) [some (.ref n), some (.ref S.length), none] (encP q) acc S1 = .ok (acc ++ (q.map fun r => !okRow r).map .bl, S1) := by
      intro q
      induction q with
      | nil => intro acc; rw [show encP [] = [] from rfl, lcGo_nil st]; simp
      | cons r q ih =>
        intro acc
        have ir := is_row_tup r S1
        rw [show encP (r :: q) = encR r :: encP q from rfl, lcGo_cons st]
        generalize encR r = R at ir ⊢
        simp [Tg1.put, ir, ih]
    exact gen _ []
  have an := any_lst S1 ((rowsT t).map fun r => !okRow r)
  have ea : ((rowsT t).map fun r => !okRow r).any id = !(rowsT t).all okRow := by
    rw [List.any_map]
    induction rowsT t with
    | nil => rfl
    | cons r q ih => rw [List.any_cons, List.all_cons, ih]; cases h : okRow r <;> simp [h]
  rw [ea] at an
  generalize ((rowsT t).map fun r => !okRow r).map D.bl = BB at key an
  unfold pageB
  have le : leG S1 (.int ((rowsT t).length : Int)) (.int 30) = .ok (.bl (decide ((rowsT t).length ≤ 30)), S1) := by
    show R.ok (D.bl (decide (((rowsT t).length : Int) ≤ 30)), S1) = _
    congr 3
    rw [decide_eq_decide]; omega
  have rl2 : (encP (rowsT t)).length ≤ LIM := by rw [encP_len]; exact rl
  cases hd : decide ((rowsT t).length ≤ 30) with
  | true =>
    rw [hd] at le
    simp [gt, tn_lines, li, ln, le, it, rl, key, an]
  | false =>
    rw [hd] at le
    simp [gt, tn_lines, li, ln, le]
def numM (ms : List MkC) (o : Option Nat) : Nat := ms.findIdx fun m => decide (some m.name = o)
theorem numM_le (ms : List MkC) (o : Option Nat) : numM ms o ≤ ms.length := List.findIdx_le_length
def m_Table_number_of : FV := funD 4 d_Table_number_of
theorem eq_name (S : Store) (k : Nat) (o : Option Nat) : eqG false S (.int k) (encN o) = .ok (.bl (decide (some k = o)), S) := by
  cases o with
  | none => rw [eqG_pl rfl rfl (by simp) (by simp [encN])]; simp [encN]
  | some j =>
    unfold encN
    rw [eqG_int]
    simp
    omega
theorem number_of_ok (h : Tbl S n y t) (w : TOk N t) {i : Nat} {o : Option Nat} (hi : t.stood[i]? = some o) : m_Table_number_of [.ref n, .int i] S = .ok (.int (numM t.marks o), S) := by
  rw [m_Table_number_of, funD, d_Table_number_of]
  have gt := h.tb
  have gs := h.st
  have lS : listOf S (.ref t.s) = some (t.stood.map encN, [(t.s, t.stood.map encN)]) := by simp only [listOf, gs]
  have ixs : ixG S (.ref t.s) (.int (i : Int)) = .ok (encN o, S) := by
    rw [ix_list lS, atI_nat, List.getElem?_map, hi]; rfl
  have em : t.marks.map (fun m => D.ref m.a) = refsM t.marks := rfl
  simp [gt, tb_marks, em, listOf]
  generalize hf : forGo _ _ _ _ _ _ = r
  have P : ∃ a2 a3, (numM t.marks o < t.marks.length ∧ r = .rt (.int (numM t.marks o)) S) ∨ (numM t.marks o = t.marks.length ∧ r = .nx [some (.ref n), some (.int i), a2, a3] S) := by
    refine for_atE hf (fun j env st' => st' = S ∧ (∃ a2 a3, env = [some (.ref n), some (.int i), a2, a3]) ∧ ∀ k, k < j → ∀ m, t.marks[k]? = some m → ¬ some m.name = o) (fun r => ∃ a2 a3, (numM t.marks o < t.marks.length ∧ r = .rt (.int (numM t.marks o)) S) ∨ (numM t.marks o = t.marks.length ∧ r = .nx [some (.ref n), some (.int i), a2, a3] S)) ⟨rfl, ⟨_, _, rfl⟩, fun k hk => absurd hk (Nat.not_lt_zero _)⟩ (fun _ _ _ _ _ => rfl) (fun j d env st' hj ⟨e1, ⟨a2, a3, e2⟩, e3⟩ => ?_) (fun e s ⟨e1, ⟨a2, a3, e2⟩, e3⟩ => ?_)
    · subst e1 e2
      obtain ⟨d', hd', rfl⟩ := pairUp_at hj
      unfold refsM at hd'
      rw [List.getElem?_map] at hd'
      cases q : t.marks[j]? with
      | none => rw [q] at hd'; cases hd'
      | some m =>
        rw [q] at hd'
        cases hd'
        have hm := List.mem_of_getElem? q
        have g := (h.mk hm).1
        have en := eq_name st' m.name o
        refine ⟨[some (.ref n), some (.int i), some (.int j), some (.ref m.a)], st', by simp, ?_⟩
        by_cases z : some m.name = o
        · have jl := (List.getElem?_eq_some_iff.mp q).1
          have hn : numM t.marks o = j := by
            unfold numM
            rw [List.findIdx_eq jl]
            refine ⟨by rw [(List.getElem?_eq_some_iff.mp q).2]; exact decide_eq_true z, fun k hk => ?_⟩
            have := e3 k hk _ (List.getElem?_eq_getElem (by omega))
            simpa using this
          rw [decide_eq_true z] at en
          simp [g, mk_name, gt, tb_stood, ixs, en]
          rw [hn]
          exact ⟨jl, rfl⟩
        · rw [decide_eq_false z] at en
          simp [g, mk_name, gt, tb_stood, ixs, en]
          intro k hk m' hm'
          rcases Nat.lt_or_ge k j with a | a
          · exact e3 k a m' hm'
          · have : k = j := by omega
            subst this
            rw [q] at hm'; cases hm'
            exact z
    · subst e1 e2
      refine ⟨a2, a3, .inr ⟨?_, rfl⟩⟩
      unfold numM
      rw [List.findIdx_eq_length]
      intro m hm
      obtain ⟨k, hk⟩ := List.getElem?_of_mem hm
      have kl := (List.getElem?_eq_some_iff.mp hk).1
      have := e3 k (by rw [pairUp_len]; simp [refsM]; exact kl) m hk
      simpa using this
  obtain ⟨a2, a3, ⟨_, rfl⟩ | ⟨hn, rfl⟩⟩ := P
  · simp
  · have ln : lenG S [.lst (refsM t.marks)] = .ok (.int t.marks.length, S) := by rw [len_l]; simp [refsM]
    simp [gt, tb_marks, em, ln, hn]
def aheadM (t : TC) (o : Option Nat) : List MkC := (t.marks.take (numM t.marks o)).filter (thr t.lasts)
def m_Table_ahead : FV := funD 3 (d_Table_ahead m_Table_number_of m_Table_is_there)
theorem refs_take (ms : List MkC) (k : Nat) : cutD (refsM ms) none (some (k : Int)) = refsM (ms.take k) := by rw [cut_to]; unfold refsM; rw [List.map_take]
theorem refs_drop (ms : List MkC) (k : Nat) : cutD (refsM ms) (some (k : Int)) none = refsM (ms.drop k) := by rw [cut_from]; unfold refsM; rw [List.map_drop]
theorem ahead_ok (h : Tbl S n y t) (w : TOk N t) {i : Nat} {o : Option Nat} (hi : t.stood[i]? = some o) : m_Table_ahead [.ref n, .int i] S = .ok (.lst (refsM (aheadM t o)), S) := by
  rw [m_Table_ahead, funD, d_Table_ahead]
  have gt := h.tb
  have no := number_of_ok h w hi
  have em : t.marks.map (fun m => D.ref m.a) = refsM t.marks := rfl
  have key := marks_lc h w (sub := []) rfl (j := 2) (te := eV 2) (env := [some (.ref n), some (.int i), none]) (fun m => .ref m.a) rfl (by decide) (by simp) (fun m hm => by simp) (t.marks.take (numM t.marks o)) (fun m hm => List.mem_of_mem_take hm)
  have sl := sl_l S (refsM t.marks) none (some (numM t.marks o : Int))
  rw [refs_take] at sl
  have ll : (refsM (t.marks.take (numM t.marks o))).length ≤ LIM := le_LIM (by unfold refsM; rw [List.length_map, List.length_take]; have := w.lm; have := w.le; omega)
  have it : itemsOf S (.lst (refsM (t.marks.take (numM t.marks o)))) = some (refsM (t.marks.take (numM t.marks o)), []) := rfl
  unfold aheadM refsM at *
  generalize t.marks.take (numM t.marks o) = TK at *
  generalize List.map (fun m => D.ref m.a) TK = RT at *
  simp [gt, tb_marks, tn_number_of, no, sl, it, ll, key]
def m_Table_need_hand : FV := funD 2 (d_Table_need_hand m_is_number)
theorem need_hand_ok (h : Tbl S n y t) {i : Nat} (hi : i < t.stood.length) : m_Table_need_hand [.ref n, .int i] S = .ok (.non, S) := by
  rw [m_Table_need_hand, funD, d_Table_need_hand]
  have gt := h.tb
  have gs := h.st
  have lS : listOf S (.ref t.s) = some (t.stood.map encN, [(t.s, t.stood.map encN)]) := by simp only [listOf, gs]
  have ln := len_list lS
  simp only [List.length_map] at ln
  have nb := is_number_int (i : Int) 0 ((t.stood.length : Int) - 1) S
  have sb : subG S (.int (t.stood.length : Int)) (.int 1) = .ok (.int ((t.stood.length : Int) - 1), S) := rfl
  have c : (0 : Int) ≤ i ∧ (i : Int) ≤ (t.stood.length : Int) - 1 := by omega
  simp [gt, tb_stood, ln, sb, nb, c.1, c.2]
end
end Dl
namespace Dl
open PySem L2
/-- a table's step: what stands elsewhere stays; its places were its own, or are new -/
structure Step (S S' : Store) (n : Nat) (y : Sty) (t t' : TC) : Prop where
  tb : Tbl S' n y t'
  st : Stay S S' (keysT n y t)
  ks : ∀ k ∈ keysT n y t', k ∈ keysT n y t ∨ S.length ≤ k
section
variable {S T U : Store} {n N : Nat} {y : Sty} {t a b c : TC}
theorem Step.refl (h : Tbl S n y t) : Step S S n y t t := ⟨h, Stay.refl _ _, fun _ h => .inl h⟩
theorem Step.trans (h : Step S T n y a b) (k : Step T U n y b c) : Step S U n y a c := ⟨k.tb, h.st.trans k.st h.ks, fun x hx => by
  rcases k.ks x hx with q | q
  · exact h.ks x q
  · exact .inr (Nat.le_trans h.st.1 q)⟩
theorem Step.app (h : Tbl S n y t) (M : Store) : Step S (S ++ M) n y t t := ⟨Has.app h, Stay.app _ _ _, fun _ h => .inl h⟩
theorem Step.setS (h : Tbl S n y t) (v : List (Option Nat)) : Step S (S.set t.s (.lst (v.map encN))) n y t { t with stood := v } :=
  ⟨Has.set (A := [(n, .ins 16 (tbFs y t))]) (k := t.s) (o := .lst (t.stood.map encN)) _ h, Stay.set _ _ _ (by simp [keysT, objsT]), fun _ h => .inl h⟩
theorem Step.setD (h : Tbl S n y t) (v : List (Nat × List Nat)) : Step S (S.set t.d (.lst (v.map encDd))) n y t { t with deeds := v } :=
  ⟨Has.set (A := [(n, .ins 16 (tbFs y t)), (t.s, .lst (t.stood.map encN))]) (k := t.d) (o := .lst (t.deeds.map encDd)) _ h, Stay.set _ _ _ (by simp [keysT, objsT]), fun _ h => .inl h⟩
theorem Step.setL (h : Tbl S n y t) (v : List Bool) : Step S (S.set t.l (.lst (v.map .bl))) n y t { t with lasts := v } :=
  ⟨Has.set (A := [(n, .ins 16 (tbFs y t)), (t.s, .lst (t.stood.map encN)), (t.d, .lst (t.deeds.map encDd))]) (k := t.l) (o := .lst (t.lasts.map .bl)) _ h, Stay.set _ _ _ (by simp [keysT, objsT]), fun _ h => .inl h⟩
theorem cut_list {A : Type} {l : List A} {i : Nat} {x : A} (h : l[i]? = some x) : l = l.take i ++ x :: l.drop (i + 1) := by
  have hl := (List.getElem?_eq_some_iff.mp h).1
  have e := (List.getElem?_eq_some_iff.mp h).2
  conv => lhs; rw [← List.take_append_drop i l]
  rw [List.drop_eq_getElem_cons hl, e]
theorem set_list_cut {A : Type} {l : List A} {i : Nat} {x : A} (h : l[i]? = some x) (z : A) : l.set i z = l.take i ++ z :: l.drop (i + 1) := by
  have hl := (List.getElem?_eq_some_iff.mp h).1
  rw [List.set_eq_take_append_cons_drop, if_pos hl]
/-- a hand's list of what it took back is another one -/
theorem Step.setU (h : Tbl S n y t) {i : Nat} {x : List Nat × Nat} (hi : t.undone[i]? = some x) (ks : List Nat) : Step S (S.set x.2 (.lst (natsD ks))) n y t { t with undone := t.undone.set i (ks, x.2) } := by
  have e2 : (t.undone.set i (ks, x.2)).map (fun x => D.ref x.2) = t.undone.map fun x => .ref x.2 := by
    rw [List.map_set]
    have := (List.getElem?_eq_some_iff.mp hi)
    obtain ⟨hl, e⟩ := this
    refine List.ext_getElem? fun j => ?_
    rw [List.getElem?_set]
    by_cases hj : i = j
    · subst hj
      rw [if_pos rfl, if_pos (by simpa using hl), List.getElem?_map, hi]; rfl
    · rw [if_neg hj]
  have e1 : ∀ (u : List (List Nat × Nat)) (z : List Nat × Nat), u.map (fun x => D.ref x.2) = t.undone.map (fun x => .ref x.2) → u = t.undone.take i ++ z :: t.undone.drop (i + 1) → objsT n y { t with undone := u } = ([(n, .ins 16 (tbFs y t)), (t.s, .lst (t.stood.map encN)), (t.d, .lst (t.deeds.map encDd)), (t.l, .lst (t.lasts.map .bl)), (t.u, .lst (t.undone.map fun x => .ref x.2))] ++ (t.undone.take i).map unOb) ++ (z.2, .lst (natsD z.1)) :: ((t.undone.drop (i + 1)).map unOb ++ t.marks.flatMap mkOb) := fun u z h1 h2 => by
    unfold objsT
    simp only [h1]
    rw [h2]
    simp [unOb, tbFs]
  have o1 := e1 t.undone x rfl (cut_list hi)
  have o2 := e1 (t.undone.set i (ks, x.2)) (ks, x.2) e2 (set_list_cut hi _)
  refine ⟨?_, ?_, fun k hk => .inl ?_⟩
  · show Has _ _
    rw [o2]
    refine Has.set (o := .lst (natsD x.1)) _ ?_
    rw [← o1]
    exact h
  · refine Stay.set _ _ _ ?_
    show x.2 ∈ (objsT n y t).map (·.1)
    rw [show objsT n y t = objsT n y { t with undone := t.undone } from rfl, o1]
    simp
  · show k ∈ (objsT n y t).map (·.1)
    rw [show objsT n y t = objsT n y { t with undone := t.undone } from rfl, o1]
    unfold keysT at hk
    rw [o2] at hk
    simpa using hk
def hdA (n : Nat) (y : Sty) (t : TC) : List (Nat × Ob) := [(n, .ins 16 (tbFs y t)), (t.s, .lst (t.stood.map encN)), (t.d, .lst (t.deeds.map encDd)), (t.l, .lst (t.lasts.map .bl))]
/-- a hand's list of what it took back is a new one -/
theorem Step.newU (h : Tbl S n y t) {i : Nat} {x : List Nat × Nat} (hi : t.undone[i]? = some x) : Step S (List.set (S ++ [Ob.lst []]) t.u (Ob.lst ((t.undone.set i ([], S.length)).map fun x => D.ref x.2))) n y t { t with undone := t.undone.set i ([], S.length) } := by
  have c1 := cut_list hi
  have c2 := set_list_cut hi ([], S.length)
  obtain ⟨A, hA⟩ : ∃ A, A = t.undone.take i := ⟨_, rfl⟩
  obtain ⟨B, hB⟩ : ∃ B, B = t.undone.drop (i + 1) := ⟨_, rfl⟩
  rw [← hA, ← hB] at c1 c2
  obtain ⟨M, hM⟩ : ∃ M, M = t.marks.flatMap mkOb := ⟨_, rfl⟩
  have e0 : t.undone.map unOb = A.map unOb ++ unOb x :: B.map unOb := by
    conv => lhs; rw [c1]
    rw [List.map_append, List.map_cons]
  have h0 : Has S (hdA n y t ++ (t.u, .lst (t.undone.map fun x => .ref x.2)) :: (A.map unOb ++ unOb x :: (B.map unOb ++ M))) := by
    have : objsT n y t = hdA n y t ++ (t.u, .lst (t.undone.map fun x => .ref x.2)) :: (A.map unOb ++ unOb x :: (B.map unOb ++ M)) := by
      unfold objsT
      rw [hM, e0]
      simp [hdA]
    rw [← this]; exact h
  have h1 : Has S (hdA n y t ++ (t.u, .lst (t.undone.map fun x => .ref x.2)) :: (A.map unOb ++ (B.map unOb ++ M))) := by
    refine h0.sub ?_
    exact (List.Sublist.refl _).append ((List.Sublist.refl _).cons₂ _ |>.trans (List.Sublist.cons₂ _ ((List.Sublist.refl _).append (List.sublist_cons_self _ _))))
  have h2 := (h1.new (.lst [])).perm (M := hdA n y t ++ (t.u, .lst (t.undone.map fun x => .ref x.2)) :: (A.map unOb ++ (S.length, Ob.lst []) :: (B.map unOb ++ M))) (by
    rw [List.append_assoc]
    refine List.Perm.append_left _ ?_
    rw [List.cons_append]
    refine List.Perm.cons _ ?_
    rw [List.append_assoc]
    refine List.Perm.append_left _ ?_
    exact List.perm_append_singleton _ _)
  have h3 := h2.set (.lst ((t.undone.set i ([], S.length)).map fun x => .ref x.2))
  have o2 : objsT n y { t with undone := t.undone.set i ([], S.length) } = hdA n y t ++ (t.u, .lst ((t.undone.set i ([], S.length)).map fun x => .ref x.2)) :: (A.map unOb ++ (S.length, Ob.lst []) :: (B.map unOb ++ M)) := by
    unfold objsT
    simp only
    rw [hM]
    have : (t.undone.set i ([], S.length)).map unOb = A.map unOb ++ (S.length, Ob.lst []) :: B.map unOb := by rw [c2]; simp [unOb, natsD]
    rw [this]
    simp [tbFs, hdA]
  have ku : t.u ∈ keysT n y t := by simp [keysT, objsT]
  refine ⟨?_, ?_, fun k hk => ?_⟩
  · show Has _ _
    rw [o2]
    exact h3
  · have s1 := Stay.app S [Ob.lst []] (keysT n y t)
    exact s1.trans (Stay.set _ (keysT n y t) _ ku) fun b hb => .inl hb
  · unfold keysT at hk ⊢
    rw [o2] at hk
    have hk0 : objsT n y t = hdA n y t ++ (t.u, .lst (t.undone.map fun x => .ref x.2)) :: (A.map unOb ++ unOb x :: (B.map unOb ++ M)) := by
      unfold objsT
      rw [hM, e0]
      simp [hdA]
    rw [hk0]
    simp only [List.map_append, List.map_cons, List.mem_append, List.mem_cons, List.map_nil, List.not_mem_nil, or_false] at hk ⊢
    rcases hk with hk | hk | hk | hk | hk | hk
    · exact .inl (.inl hk)
    · exact .inl (.inr (.inl hk))
    · exact .inl (.inr (.inr (.inl hk)))
    · exact .inr (by omega)
    · exact .inl (.inr (.inr (.inr (.inr (.inl hk)))))
    · exact .inl (.inr (.inr (.inr (.inr (.inr hk)))))
/-- a mark's cuts are other ones -/
theorem Step.setC (h : Tbl S n y t) {i : Nat} {m : MkC} (hi : t.marks[i]? = some m) (cs : List Nat) : Step S (S.set m.c (.lst (natsD cs))) n y t { t with marks := t.marks.set i { m with cuts := cs } } := by
  have em : (t.marks.set i { m with cuts := cs }).map (fun m => D.ref m.a) = t.marks.map fun m => .ref m.a := by
    rw [List.map_set]
    refine List.ext_getElem? fun j => ?_
    rw [List.getElem?_set]
    by_cases hj : i = j
    · subst hj
      rw [if_pos rfl, if_pos (by simpa using (List.getElem?_eq_some_iff.mp hi).1), List.getElem?_map, hi]; rfl
    · rw [if_neg hj]
  have e1 : ∀ (ms : List MkC) (z : MkC), ms.map (fun m => D.ref m.a) = t.marks.map (fun m => .ref m.a) → ms = t.marks.take i ++ z :: t.marks.drop (i + 1) → objsT n y { t with marks := ms } = ([(n, .ins 16 (tbFs y t)), (t.s, .lst (t.stood.map encN)), (t.d, .lst (t.deeds.map encDd)), (t.l, .lst (t.lasts.map .bl)), (t.u, .lst (t.undone.map fun x => .ref x.2))] ++ t.undone.map unOb ++ (t.marks.take i).flatMap mkOb ++ [(z.a, .ins 15 (mkFs z))]) ++ (z.c, .lst (natsD z.cuts)) :: (t.marks.drop (i + 1)).flatMap mkOb := fun ms z h1 h2 => by
    have : tbFs y { t with marks := ms } = tbFs y t := by unfold tbFs; simp only [h1]
    unfold objsT
    rw [this]
    simp only
    rw [h2]
    simp [mkOb]
  have o1 := e1 t.marks m rfl (cut_list hi)
  have o2 := e1 (t.marks.set i { m with cuts := cs }) { m with cuts := cs } em (set_list_cut hi _)
  refine ⟨?_, ?_, fun k hk => .inl ?_⟩
  · show Has _ _
    rw [o2]
    refine Has.set (o := .lst (natsD m.cuts)) _ ?_
    have := h
    unfold Tbl at this
    rw [show objsT n y t = objsT n y { t with marks := t.marks } from rfl, o1] at this
    exact this
  · refine Stay.set _ _ _ ?_
    show m.c ∈ (objsT n y t).map (·.1)
    rw [show objsT n y t = objsT n y { t with marks := t.marks } from rfl, o1]
    simp
  · show k ∈ (objsT n y t).map (·.1)
    rw [show objsT n y t = objsT n y { t with marks := t.marks } from rfl, o1]
    unfold keysT at hk
    rw [o2] at hk
    simpa using hk
end
end Dl
namespace Dl
open PySem L2
theorem setL_at {S : Store} {k i : Nat} {L : List D} {v : D} (h : S[k]? = some (.lst L)) (hi : i < L.length) : setLG S (.ref k) (.int i) v = some (S.set k (.lst (L.set i v))) := by
  unfold setLG
  simp only [h]
  have : ixN L.length (i : Int) = some i := by
    have h1 : (0 : Int) ≤ i := by omega
    have h2 : (i : Int) < (L.length : Nat) := by omega
    rw [ixN, if_pos h1, if_pos h2]; simp
  rw [this]
theorem pop_at {S : Store} {k : Nat} {L : List D} {x : D} (h : S[k]? = some (.lst (L ++ [x]))) : popG S (.ref k) [] = .ok (x, S.set k (.lst L)) := by
  unfold popG
  simp only [h]
  have e1 : (L ++ [x])[(L ++ [x]).length - 1]? = some x := by simp
  have e2 : (L ++ [x]).dropLast = L := by simp
  rw [e1]
  simp only [e2]
theorem set_get {S : Store} {k : Nat} {o : Ob} (h : S[k]? = some o) : S.set k o = S := by
  refine List.ext_getElem? fun i => ?_
  rw [List.getElem?_set]
  by_cases hi : k = i
  · subst hi
    rw [if_pos rfl, if_pos (List.getElem?_eq_some_iff.mp h).1, h]
  · rw [if_neg hi]
theorem set_set {S : Store} {k : Nat} {o p : Ob} : (S.set k o).set k p = S.set k p := List.set_set ..
def goS (t : TC) (o : Option Nat) : Option Nat := (((t.marks.drop (numM t.marks o)).filter (thr t.lasts)).head?).map (·.name)
def goT (t : TC) : TC := { t with stood := t.stood.map (goS t) }
section
variable {S : Store} {n N : Nat} {y : Sty} {t : TC}
theorem first_nm (S : Store) (ms : List MkC) (env : Env) (j : Nat) (hj : env[j]? = some (some (.lst (ms.map fun m => .int m.name)))) :
    eIf (tv (eOp (eqG true) (eV j) (eLst false (aNil)))) (eOp ixG (eV j) (eC (.int 0))) (eC .non) env S = .ok (encN (ms.head?.map (·.name)), S) := by
  have e : eqG true S (.lst (ms.map fun m => .int (m.name : Int))) (.lst []) = .ok (.bl (!decide (ms = [])), S) := by
    rw [eqG_pl (by simp [pls_iff]) rfl (by
      have : D.dps (ms.map fun m => D.int (m.name : Int)) ≤ 1 := dps_le.mpr fun d hd => by
        obtain ⟨m, _, rfl⟩ := List.mem_map.mp hd
        simp
      simp; omega) (by simp)]
    simp
  cases ms with
  | nil =>
    simp only [List.map_nil] at hj e
    simp [hj, e, encN]
  | cons m ms =>
    have ix : ixG S (.lst ((m :: ms).map fun m => .int (m.name : Int))) (.int 0) = .ok (.int m.name, S) := by
      rw [ixL, show (0 : Int) = ((0 : Nat) : Int) from rfl, atI_nat]; rfl
    simp only [List.map_cons] at hj e ix
    simp [hj, e, ix, encN]
def m_Table_go_on : FV := funD 4 (d_Table_go_on m_Table_number_of m_Table_is_there)
theorem TOk.stood (w : TOk N t) (v : List (Option Nat)) (hv : ∀ k, some k ∈ v → ∃ m ∈ t.marks, m.name = k) (hl : v.length = t.stood.length) : TOk N { t with stood := v } :=
  ⟨w.le, w.born, w.cuts, w.dl, w.su.trans hl.symm, w.nam, w.sgn, hv, w.und, w.lm, w.ll, w.lc, w.lu, by rw [hl]; exact w.lh⟩
theorem goS_mem (t : TC) (o : Option Nat) : ∀ k, goS t o = some k → ∃ m ∈ t.marks, m.name = k := fun k h => by
  unfold goS at h
  cases q : ((t.marks.drop (numM t.marks o)).filter (thr t.lasts)).head? with
  | none => rw [q] at h; cases h
  | some m =>
    rw [q] at h
    cases h
    exact ⟨m, List.mem_of_mem_drop (List.mem_filter.mp (List.mem_of_head? q)).1, rfl⟩
theorem TOk.go (w : TOk N t) : TOk N (goT t) := w.stood _ (fun k hk => by
  obtain ⟨o, _, e⟩ := List.mem_map.mp hk
  exact goS_mem t o k e) (by simp)
theorem go_on_ok (h : Tbl S n y t) (w : TOk N t) : m_Table_go_on [.ref n] S = .ok (.non, S.set t.s (.lst ((goT t).stood.map encN))) := by
  rw [m_Table_go_on, funD, d_Table_go_on]
  have gt := h.tb
  have gs := h.st
  have lS : listOf S (.ref t.s) = some (t.stood.map encN, [(t.s, t.stood.map encN)]) := by simp only [listOf, gs]
  have ln := len_list lS
  simp only [List.length_map] at ln
  have m1 : -1000000 ≤ (t.stood.length : Int) ∧ (t.stood.length : Int) ≤ 1000000 := by have := w.lh; omega
  have em : t.marks.map (fun m => D.ref m.a) = refsM t.marks := rfl
  simp [gt, tb_stood, ln, m1]
  generalize hf : forGo _ _ _ _ _ _ = r
  obtain ⟨e, s, rfl, rfl, a1, a2, a3, rfl⟩ := for_at hf (fun i env st' => st' = S.set t.s (.lst (((t.stood.take i).map (goS t) ++ t.stood.drop i).map encN)) ∧ ∃ a1 a2 a3, env = [some (.ref n), a1, a2, a3]) ⟨by simp [set_get gs], _, _, _, rfl⟩ (fun _ _ _ _ _ => rfl) (fun i x env st' hi ⟨e1, a1, a2, a3, e2⟩ => by
    subst e2
    obtain ⟨hi2, rfl⟩ := ints_get hi
    obtain ⟨o, ho⟩ : ∃ o, t.stood[i]? = some o := ⟨t.stood[i], by simp [hi2]⟩
    obtain ⟨v, hv⟩ : ∃ v, v = (t.stood.take i).map (goS t) ++ t.stood.drop i := ⟨_, rfl⟩
    rw [← hv] at e1
    have ti : (t.stood.take i).length = i := by rw [List.length_take]; omega
    have vl : v.length = t.stood.length := by rw [hv, List.length_append, List.length_map, ti, List.length_drop]; omega
    have vi : v[i]? = some o := by
      rw [hv, List.getElem?_append_right (by rw [List.length_map, ti]; omega), List.length_map, ti, Nat.sub_self, List.getElem?_drop]; simpa using ho
    have h1 := (Step.setS h v).tb
    rw [← e1] at h1
    have w1 : TOk N { t with stood := v } := w.stood v (fun k hk => by
      rw [hv] at hk
      rcases List.mem_append.mp hk with hk | hk
      · obtain ⟨o, _, e⟩ := List.mem_map.mp hk
        exact goS_mem t o k e
      · exact w.sto k (List.mem_of_mem_drop hk)) vl
    have no := number_of_ok h1 w1 vi
    have gt1 := h1.tb
    have gs1 := h1.st
    have sl := sl_l st' (refsM t.marks) (some (numM t.marks o : Int)) none
    rw [refs_drop] at sl
    have key := marks_lc h1 w1 (sub := []) rfl (j := 3) (te := eFld 15 "name" (eV 3)) (env := [some (.ref n), some (.int i), a2, none]) (fun m => .int m.name) rfl (by decide) (by simp) (fun m hm => by
      have g := (h1.mk hm).1
      simp [g, mk_name]) (t.marks.drop (numM t.marks o)) (fun m hm => List.mem_of_mem_drop hm)
    have ll : (refsM (t.marks.drop (numM t.marks o))).length ≤ LIM := le_LIM (by unfold refsM; rw [List.length_map, List.length_drop]; have := w.lm; have := w.le; omega)
    have it : itemsOf st' (.lst (refsM (t.marks.drop (numM t.marks o)))) = some (refsM (t.marks.drop (numM t.marks o)), []) := rfl
    have fn := first_nm st' ((t.marks.drop (numM t.marks o)).filter (thr t.lasts))
    have eg : ((t.marks.drop (numM t.marks o)).filter (thr t.lasts)).head?.map (·.name) = goS t o := rfl
    rw [eg] at fn
    have s1 : eLc false (iSeq (eSl false (eFld 16 "marks" (eV 0)) (poSome (eMeth 16 "number_of" 2 m_Table_number_of (eV 0) (aCons (eV 1) (aNil)))) (poNone))) [3] (.one 3) (tv (eMeth 16 "is_there" 2 m_Table_is_there (eV 0) (aCons (eV 3) (aNil)))) (eFld 15 "name" (eV 3)) [some (.ref n), some (.int i), a2, a3] st' = .ok (.lst (((t.marks.drop (numM t.marks o)).filter (thr t.lasts)).map fun m => .int m.name), st') := by
      generalize ((t.marks.drop (numM t.marks o)).filter (thr t.lasts)).map (fun m => D.int (m.name : Int)) = NN at key ⊢
      generalize refsM (t.marks.drop (numM t.marks o)) = RR at key sl ll it
      simp [gt1, tb_marks, em, tn_number_of, no, sl, it, ll, key]
    rw [r_gN]
    simp only [sOf_m, List.set_cons_succ, List.set_cons_zero]
    rw [sCons_nx (sAsgN_at s1)]
    simp only [List.set_cons_succ, List.set_cons_zero]
    have fn2 := fn [some (.ref n), some (.int i), some (.lst (((t.marks.drop (numM t.marks o)).filter (thr t.lasts)).map fun m => .int m.name)), a3] 2 rfl
    generalize ((t.marks.drop (numM t.marks o)).filter (thr t.lasts)).map (fun m => D.int (m.name : Int)) = NN at fn2 ⊢
    have sa := setL_at (v := encN (goS t o)) gs1 (by rw [List.length_map]; show i < v.length; omega)
    have ev : (v.map encN).set i (encN (goS t o)) = ((t.stood.take (i + 1)).map (goS t) ++ t.stood.drop (i + 1)).map encN := by
      rw [← List.map_set]
      congr 1
      rw [set_list_cut vi, hv, take_snoc ho, List.take_append_of_le_length (by rw [List.length_map, ti]; omega), List.take_of_length_le (by rw [List.length_map, ti]; omega), List.drop_append, List.length_map, ti]
      rw [List.drop_of_length_le (by rw [List.length_map, ti]; omega), List.drop_drop]
      simp
    have sa2 : setLG st' (.ref t.s) (.int i) (encN (goS t o)) = some (st'.set t.s (.lst ((v.map encN).set i (encN (goS t o))))) := sa
    rw [ev] at sa2
    have ef : sAsg (eIf (tv (eOp (eqG true) (eV 2) (eLst false (aNil)))) (eOp ixG (eV 2) (eC (.int 0))) (eC .non)) (gSb (eFld 16 "stood" (eV 0)) (eV 1) setLG) [some (.ref n), some (.int i), some (.lst NN), a3] st' = .nx [some (.ref n), some (.int i), some (.lst NN), a3] (st'.set t.s (.lst (((t.stood.take (i + 1)).map (goS t) ++ t.stood.drop (i + 1)).map encN))) := by
      rw [r_sAsg, fn2]
      simp [gt1, tb_stood, sa2]
    refine turn_eq ef ⟨?_, _, _, _, rfl⟩
    rw [e1, set_set])
  rw [intsD_len, List.take_length, List.drop_length, List.append_nil]
  rfl
theorem go_step (h : Tbl S n y t) (w : TOk N t) : ∃ S', m_Table_go_on [.ref n] S = .ok (.non, S') ∧ Step S S' n y t (goT t) := ⟨_, go_on_ok h w, Step.setS h _⟩
def noteT (t : TC) (hand : Nat) (s : List Nat) : TC := { t with deeds := t.deeds ++ [(hand, s)], lasts := t.lasts ++ [true] }
def m_Table_note : FV := funD 3 d_Table_note
theorem note_step (h : Tbl S n y t) (hdl : t.deeds.length ≤ 10000) (hll : t.lasts.length ≤ 10000) (hand : Nat) (s : List Nat) : ∃ S', m_Table_note [.ref n, .int hand, .str s] S = .ok (.non, S') ∧ Step S S' n y t (noteT t hand s) ∧ S'.length = S.length := by
  rw [m_Table_note, funD, d_Table_note]
  have gt := h.tb
  have tyd : tyM S (.ref t.d) = some "list" := by simp only [tyM, h.de]
  have ap1 := app_at (.tup [.int hand, .str s]) h.de (by rw [List.length_map]; omega)
  have e1 : t.deeds.map encDd ++ [.tup [.int hand, .str s]] = (t.deeds ++ [(hand, s)]).map encDd := by simp [encDd]
  rw [e1] at ap1
  have s1 := Step.setD h (t.deeds ++ [(hand, s)])
  have h1 := s1.tb
  have tyl : tyM (S.set t.d (.lst ((t.deeds ++ [(hand, s)]).map encDd))) (.ref t.l) = some "list" := by
    have := h1.la
    simp only [tyM]
    rw [show (S.set t.d (.lst ((t.deeds ++ [(hand, s)]).map encDd)))[t.l]? = _ from this]
  have ap2 := app_at (.bl true) h1.la (by show (List.map D.bl t.lasts).length < _; rw [List.length_map]; omega)
  have e2 : t.lasts.map D.bl ++ [.bl true] = (t.lasts ++ [true]).map .bl := by simp
  have ap3 : appendG (S.set t.d (.lst ((t.deeds ++ [(hand, s)]).map encDd))) (.ref t.l) [.bl true] = .ok (.non, (S.set t.d (.lst ((t.deeds ++ [(hand, s)]).map encDd))).set t.l (.lst (t.lasts.map D.bl ++ [.bl true]))) := ap2
  rw [e2] at ap3
  have s2 := Step.setL h1 (t.lasts ++ [true])
  have gt1 := h1.tb
  have two : (2 : Nat) ≤ LIM := by decide
  refine ⟨_, ?_, s1.trans s2, by simp⟩
  generalize hS1 : S.set t.d (.lst ((t.deeds ++ [(hand, s)]).map encDd)) = S1 at *
  have gt2 : S1[n]? = some (.ins 16 (tbFs y t)) := gt1
  simp [gt, gt2, tb_deeds, tb_lasting, two, tyd, ap1, tyl, ap3]
theorem TOk.mono {M : Nat} (w : TOk N t) (h : N ≤ M) (h2 : M ≤ 10000) : TOk M t :=
  ⟨h2, w.born, w.cuts, w.dl, w.su, w.nam, w.sgn, w.sto, w.und, Nat.le_trans w.lm h, Nat.le_trans w.ll h, fun m hm => Nat.le_trans (w.lc m hm) h, fun x hx => Nat.le_trans (w.lu x hx) h, w.lh⟩
def m_Table_forget : FV := funD 1 d_Table_forget
theorem forget_step {d : Nat × List Nat} {b : Bool} {ds : List (Nat × List Nat)} {bs : List Bool} (h : Tbl S n y t) (hd : t.deeds = ds ++ [d]) (hb : t.lasts = bs ++ [b]) : ∃ S', m_Table_forget [.ref n] S = .ok (.non, S') ∧ Step S S' n y t { t with deeds := ds, lasts := bs } ∧ S'.length = S.length := by
  rw [m_Table_forget, funD, d_Table_forget]
  have gt := h.tb
  have tyd : tyM S (.ref t.d) = some "list" := by simp only [tyM, h.de]
  have gd := h.de
  rw [hd, List.map_append, List.map_cons, List.map_nil] at gd
  have p1 := pop_at gd
  have s1 := Step.setD h ds
  have h1 := s1.tb
  have gl : (S.set t.d (.lst (ds.map encDd)))[t.l]? = some (.lst (t.lasts.map .bl)) := h1.la
  have tyl : tyM (S.set t.d (.lst (ds.map encDd))) (.ref t.l) = some "list" := by simp only [tyM, gl]
  rw [hb, List.map_append, List.map_cons, List.map_nil] at gl
  have p2 := pop_at gl
  have s2 := Step.setL h1 bs
  have gt1 : (S.set t.d (.lst (ds.map encDd)))[n]? = some (.ins 16 (tbFs y t)) := h1.tb
  refine ⟨_, ?_, s1.trans s2, by simp⟩
  generalize hS1 : S.set t.d (.lst (ds.map encDd)) = S1 at *
  simp [gt, gt1, tb_deeds, tb_lasting, tyd, p1, tyl, p2]
def lastT (t : TC) (k : Nat) (b : Bool) : TC := { t with lasts := t.lasts.set k b }
theorem TOk.last (w : TOk N t) (k : Nat) (b : Bool) : TOk N (lastT t k b) := by
  have ln : (lastT t k b).lasts.length = t.lasts.length := by simp [lastT]
  exact ⟨w.le, fun m hm b hb => by rw [ln]; exact w.born m hm b hb, fun m hm c hc => by rw [ln]; exact w.cuts m hm c hc, by rw [ln]; exact w.dl, w.su, w.nam, w.sgn, w.sto, fun x hx k hk => by rw [ln]; exact w.und x hx k hk, w.lm, by rw [ln]; exact w.ll, w.lc, w.lu, w.lh⟩
def m_Table_turn : FV := funD 3 (d_Table_turn m_Table_is_page m_Table_go_on)
theorem turn_ok (h : Tbl S n y t) (w : TOk N t) {k : Nat} {b : Bool} (hk : t.lasts[k]? = some (!b)) :
    (pageB (rowsT (lastT t k b)) = true ∧ ∃ S', m_Table_turn [.ref n, .int k, .bl b] S = .ok (.non, S') ∧ Step S S' n y t (goT (lastT t k b))) ∨
    (pageB (rowsT (lastT t k b)) = false ∧ ∃ S', m_Table_turn [.ref n, .int k, .bl b] S = .exc 7 none S' ∧ Step S S' n y t t) := by
  rw [m_Table_turn, funD, d_Table_turn]
  have gt := h.tb
  have kl := (List.getElem?_eq_some_iff.mp hk).1
  have sa := setL_at (v := .bl b) h.la (by rw [List.length_map]; exact kl)
  have ea : (t.lasts.map D.bl).set k (.bl b) = (t.lasts.set k b).map .bl := by rw [List.map_set]
  rw [ea] at sa
  have s1 := Step.setL h (t.lasts.set k b)
  obtain ⟨S1, hS1⟩ : ∃ S1, S1 = S.set t.l (.lst ((t.lasts.set k b).map .bl)) := ⟨_, rfl⟩
  rw [← hS1] at sa s1
  have w1 := w.last k b
  have h1 : Tbl S1 n y (lastT t k b) := s1.tb
  have ip := is_page_ok h1 w1
  have gt1 : S1[n]? = some (.ins 16 (tbFs y t)) := h1.tb
  obtain ⟨S2, hS2⟩ : ∃ S2, S2 = S1 ++ [.lst (encP (rowsT (lastT t k b)))] := ⟨_, rfl⟩
  rw [← hS2] at ip
  have s2 : Step S1 S2 n y (lastT t k b) (lastT t k b) := by rw [hS2]; exact Step.app h1 _
  have h2 := s2.tb
  have gt2 : S2[n]? = some (.ins 16 (tbFs y t)) := h2.tb
  cases hp : pageB (rowsT (lastT t k b)) with
  | true =>
    left
    refine ⟨rfl, ?_⟩
    rw [hp] at ip
    obtain ⟨S3, g3, s3⟩ := go_step h2 w1
    refine ⟨S3, ?_, s1.trans (s2.trans s3)⟩
    simp [gt, tb_lasting, sa, gt1, tn_is_page, ip, gt2, tn_go_on, g3]
  | false =>
    right
    refine ⟨rfl, ?_⟩
    rw [hp] at ip
    have sb := setL_at (v := .bl (!b)) h2.la (by show k < ((t.lasts.set k b).map D.bl).length; rw [List.length_map, List.length_set]; exact kl)
    have eb : ((t.lasts.set k b).map D.bl).set k (.bl (!b)) = t.lasts.map .bl := by
      rw [← List.map_set, List.set_set]
      congr 1
      have hx : t.lasts[k] = !b := (List.getElem?_eq_some_iff.mp hk).2
      rw [← hx]
      exact List.set_getElem_self kl
    have sb2 : setLG S2 (.ref t.l) (.int k) (.bl (!b)) = some (S2.set t.l (.lst (((t.lasts.set k b).map D.bl).set k (.bl (!b))))) := sb
    rw [eb] at sb2
    have s3 := Step.setL h2 t.lasts
    have s4 : Step S2 (S2.set t.l (.lst (t.lasts.map .bl))) n y (lastT t k b) t := s3
    refine ⟨_, ?_, s1.trans (s2.trans s4)⟩
    simp [gt, tb_lasting, sa, gt1, tn_is_page, ip, gt2, sb2]
def mineT (t : TC) (hand : Nat) : List Nat := (List.range t.deeds.length).filter fun i => decide ((t.deeds.getD i (0, [])).1 = hand) && t.lasts.getD i false
def undT (t : TC) (hand : Nat) : List Nat := (t.undone.getD hand ([], 0)).1
def setUn (t : TC) (hand : Nat) (ks : List Nat) : TC := { t with undone := t.undone.set hand (ks, (t.undone.getD hand ([], 0)).2) }
def backT (t : TC) (hand k : Nat) : TC := setUn (goT (lastT t k false)) hand (undT t hand ++ [k])
def againT (t : TC) (hand k : Nat) : TC := setUn (goT (lastT t k true)) hand (undT t hand).dropLast
theorem TOk.setUn (w : TOk N t) (hN : N < 10000) {hand : Nat} {ks : List Nat} (hk : ∀ k ∈ ks, k < t.lasts.length) (hl : ks.length ≤ N + 1) : TOk (N + 1) (setUn t hand ks) := by
  refine ⟨hN, w.born, w.cuts, w.dl, ?_, w.nam, w.sgn, w.sto, fun x hx k hkx => ?_, by have := w.lm; show t.marks.length ≤ _; omega, by have := w.ll; show t.lasts.length ≤ _; omega, fun m hm => by have := w.lc m hm; omega, fun x hx => ?_, w.lh⟩
  · show (t.undone.set _ _).length = _
    rw [List.length_set]; exact w.su
  · rcases List.mem_or_eq_of_mem_set hx with hx | rfl
    · exact w.und x hx k hkx
    · exact hk k hkx
  · rcases List.mem_or_eq_of_mem_set hx with hx | rfl
    · have := w.lu x hx; omega
    · exact hl
theorem und_at (w : TOk N t) {hand : Nat} (hh : hand < t.stood.length) : ∃ x, t.undone[hand]? = some x ∧ x = (undT t hand, (t.undone.getD hand ([], 0)).2) := by
  have hl : hand < t.undone.length := by rw [w.su]; exact hh
  refine ⟨t.undone[hand], by simp [hl], ?_⟩
  unfold undT
  simp [hl]
def m_Table_back : FV := funD 5 (d_Table_back m_Table_need_hand m_Table_turn)
theorem deeds_ix (S : Store) (d : Nat × List Nat) : ixG S (encDd d) (.int 0) = .ok (.int d.1, S) := rfl
theorem mine_lc (h : Tbl S n y t) (w : TOk N t) (hand : Nat) (a2 : Option D) :
    lcGo [(t.d, t.deeds.map encDd)] (.two 3 4) (tAndD (tv (eOp (eqG false) (eOp ixG (eV 4) (eC (.int 0))) (eV 1))) (tv (eOp ixG (eFld 16 "lasting" (eV 0)) (eV 3)))) (eV 3) [some (.ref n), some (.int hand), a2, none, none] (pairUp (t.deeds.map encDd)) [] S = .ok (natsD (mineT t hand), S) := by
  have gt := h.tb
  have gd := h.de
  have lD : listOf S (.ref t.d) = some (t.deeds.map encDd, [(t.d, t.deeds.map encDd)]) := by simp only [listOf, gd]
  have lL : listOf S (.ref t.l) = some (t.lasts.map .bl, [(t.l, t.lasts.map .bl)]) := by simp only [listOf, h.la]
  generalize hf : lcGo _ _ _ _ _ _ _ _ = r
  obtain ⟨acc, s, rfl, rfl, rfl⟩ := lc_at hf (fun i acc st' => st' = S ∧ acc = natsD ((List.range i).filter fun i => decide ((t.deeds.getD i (0, [])).1 = hand) && t.lasts.getD i false)) ⟨rfl, rfl⟩ (fun i acc st' _ hI => by rw [hI.1]; exact still_list lD) (fun i x acc st' hi ⟨e1, e2⟩ => by
    subst e1 e2
    obtain ⟨d', hd', rfl⟩ := pairUp_at hi
    rw [List.getElem?_map] at hd'
    cases q : t.deeds[i]? with
    | none => rw [q] at hd'; cases hd'
    | some d =>
      rw [q] at hd'
      cases hd'
      have il := (List.getElem?_eq_some_iff.mp q).1
      have ill : i < t.lasts.length := by have := w.dl; omega
      have ixl : ixG st' (.ref t.l) (.int (i : Int)) = .ok (.bl (t.lasts.getD i false), st') := by rw [ix_list lL, blsD_at ill]; rfl
      have ix0 := deeds_ix st' d
      have dg : t.deeds.getD i (0, []) = d := by rw [List.getD_eq_getElem?_getD, q]; rfl
      refine ⟨[some (.ref n), some (.int hand), a2, some (.int i), some (encDd d)], rfl, ?_⟩
      rw [List.range_succ, List.filter_append]
      generalize encDd d = DD at ix0 ⊢
      by_cases hz : d.1 = hand
      · have hz' : (d.1 : Int) = hand := by omega
        have e : tAndD (tv (eOp (eqG false) (eOp ixG (eV 4) (eC (.int 0))) (eV 1))) (tv (eOp ixG (eFld 16 "lasting" (eV 0)) (eV 3))) [some (.ref n), some (.int hand), a2, some (.int i), some DD] st' = .ok (t.lasts.getD i false, st') := by
          simp only [List.getD_eq_getElem?_getD] at ixl ⊢
          simp [ix0, hz', gt, tb_lasting, ixl]
        rw [e]
        simp only [to_ok]
        cases hb : t.lasts.getD i false with
        | true =>
          rw [if_pos rfl]
          simp only [r_eV, List.getElem?_cons_succ, List.getElem?_cons_zero, to_ok]
          refine ⟨by first | rfl | trivial, ?_⟩
          rw [List.filter_cons, if_pos (by simp only [dg, hz, hb]; simp)]
          simp [natsD]
        | false =>
          rw [if_neg (by decide)]
          refine ⟨by first | rfl | trivial, ?_⟩
          rw [List.filter_cons, if_neg (by simp only [dg, hz, hb]; simp)]
          simp
      · have hz' : ¬ (d.1 : Int) = hand := by omega
        have e : tAndD (tv (eOp (eqG false) (eOp ixG (eV 4) (eC (.int 0))) (eV 1))) (tv (eOp ixG (eFld 16 "lasting" (eV 0)) (eV 3))) [some (.ref n), some (.int hand), a2, some (.int i), some DD] st' = .ok (false, st') := by
          simp [ix0, hz']
        rw [e]
        simp only [to_ok]
        rw [if_neg (by decide)]
        refine ⟨by first | rfl | trivial, ?_⟩
        rw [List.filter_cons, if_neg (by simp only [dg, hz]; simp)]
        simp)
  rw [pairUp_len, List.length_map]
  rfl
theorem nats_nil (S : Store) (neg : Bool) (ks : List Nat) : eqG neg S (.lst (natsD ks)) (.lst []) = .ok (.bl (if neg = true then !decide (ks = []) else decide (ks = [])), S) := by
  rw [eqG_pl (by unfold natsD; simp [pls_iff]) rfl (by
    have : D.dps (natsD ks) ≤ 1 := dps_le.mpr fun d hd => by
      obtain ⟨m, _, rfl⟩ := List.mem_map.mp hd
      simp
    simp; omega) (by simp)]
  have : (natsD ks = []) = (ks = []) := by unfold natsD; simp
  simp [this]
theorem mine_in {hand k : Nat} (w : TOk N t) (h : k ∈ mineT t hand) : t.lasts[k]? = some true ∧ (t.deeds.getD k (0, [])).1 = hand ∧ k < t.deeds.length := by
  unfold mineT at h
  obtain ⟨h1, h2⟩ := List.mem_filter.mp h
  rw [List.mem_range] at h1
  rw [Bool.and_eq_true, decide_eq_true_eq] at h2
  have kl : k < t.lasts.length := by have := w.dl; omega
  refine ⟨?_, h2.1, h1⟩
  rw [List.getElem?_eq_getElem kl]
  have := h2.2
  rw [List.getD_eq_getElem?_getD, List.getElem?_eq_getElem kl] at this
  simpa using this
/-- back: nothing to be taken back; or taken back; or refused -/
theorem back_ok (h : Tbl S n y t) (w : TOk N t) {hand : Nat} (hh : hand < t.stood.length) :
    (mineT t hand = [] ∧ m_Table_back [.ref n, .int hand] S = .ok (.bl false, S)) ∨ ∃ k, (mineT t hand).getLast? = some k ∧
      ((pageB (rowsT (lastT t k false)) = true ∧ ∃ S', m_Table_back [.ref n, .int hand] S = .ok (.bl true, S') ∧ Step S S' n y t (backT t hand k)) ∨
       (pageB (rowsT (lastT t k false)) = false ∧ ∃ S', m_Table_back [.ref n, .int hand] S = .exc 7 none S' ∧ Step S S' n y t t)) := by
  rw [m_Table_back, funD, d_Table_back]
  have gt := h.tb
  have gd := h.de
  have lD : listOf S (.ref t.d) = some (t.deeds.map encDd, [(t.d, t.deeds.map encDd)]) := by simp only [listOf, gd]
  have nh := need_hand_ok h hh
  have key := mine_lc h w hand none
  have pl : (pairUp (t.deeds.map encDd)).length ≤ LIM := le_LIM (by rw [pairUp_len, List.length_map]; have := w.dl; have := w.ll; have := w.le; omega)
  have nn := nats_nil S false (mineT t hand)
  have s1 : eLc false (iEn (aCons (eFld 16 "deeds" (eV 0)) (aNil))) [3, 4] (.two 3 4) (tAndD (tv (eOp (eqG false) (eOp ixG (eV 4) (eC (.int 0))) (eV 1))) (tv (eOp ixG (eFld 16 "lasting" (eV 0)) (eV 3)))) (eV 3) [some (.ref n), some (.int hand), none, none, none] S = .ok (.lst (natsD (mineT t hand)), S) := by
    generalize natsD (mineT t hand) = MM at key ⊢
    simp [gt, tb_deeds, lD, pl, key]
  simp only [List.map_cons, List.map_nil, List.length_cons, List.length_nil, List.cons_append, List.nil_append, show List.replicate (5 - (0 + 1 + 1)) (none : Option D) = [none, none, none] from rfl]
  rw [sCons_nx (e := [some (.ref n), some (.int hand), none, none, none]) (s := S) (by simp [gt, tn_need_hand, nh])]
  rw [sCons_nx (sAsgN_at s1)]
  simp only [List.set_cons_succ, List.set_cons_zero]
  by_cases hm : mineT t hand = []
  · left
    refine ⟨hm, ?_⟩
    rw [hm] at nn ⊢
    rw [r_sCons, sIf_at (b := true) (sx := S) (by simp [nn]), if_pos rfl]
    simp
  · right
    obtain ⟨k, hk⟩ : ∃ k, (mineT t hand).getLast? = some k := by
      cases q : (mineT t hand).getLast? with
      | none => exact absurd (List.getLast?_eq_none_iff.mp q) hm
      | some k => exact ⟨k, rfl⟩
    refine ⟨k, hk, ?_⟩
    obtain ⟨ml, _, kd⟩ := mine_in w (List.mem_of_getLast? hk)
    have ixk : ∀ S, ixG S (.lst (natsD (mineT t hand))) (.int (-1)) = .ok (.int k, S) := fun S => by
      obtain ⟨l, hl⟩ := List.getLast?_eq_some_iff.mp hk
      rw [ixL, hl]
      have : atI (natsD (l ++ [k])) (-1) = some (.int k) := by
        unfold natsD
        rw [List.map_append, List.map_cons, List.map_nil]
        exact atI_last _ _
      rw [this]; rfl
    rw [decide_eq_false hm] at nn
    have sif : sIf (tv (eOp (eqG false) (eV 2) (eLst false (aNil)))) (sRet (eC (.bl false))) (sNext) [some (.ref n), some (.int hand), some (.lst (natsD (mineT t hand))), none, none] S = .nx [some (.ref n), some (.int hand), some (.lst (natsD (mineT t hand))), none, none] S := by
      rw [sIf_at (b := false) (sx := S) (by simp [nn]), if_neg (by decide)]
      rfl
    rw [sCons_nx sif]
    generalize natsD (mineT t hand) = MM at ixk ⊢
    rcases turn_ok h w (k := k) (b := false) ml with ⟨hp, S1, g1, st1⟩ | ⟨hp, S1, g1, st1⟩
    · left
      refine ⟨hp, ?_⟩
      have h1 := st1.tb
      have w1 := (w.last k false).go
      obtain ⟨x, ux, ex⟩ := und_at w hh
      have gt1 : S1[n]? = some (.ins 16 (tbFs y t)) := h1.tb
      have un1 := h1.un
      have lU : listOf S1 (.ref t.u) = some (t.undone.map (fun x => .ref x.2), [(t.u, t.undone.map fun x => .ref x.2)]) := by
        simp only [listOf]
        rw [show S1[t.u]? = _ from un1]
        rfl
      have ixu : ixG S1 (.ref t.u) (.int (hand : Int)) = .ok (.ref x.2, S1) := by
        rw [ix_list lU, atI_nat, List.getElem?_map, ux]; rfl
      have gu : S1[x.2]? = some (.lst (natsD x.1)) := h1.uk (t := goT (lastT t k false)) (List.mem_of_getElem? ux)
      have tyu : tyM S1 (.ref x.2) = some "list" := by simp only [tyM, gu]
      have ap := app_at (.int k) gu (by rw [natsD_len]; have := w.lu x (List.mem_of_getElem? ux); have := w.le; omega)
      have en : natsD x.1 ++ [.int k] = natsD (x.1 ++ [k]) := by simp [natsD]
      rw [en] at ap
      have s2 := Step.setU h1 (t := goT (lastT t k false)) ux (x.1 ++ [k])
      have eb : { goT (lastT t k false) with undone := (goT (lastT t k false)).undone.set hand (x.1 ++ [k], x.2) } = backT t hand k := by
        unfold backT setUn
        rw [ex]
        rfl
      rw [eb] at s2
      refine ⟨_, ?_, st1.trans s2⟩
      simp [gt, tn_turn, ixk, g1, gt1, tb_undone, ixu, tyu, ap]
    · right
      refine ⟨hp, S1, ?_, st1⟩
      simp [gt, tn_turn, ixk, g1]
def m_Table_again : FV := funD 2 (d_Table_again_k32 m_Table_need_hand m_Table_turn)
/-- again: nothing; or let stand; or refused (the deed doesn't stand) -/
theorem again_ok (h : Tbl S n y t) (w : TOk N t) {hand : Nat} (hh : hand < t.stood.length) (hs : ∀ k ∈ undT t hand, t.lasts[k]? = some false) :
    (undT t hand = [] ∧ m_Table_again [.ref n, .int hand] S = .ok (.bl false, S)) ∨ ∃ k, (undT t hand).getLast? = some k ∧
      ((pageB (rowsT (lastT t k true)) = true ∧ ∃ S', m_Table_again [.ref n, .int hand] S = .ok (.bl true, S') ∧ Step S S' n y t (againT t hand k)) ∨
       (pageB (rowsT (lastT t k true)) = false ∧ ∃ S', m_Table_again [.ref n, .int hand] S = .exc 7 none S' ∧ Step S S' n y t t)) := by
  rw [m_Table_again, funD, d_Table_again_k32]
  have gt := h.tb
  have nh := need_hand_ok h hh
  obtain ⟨x, ux, ex⟩ := und_at w hh
  have x1 : x.1 = undT t hand := by rw [ex]
  have unL : ∀ {S1 : Store} {t1 : TC}, Tbl S1 n y t1 → t1.undone = t.undone → t1.u = t.u → ixG S1 (.ref t.u) (.int (hand : Int)) = .ok (.ref x.2, S1) := fun {S1 t1} h1 e1 e2 => by
    have un1 := h1.un
    rw [e1, e2] at un1
    have lU : listOf S1 (.ref t.u) = some (t.undone.map (fun x => .ref x.2), [(t.u, t.undone.map fun x => .ref x.2)]) := by simp only [listOf, un1]
    rw [ix_list lU, atI_nat, List.getElem?_map, ux]; rfl
  have ixu := unL h rfl rfl
  have gu : S[x.2]? = some (.lst (natsD x.1)) := h.uk (List.mem_of_getElem? ux)
  have nn : eqG false S (.ref x.2) (.lst []) = .ok (.bl (decide (x.1 = [])), S) := by
    rw [eqG_refL gu, nats_nil]; simp
  simp only [List.map_cons, List.map_nil, List.length_cons, List.length_nil, List.cons_append, List.nil_append, show List.replicate (2 - (0 + 1 + 1)) (none : Option D) = [] from rfl]
  rw [sCons_nx (e := [some (.ref n), some (.int hand)]) (s := S) (by simp [gt, tn_need_hand, nh])]
  by_cases hm : undT t hand = []
  · left
    refine ⟨hm, ?_⟩
    rw [x1, decide_eq_true hm] at nn
    rw [r_sCons, sIf_at (b := true) (sx := S) (by simp [gt, tb_undone, ixu, nn]), if_pos rfl]
    simp
  · right
    obtain ⟨k, hk⟩ : ∃ k, (undT t hand).getLast? = some k := by
      cases q : (undT t hand).getLast? with
      | none => exact absurd (List.getLast?_eq_none_iff.mp q) hm
      | some k => exact ⟨k, rfl⟩
    refine ⟨k, hk, ?_⟩
    have kf := hs k (List.mem_of_getLast? hk)
    rw [x1, decide_eq_false hm] at nn
    have sif : sIf (tv (eOp (eqG false) (eOp ixG (eFld 16 "undone" (eV 0)) (eV 1)) (eLst false (aNil)))) (sRet (eC (.bl false))) (sNext) [some (.ref n), some (.int hand)] S = .nx [some (.ref n), some (.int hand)] S := by
      rw [sIf_at (b := false) (sx := S) (by simp [gt, tb_undone, ixu, nn]), if_neg (by decide)]
      rfl
    rw [sCons_nx sif]
    obtain ⟨l, hl⟩ := List.getLast?_eq_some_iff.mp hk
    have ixk : ixG S (.ref x.2) (.int (-1)) = .ok (.int k, S) := by
      have lx : listOf S (.ref x.2) = some (natsD x.1, [(x.2, natsD x.1)]) := by simp only [listOf, gu]
      rw [ix_list lx, x1, hl]
      have : atI (natsD (l ++ [k])) (-1) = some (.int k) := by
        unfold natsD
        rw [List.map_append, List.map_cons, List.map_nil]
        exact atI_last _ _
      rw [this]; rfl
    rcases turn_ok h w (k := k) (b := true) kf with ⟨hp, S1, g1, st1⟩ | ⟨hp, S1, g1, st1⟩
    · left
      refine ⟨hp, ?_⟩
      have h1 := st1.tb
      have gt1 : S1[n]? = some (.ins 16 (tbFs y t)) := h1.tb
      have ixu1 := unL h1 rfl rfl
      have gu1 : S1[x.2]? = some (.lst (natsD x.1)) := h1.uk (t := goT (lastT t k true)) (List.mem_of_getElem? ux)
      have tyu : tyM S1 (.ref x.2) = some "list" := by simp only [tyM, gu1]
      have gu2 := gu1
      rw [x1, hl] at gu2
      unfold natsD at gu2
      rw [List.map_append, List.map_cons, List.map_nil] at gu2
      have pp := pop_at gu2
      have s2 := Step.setU h1 (t := goT (lastT t k true)) ux l
      have eb : { goT (lastT t k true) with undone := (goT (lastT t k true)).undone.set hand (l, x.2) } = againT t hand k := by
        unfold againT setUn
        have : (undT t hand).dropLast = l := by rw [hl]; simp
        rw [this, ex]
        rfl
      rw [eb] at s2
      refine ⟨_, ?_, st1.trans s2⟩
      unfold natsD
      simp [gt, tn_turn, tb_undone, ixu, ixk, g1, gt1, ixu1, tyu, pp]
    · right
      refine ⟨hp, S1, ?_, st1⟩
      simp [gt, tn_turn, tb_undone, ixu, ixk, g1]
end
end Dl
namespace Dl
open PySem L2
@[simp] theorem r_sFldAdd (c : Nat) (f : Str) (fo fv : EV) (env : Env) (st : Store) : sFldAdd c f fo fv env st = sOf (fo env st) fun o => match o.1 with
  | .ref i => match o.2[i]? with
    | some (.ins c' fs) => if c' = c then (match fs.lookup f with
      | some (.int a) => sOf (fv env o.2) fun v => match v.1, v.2[i]? with
        | .int b, some (.ins c2 fs2) => if c2 = c ∧ fs2.length < 900 then .nx env (v.2.set i (.ins c2 (putD f (.int (a + b)) fs2))) else .bad
        | _, _ => .bad
      | _ => .bad) else .bad
    | _ => .bad
  | _ => .bad := (rfl)
def lastB (p : Nat → Bool) : Nat → Option Nat
  | 0 => none
  | k + 1 => if p k = true then some k else lastB p k
def thrAt (t : TC) (i : Nat) : Bool := match t.marks[i]? with
  | some m => thr t.lasts m
  | none => false
def lastIx (t : TC) (o : Option Nat) : Option Nat := lastB (thrAt t) (numM t.marks o)
theorem lastB_some {p : Nat → Bool} : ∀ {k i : Nat}, lastB p k = some i → i < k ∧ p i = true ∧ ∀ j, i < j → j < k → p j = false
  | 0, i, h => by cases h
  | k + 1, i, h => by
    rw [lastB] at h
    split at h
    · rename_i hp
      cases h
      exact ⟨by omega, hp, fun j h1 h2 => by omega⟩
    · rename_i hp
      obtain ⟨a, b, c⟩ := lastB_some h
      refine ⟨by omega, b, fun j h1 h2 => ?_⟩
      rcases Nat.lt_or_ge j k with z | z
      · exact c j h1 z
      · have : j = k := by omega
        subst this
        simpa using hp
theorem ahead_last (t : TC) : ∀ k, k ≤ t.marks.length → ((t.marks.take k).filter (thr t.lasts)).getLast? = (lastB (thrAt t) k).bind fun i => t.marks[i]?
  | 0, _ => rfl
  | k + 1, h => by
    obtain ⟨m, hm⟩ : ∃ m, t.marks[k]? = some m := ⟨t.marks[k], by simp [show k < t.marks.length by omega]⟩
    rw [take_snoc hm, List.filter_append, lastB]
    have ht : thrAt t k = thr t.lasts m := by unfold thrAt; rw [hm]
    rw [ht]
    cases q : thr t.lasts m with
    | true => simp [q, hm]
    | false =>
      rw [if_neg (by decide), ← ahead_last t k (by omega)]
      simp [q]
theorem aheadM_last (t : TC) (o : Option Nat) : (aheadM t o).getLast? = (lastIx t o).bind fun i => t.marks[i]? := ahead_last t _ (numM_le _ _)
section
variable {S : Store} {n N : Nat} {y : Sty} {t : TC}
theorem refs_last (S : Store) {ms : List MkC} {m : MkC} (h : ms.getLast? = some m) : ixG S (.lst (refsM ms)) (.int (-1)) = .ok (.ref m.a, S) := by
  obtain ⟨l, hl⟩ := List.getLast?_eq_some_iff.mp h
  rw [ixL, hl]
  have : atI (refsM (l ++ [m])) (-1) = some (.ref m.a) := by
    unfold refsM
    rw [List.map_append, List.map_cons, List.map_nil]
    exact atI_last _ _
  rw [this]; rfl
theorem refs_eqNil (S : Store) (ms : List MkC) : eqNilG S (.lst (refsM ms)) (.lst []) = .ok (.bl (decide (ms = [])), S) := by
  unfold eqNilG
  simp only [lstOf]
  have : decide ((refsM ms).length = 0) = decide (ms = []) := by unfold refsM; simp
  rw [this]
def standT (t : TC) (hand : Nat) (o : Option Nat) : TC := { t with stood := t.stood.set hand o }
theorem TOk.stand (w : TOk N t) {hand : Nat} {o : Option Nat} (ho : ∀ k, o = some k → ∃ m ∈ t.marks, m.name = k) : TOk N (standT t hand o) := w.stood _ (fun k hk => by
  rcases List.mem_or_eq_of_mem_set hk with hk | e
  · exact w.sto k hk
  · exact ho k e.symm) (by simp)
theorem stand_step (h : Tbl S n y t) {hand : Nat} (hh : hand < t.stood.length) (o : Option Nat) : setLG S (.ref t.s) (.int hand) (encN o) = some (S.set t.s (.lst ((t.stood.set hand o).map encN))) ∧ Step S (S.set t.s (.lst ((t.stood.set hand o).map encN))) n y t (standT t hand o) := by
  have sa := setL_at (v := encN o) h.st (by rw [List.length_map]; exact hh)
  rw [← List.map_set] at sa
  exact ⟨sa, Step.setS h _⟩
def rightS (t : TC) (o : Option Nat) : Option Nat := (((t.marks.drop (numM t.marks o + 1)).filter (thr t.lasts)).head?).map (·.name)
theorem rightS_mem (t : TC) (o : Option Nat) : ∀ k, rightS t o = some k → ∃ m ∈ t.marks, m.name = k := fun k h => by
  unfold rightS at h
  cases q : ((t.marks.drop (numM t.marks o + 1)).filter (thr t.lasts)).head? with
  | none => rw [q] at h; cases h
  | some m =>
    rw [q] at h
    cases h
    exact ⟨m, List.mem_of_mem_drop (List.mem_filter.mp (List.mem_of_head? q)).1, rfl⟩
def m_Table_right : FV := funD 4 (d_Table_right m_Table_need_hand m_Table_number_of m_Table_is_there)
theorem right_ok (h : Tbl S n y t) (w : TOk N t) {hand : Nat} {o : Option Nat} (ho : t.stood[hand]? = some o) :
    (o = none ∧ m_Table_right [.ref n, .int hand] S = .ok (.bl false, S)) ∨ (o ≠ none ∧ ∃ S', m_Table_right [.ref n, .int hand] S = .ok (.bl true, S') ∧ Step S S' n y t (standT t hand (rightS t o))) := by
  rw [m_Table_right, funD, d_Table_right]
  have gt := h.tb
  have gs := h.st
  have hh := (List.getElem?_eq_some_iff.mp ho).1
  have nh := need_hand_ok h hh
  have no := number_of_ok h w ho
  have lS : listOf S (.ref t.s) = some (t.stood.map encN, [(t.s, t.stood.map encN)]) := by simp only [listOf, gs]
  have ixs : ixG S (.ref t.s) (.int (hand : Int)) = .ok (encN o, S) := by
    rw [ix_list lS, atI_nat, List.getElem?_map, ho]; rfl
  cases o with
  | none =>
    left
    refine ⟨rfl, ?_⟩
    simp [gt, tn_need_hand, nh, tb_stood, ixs, encN, isG]
  | some nm =>
    right
    refine ⟨by simp, ?_⟩
    have em : t.marks.map (fun m => D.ref m.a) = refsM t.marks := rfl
    obtain ⟨k, hk⟩ : ∃ k, k = numM t.marks (some nm) := ⟨_, rfl⟩
    rw [← hk] at no
    have sl := sl_l S (refsM t.marks) (some ((k : Int) + 1)) none
    rw [show (k : Int) + 1 = ((k + 1 : Nat) : Int) by omega, refs_drop] at sl
    have key := marks_lc h w (sub := []) rfl (j := 3) (te := eFld 15 "name" (eV 3)) (env := [some (.ref n), some (.int hand), none, none]) (fun m => .int m.name) rfl (by decide) (by simp) (fun m hm => by
      have g := (h.mk hm).1
      simp [g, mk_name]) (t.marks.drop (k + 1)) (fun m hm => List.mem_of_mem_drop hm)
    have ll : (refsM (t.marks.drop (k + 1))).length ≤ LIM := le_LIM (by unfold refsM; rw [List.length_map, List.length_drop]; have := w.lm; have := w.le; omega)
    have it : itemsOf S (.lst (refsM (t.marks.drop (k + 1)))) = some (refsM (t.marks.drop (k + 1)), []) := rfl
    have fn := first_nm S ((t.marks.drop (k + 1)).filter (thr t.lasts))
    have eg : ((t.marks.drop (k + 1)).filter (thr t.lasts)).head?.map (·.name) = rightS t (some nm) := by rw [hk]; rfl
    rw [eg] at fn
    have s1 : eLc false (iSeq (eSl false (eFld 16 "marks" (eV 0)) (poSome (eOp (addG false) (eMeth 16 "number_of" 2 m_Table_number_of (eV 0) (aCons (eV 1) (aNil))) (eC (.int 1)))) (poNone))) [3] (.one 3) (tv (eMeth 16 "is_there" 2 m_Table_is_there (eV 0) (aCons (eV 3) (aNil)))) (eFld 15 "name" (eV 3)) [some (.ref n), some (.int hand), none, none] S = .ok (.lst (((t.marks.drop (k + 1)).filter (thr t.lasts)).map fun m => .int m.name), S) := by
      generalize ((t.marks.drop (k + 1)).filter (thr t.lasts)).map (fun m => D.int (m.name : Int)) = NN at key ⊢
      generalize refsM (t.marks.drop (k + 1)) = RR at key sl ll it
      rw [show ((k + 1 : Nat) : Int) = (k : Int) + 1 by omega] at sl
      simp [gt, tb_marks, em, tn_number_of, no, add_ii, sl, it, ll, key]
    simp only [List.map_cons, List.map_nil, List.length_cons, List.length_nil, List.cons_append, List.nil_append, show List.replicate (4 - (0 + 1 + 1)) (none : Option D) = [none, none] from rfl]
    rw [sCons_nx (e := [some (.ref n), some (.int hand), none, none]) (s := S) (by simp [gt, tn_need_hand, nh])]
    have sif : sIf (tv (eOp (isG false) (eOp ixG (eFld 16 "stood" (eV 0)) (eV 1)) (eC .non))) (sRet (eC (.bl false))) (sNext) [some (.ref n), some (.int hand), none, none] S = .nx [some (.ref n), some (.int hand), none, none] S := by
      rw [sIf_at (b := false) (sx := S) (by simp [gt, tb_stood, ixs, encN, isG]), if_neg (by decide)]; rfl
    rw [sCons_nx sif]
    rw [sCons_nx (sAsgN_at s1)]
    simp only [List.set_cons_succ, List.set_cons_zero]
    have fn2 := fn [some (.ref n), some (.int hand), some (.lst (((t.marks.drop (k + 1)).filter (thr t.lasts)).map fun m => .int m.name)), none] 2 rfl
    generalize ((t.marks.drop (k + 1)).filter (thr t.lasts)).map (fun m => D.int (m.name : Int)) = NN at fn2 ⊢
    obtain ⟨sa, st⟩ := stand_step h hh (rightS t (some nm))
    refine ⟨_, ?_, st⟩
    generalize encN (rightS t (some nm)) = EN at fn2 sa
    have ef : sAsg (eIf (tv (eOp (eqG true) (eV 2) (eLst false (aNil)))) (eOp ixG (eV 2) (eC (.int 0))) (eC .non)) (gSb (eFld 16 "stood" (eV 0)) (eV 1) setLG) [some (.ref n), some (.int hand), some (.lst NN), none] S = .nx [some (.ref n), some (.int hand), some (.lst NN), none] (S.set t.s (.lst ((t.stood.set hand (rightS t (some nm))).map encN))) := by
      rw [r_sAsg, fn2]
      simp [gt, tb_stood, sa]
    rw [sCons_nx ef]
    simp
def atT (t : TC) (o : Option Nat) : Nat × Nat × Nat :=
  let lines := splitL [10] ((aheadM t o).map (·.sg))
  let cells := splitL [9] (lines.getLast?.getD [])
  (lines.length - 1, cells.length - 1, (cells.getLast?.getD []).length)
theorem splitL_ne (s : List Nat) (S : List Nat) : splitL S s ≠ [] := by
  have gen : ∀ (s : List Nat) (k : Nat) (acc : List Nat), TL.spl S k acc s ≠ [] := by
    intro s
    induction s with
    | nil => intro k acc; cases k <;> simp [TL.spl]
    | cons c s ih =>
      intro k acc
      cases k with
      | zero =>
        rw [TL.spl]
        split
        · simp
        · exact ih _ _
      | succ k => rw [TL.spl]; exact ih _ _
  exact gen s 0 []
theorem last_str (S : Store) {l : List (List Nat)} (h : l ≠ []) : ixG S (.lst (l.map D.str)) (.int (-1)) = .ok (.str (l.getLast?.getD []), S) := by
  rcases List.eq_nil_or_concat l with e | ⟨w, c, e⟩
  · exact absurd e h
  · rw [List.concat_eq_append] at e
    subst e
    rw [ixL]
    have : atI ((w ++ [c]).map D.str) (-1) = some (.str c) := by
      rw [List.map_append, List.map_cons, List.map_nil]
      exact atI_last _ _
    rw [this]; simp
def encA (a : Nat × Nat × Nat) : D := .tup [.int a.1, .int a.2.1, .int a.2.2]
def m_Table_at : FV := funD 5 (d_Table_at m_Table_need_hand m_Table_ahead)
theorem at_ok_t (h : Tbl S n y t) (w : TOk N t) {hand : Nat} {o : Option Nat} (ho : t.stood[hand]? = some o) : m_Table_at [.ref n, .int hand] S = .ok (encA (atT t o), S) := by
  rw [m_Table_at, funD, d_Table_at]
  have gt := h.tb
  have hh := (List.getElem?_eq_some_iff.mp ho).1
  have nh := need_hand_ok h hh
  have ah := ahead_ok h w ho
  have am : ∀ m ∈ aheadM t o, m ∈ t.marks := fun m hm => List.mem_of_mem_take (List.mem_filter.mp hm).1
  have al : (aheadM t o).length ≤ 10000 := by
    unfold aheadM
    have := List.length_filter_le (thr t.lasts) (t.marks.take (numM t.marks o))
    rw [List.length_take] at this
    have := w.lm; have := w.le; omega
  have it : itemsOf S (.lst (refsM (aheadM t o))) = some (refsM (aheadM t o), []) := rfl
  have ll : (refsM (aheadM t o)).length ≤ LIM := le_LIM (by unfold refsM; rw [List.length_map]; omega)
  have jn := join_signs S (aheadM t o) (by omega)
  have key : lcGo [] (.one 4) tYesD (eFld 15 "sign" (eV 4)) [some (.ref n), some (.int hand), none, none, none] (refsM (aheadM t o)) [] S = .ok ((aheadM t o).map fun m => .str [m.sg], S) := by
    have gen : ∀ (ms : List MkC) (acc : List D), (∀ m ∈ ms, m ∈ t.marks) → lcGo [] (.one 4) tYesD (eFld 15 "sign" (eV 4)) [some (.ref n), some (.int hand), none, none, none] (refsM ms) acc S = .ok (acc ++ ms.map fun m => .str [m.sg], S) := by
      intro ms
      induction ms with
      | nil => intro acc _; rw [show refsM [] = [] from rfl, lcGo_nil rfl]; simp
      | cons m ms ih =>
        intro acc hm
        have g := (h.mk (hm m (by simp))).1
        rw [show refsM (m :: ms) = .ref m.a :: refsM ms from rfl, lcGo_cons rfl]
        have := fun acc => ih acc fun m hm' => hm m (by simp [hm'])
        simp [Tg1.put, g, mk_sign, this]
    exact gen _ [] am
  have e1 : atT t o = ((splitL [10] ((aheadM t o).map (·.sg))).length - 1, (splitL [9] ((splitL [10] ((aheadM t o).map (·.sg))).getLast?.getD [])).length - 1, ((splitL [9] ((splitL [10] ((aheadM t o).map (·.sg))).getLast?.getD [])).getLast?.getD []).length) := rfl
  rw [e1]
  generalize (aheadM t o).map (fun m => D.str [m.sg]) = SG at key jn
  generalize refsM (aheadM t o) = RR at ah it ll key
  generalize (aheadM t o).map (·.sg) = TX at jn
  have n1 := splitL_ne TX [10]
  have l1 := last_str S n1
  have lim := splitL_len1 [10] TX
  generalize hL : splitL [10] TX = LI at n1 l1
  have n2 := splitL_ne (LI.getLast?.getD []) [9]
  have l2 := last_str S n2
  have sp1 : splitG false S (.str TX) [.str [10]] = .ok (.lst (LI.map D.str), S) := by simp [splitG, hL]
  have sp2 : splitG false S (.str (LI.getLast?.getD [])) [.str [9]] = .ok (.lst ((splitL [9] (LI.getLast?.getD [])).map D.str), S) := by simp [splitG]
  generalize hC : splitL [9] (LI.getLast?.getD []) = CE at n2 l2 sp2
  have p1 : LI.length ≠ 0 := fun z => n1 (List.length_eq_zero_iff.mp z)
  have p2 : CE.length ≠ 0 := fun z => n2 (List.length_eq_zero_iff.mp z)
  have sb : ∀ a b : Int, subG S (.int a) (.int b) = .ok (.int (a - b), S) := fun _ _ => rfl
  have k1 : ((LI.length - 1 : Nat) : Int) = (LI.length : Int) - 1 := by omega
  have k2 : ((CE.length - 1 : Nat) : Int) = (CE.length : Int) - 1 := by omega
  have three : (3 : Nat) ≤ LIM := by decide
  have ln : ∀ l : List (List Nat), lenG S [.lst (l.map D.str)] = .ok (.int l.length, S) := fun l => by rw [len_l, List.length_map]
  have ln1 := ln LI
  have ln2 := ln CE
  generalize LI.getLast?.getD [] = LL at l1 sp2 hC
  generalize CE.getLast?.getD [] = CC at l2
  unfold encA
  simp only [k1, k2]
  generalize LI.map D.str = DL1 at *
  generalize CE.map D.str = DL2 at *
  simp [gt, tn_need_hand, nh, tn_ahead, ah, it, ll, key, tyM, jn, sp1, l1, sp2, ln1, ln2, l2, len_s, sb, three]
def toldL (t : TC) : List D := (t.deeds.zip t.lasts).map fun x => .tup [.int x.1.1, .str x.1.2, .bl x.2]
def m_Table_told : FV := funD 3 d_Table_told
theorem told_ok_t (h : Tbl S n y t) (w : TOk N t) : m_Table_told [.ref n] S = .ok (.ref S.length, S ++ [.lst (toldL t)]) := by
  rw [m_Table_told, funD, d_Table_told]
  have gt := h.tb
  have lD : listOf S (.ref t.d) = some (t.deeds.map encDd, [(t.d, t.deeds.map encDd)]) := by simp only [listOf, h.de]
  have lL : listOf S (.ref t.l) = some (t.lasts.map .bl, [(t.l, t.lasts.map .bl)]) := by simp only [listOf, h.la]
  have zl : (zipUp (t.deeds.map encDd) (t.lasts.map .bl)).length = t.deeds.length := by
    rw [zipUp_len, List.length_map, List.length_map, w.dl, Nat.min_self]
  have zl2 : t.deeds.length ≤ LIM := le_LIM (by have := w.dl; have := w.ll; have := w.le; omega)
  simp [gt, tb_deeds, tb_lasting, lD, lL, zl, zl2]
  generalize q : lcGo _ _ _ _ _ _ _ _ = r'
  obtain ⟨acc, s, rfl, rfl, rfl⟩ := lc_at q (fun i acc st' => st' = S ∧ acc = (toldL t).take i) ⟨rfl, rfl⟩ (fun i acc st' _ hI => by
    rw [hI.1]
    have s1 := still_list lD
    have s2 := still_list lL
    unfold still at s1 s2 ⊢
    simp only [List.all_cons, List.all_nil, Bool.and_true] at s1 s2 ⊢
    rw [s1, s2]; rfl) (fun i x acc st' hi ⟨e1, e2⟩ => by
    subst e1 e2
    obtain ⟨a, b, e1, e2, rfl⟩ := zipUp_at hi
    rw [List.getElem?_map] at e1 e2
    cases q1 : t.deeds[i]? with
    | none => rw [q1] at e1; cases e1
    | some d =>
      cases q2 : t.lasts[i]? with
      | none => rw [q2] at e2; cases e2
      | some b' =>
        rw [q1] at e1
        rw [q2] at e2
        cases e1
        cases e2
        have tk : (toldL t)[i]? = some (.tup [.int d.1, .str d.2, .bl b']) := by
          unfold toldL
          rw [List.getElem?_map, show (t.deeds.zip t.lasts)[i]? = some (d, b') from List.getElem?_zip_eq_some.mpr ⟨q1, q2⟩]; rfl
        refine ⟨_, rfl, ?_⟩
        have at2 := add_tt st' false [.int d.1, .str d.2] [.bl b'] (by simp)
        have one : (1 : Nat) ≤ LIM := by decide
        rw [take_snoc tk]
        unfold encDd
        simp [one, at2])
  rw [zl]
  have : (toldL t).take t.deeds.length = toldL t := List.take_of_length_le (by unfold toldL; simp; omega)
  rw [this]
def m_Table_page : FV := funD 1 (d_Table_page m_Table_lines)
theorem page_ok_t (h : Tbl S n y t) (w : TOk N t) : m_Table_page [.ref n] S = .ok (.ref S.length, S ++ [.lst (encP (rowsT t))]) := by
  rw [m_Table_page, funD, d_Table_page]
  simp [h.tb, tn_lines, lines_ok h w]
end
end Dl
namespace Dl
open PySem L2
section
variable {S : Store} {n N : Nat} {y : Sty} {t : TC}
/-- a hand has nothing more to be let stand again -/
def freshU (t : TC) (hand ad : Nat) : TC := { t with undone := t.undone.set hand ([], ad) }
theorem TOk.fresh (w : TOk N t) (hand ad : Nat) : TOk N (freshU t hand ad) := by
  refine ⟨w.le, w.born, w.cuts, w.dl, ?_, w.nam, w.sgn, w.sto, fun x hx k hk => ?_, w.lm, w.ll, w.lc, fun x hx => ?_, w.lh⟩
  · show (t.undone.set _ _).length = _
    rw [List.length_set]; exact w.su
  · rcases List.mem_or_eq_of_mem_set hx with hx | rfl
    · exact w.und x hx k hk
    · cases hk
  · rcases List.mem_or_eq_of_mem_set hx with hx | rfl
    · exact w.lu x hx
    · exact Nat.zero_le _
theorem fresh_step (h : Tbl S n y t) (hsu : t.undone.length = t.stood.length) {hand : Nat} (hh : hand < t.stood.length) : setLG (S ++ [Ob.lst []]) (.ref t.u) (.int hand) (.ref S.length) = some (List.set (S ++ [Ob.lst []]) t.u (.lst ((freshU t hand S.length).undone.map fun x => .ref x.2))) ∧ Step S (List.set (S ++ [Ob.lst []]) t.u (.lst ((freshU t hand S.length).undone.map fun x => .ref x.2))) n y t (freshU t hand S.length) := by
  have hl : hand < t.undone.length := by omega
  have hx : t.undone[hand]? = some t.undone[hand] := by simp [hl]
  have g : (S ++ [Ob.lst []])[t.u]? = some (.lst (t.undone.map fun x => .ref x.2)) := get_app h.un
  have sa := setL_at (v := .ref S.length) g (by rw [List.length_map]; exact hl)
  have e : (t.undone.map fun x => D.ref x.2).set hand (.ref S.length) = (freshU t hand S.length).undone.map fun x => .ref x.2 := by
    unfold freshU
    rw [List.map_set]
  rw [e] at sa
  exact ⟨sa, Step.newU h hx⟩
def cutT (t : TC) (hand i : Nat) (m : MkC) : TC := noteT { t with marks := t.marks.set i { m with cuts := m.cuts ++ [t.deeds.length] } } hand []
def rubT (t : TC) (hand i : Nat) (m : MkC) (ad : Nat) : TC := goT (freshU (cutT t hand i m) hand ad)
theorem map_name_set {ms : List MkC} {i : Nat} {m : MkC} (hm : ms[i]? = some m) (cs : List Nat) : (ms.set i { m with cuts := cs }).map (·.name) = ms.map (·.name) := by
  rw [List.map_set]
  refine List.ext_getElem? fun j => ?_
  rw [List.getElem?_set]
  by_cases hj : i = j
  · subst hj
    rw [if_pos rfl, if_pos (by simpa using (List.getElem?_eq_some_iff.mp hm).1), List.getElem?_map, hm]; rfl
  · rw [if_neg hj]
theorem TOk.cut (w : TOk N t) (hN : N < 10000) {hand i : Nat} {m : MkC} (hm : t.marks[i]? = some m) : TOk (N + 1) (cutT t hand i m) := by
  have mm := List.mem_of_getElem? hm
  have ln : (cutT t hand i m).lasts.length = t.lasts.length + 1 := by simp [cutT, noteT]
  have each : ∀ m' ∈ (cutT t hand i m).marks, m' ∈ t.marks ∨ m' = { m with cuts := m.cuts ++ [t.deeds.length] } := fun m' h => List.mem_or_eq_of_mem_set h
  have dl := w.dl
  refine ⟨hN, fun m' h b hb => ?_, fun m' h c hc => ?_, ?_, w.su, ?_, fun m' h => ?_, fun k hk => ?_, fun x hx k hk => ?_, ?_, ?_, fun m' h => ?_, fun x hx => ?_, w.lh⟩
  · rcases each m' h with h | rfl
    · have := w.born m' h b hb; omega
    · have := w.born m mm b hb; omega
  · rcases each m' h with h | rfl
    · have := w.cuts m' h c hc; omega
    · rcases List.mem_append.mp hc with hc | hc
      · have := w.cuts m mm c hc; omega
      · simp at hc; omega
  · rw [ln]; show (t.deeds ++ _).length = _; simp; omega
  · show ((t.marks.set i _).map _).Nodup
    rw [map_name_set hm]; exact w.nam
  · rcases each m' h with h | rfl
    · exact w.sgn m' h
    · exact w.sgn m mm
  · obtain ⟨m', h1, h2⟩ := w.sto k hk
    have : k ∈ (t.marks.set i { m with cuts := m.cuts ++ [t.deeds.length] }).map (·.name) := by
      rw [map_name_set hm]; exact List.mem_map.mpr ⟨m', h1, h2⟩
    obtain ⟨m2, h3, h4⟩ := List.mem_map.mp this
    exact ⟨m2, h3, h4⟩
  · have := w.und x hx k hk; omega
  · show (t.marks.set i _).length ≤ _
    rw [List.length_set]; have := w.lm; omega
  · have := w.ll; omega
  · rcases each m' h with h | rfl
    · have := w.lc m' h; omega
    · have := w.lc m mm; simp; omega
  · have := w.lu x hx; omega
theorem TOk.rub (w : TOk N t) (hN : N < 10000) {hand i : Nat} {m : MkC} (hm : t.marks[i]? = some m) (ad : Nat) : TOk (N + 1) (rubT t hand i m ad) := ((w.cut hN hm).fresh hand ad).go
def m_Table_rub : FV := funD 3 (d_Table_rub m_Table_need_hand m_Table_ahead m_Table_note m_Table_is_page m_Table_forget m_Table_go_on)
theorem rub_ok_t (h : Tbl S n y t) (w : TOk N t) (hN : N < 10000) {hand : Nat} {o : Option Nat} (ho : t.stood[hand]? = some o) :
    (lastIx t o = none ∧ m_Table_rub [.ref n, .int hand] S = .exc 4 none S) ∨ ∃ i m, lastIx t o = some i ∧ t.marks[i]? = some m ∧
      ((pageB (rowsT (cutT t hand i m)) = true ∧ ∃ S' ad, m_Table_rub [.ref n, .int hand] S = .ok (.non, S') ∧ Step S S' n y t (rubT t hand i m ad)) ∨
       (pageB (rowsT (cutT t hand i m)) = false ∧ ∃ S', m_Table_rub [.ref n, .int hand] S = .exc 7 none S' ∧ Step S S' n y t t)) := by
  rw [m_Table_rub, funD, d_Table_rub]
  have gt := h.tb
  have hh := (List.getElem?_eq_some_iff.mp ho).1
  have nh := need_hand_ok h hh
  have ah := ahead_ok h w ho
  have al := aheadM_last t o
  have en := refs_eqNil S (aheadM t o)
  simp only [List.map_cons, List.map_nil, List.length_cons, List.length_nil, List.cons_append, List.nil_append, show List.replicate (3 - (0 + 1 + 1)) (none : Option D) = [none] from rfl]
  rw [sCons_nx (e := [some (.ref n), some (.int hand), none]) (s := S) (by simp [gt, tn_need_hand, nh])]
  rw [sCons_nx (sAsgN_at (x := .lst (refsM (aheadM t o))) (sx := S) (by simp [gt, tn_ahead, ah]))]
  simp only [List.set_cons_succ, List.set_cons_zero]
  cases q : lastIx t o with
  | none =>
    left
    rw [q] at al
    have : aheadM t o = [] := List.getLast?_eq_none_iff.mp al
    rw [this] at en ⊢
    rw [decide_eq_true rfl] at en
    refine ⟨rfl, ?_⟩
    rw [r_sCons, sIf_at (b := true) (sx := S) (by simp [en]), if_pos rfl]
    simp
  | some i =>
    right
    rw [q] at al
    obtain ⟨i1, i2, i3⟩ := lastB_some q
    obtain ⟨m, hm⟩ : ∃ m, t.marks[i]? = some m := by
      have := numM_le t.marks o
      exact ⟨t.marks[i], by simp [show i < t.marks.length by omega]⟩
    simp only [Option.bind_some, hm] at al
    refine ⟨i, m, rfl, hm, ?_⟩
    have ne : aheadM t o ≠ [] := fun z => by rw [z] at al; cases al
    rw [decide_eq_false ne] at en
    have rl := fun S => refs_last S al
    generalize refsM (aheadM t o) = RR at *
    have sif : sIf (tv (eOp eqNilG (eV 2) (eLst false (aNil)))) (sRaise 4) (sNext) [some (.ref n), some (.int hand), some (.lst RR)] S = .nx [some (.ref n), some (.int hand), some (.lst RR)] S := by
      rw [sIf_at (b := false) (sx := S) (by simp [en]), if_neg (by decide)]; rfl
    rw [sCons_nx sif]
    -- the cut
    obtain ⟨g1, g2⟩ := h.mk (List.mem_of_getElem? hm)
    have tyc : tyM S (.ref m.c) = some "list" := by simp only [tyM, g2]
    have lD : listOf S (.ref t.d) = some (t.deeds.map encDd, [(t.d, t.deeds.map encDd)]) := by simp only [listOf, h.de]
    have lnD := len_list lD
    simp only [List.length_map] at lnD
    have ap := app_at (.int (t.deeds.length : Int)) g2 (by rw [natsD_len]; have := w.lc m (List.mem_of_getElem? hm); have := w.le; omega)
    have ec : natsD m.cuts ++ [.int (t.deeds.length : Int)] = natsD (m.cuts ++ [t.deeds.length]) := by simp [natsD]
    rw [ec] at ap
    have s1 := Step.setC h hm (m.cuts ++ [t.deeds.length])
    obtain ⟨S1, hS1⟩ : ∃ S1, S1 = S.set m.c (.lst (natsD (m.cuts ++ [t.deeds.length]))) := ⟨_, rfl⟩
    rw [← hS1] at ap s1
    rw [sCons_nx (e := [some (.ref n), some (.int hand), some (.lst RR)]) (s := S1) (by simp [rl, g1, mk_cuts, tyc, gt, tb_deeds, lnD, ap])]
    -- the deed
    obtain ⟨t1, ht1⟩ : ∃ t1, t1 = { t with marks := t.marks.set i { m with cuts := m.cuts ++ [t.deeds.length] } } := ⟨_, rfl⟩
    rw [← ht1] at s1
    have h1 := s1.tb
    have d1 : t1.deeds = t.deeds := by rw [ht1]
    have l1 : t1.lasts = t.lasts := by rw [ht1]
    obtain ⟨S2, nt, s2, _⟩ := note_step h1 (by rw [d1]; have := w.dl; have := w.ll; have := w.le; omega) (by rw [l1]; have := w.ll; have := w.le; omega) hand []
    have ect : noteT t1 hand [] = cutT t hand i m := by rw [ht1]; rfl
    rw [ect] at s2
    have gt1 := h1.tb
    rw [sCons_nx (e := [some (.ref n), some (.int hand), some (.lst RR)]) (s := S2) (by simp [gt1, tn_note, nt])]
    have h2 := s2.tb
    have w2 := w.cut hN (hand := hand) hm
    have ip := is_page_ok h2 w2
    obtain ⟨S3, hS3⟩ : ∃ S3, S3 = S2 ++ [.lst (encP (rowsT (cutT t hand i m)))] := ⟨_, rfl⟩
    rw [← hS3] at ip
    have s3 : Step S2 S3 n y (cutT t hand i m) (cutT t hand i m) := by rw [hS3]; exact Step.app h2 _
    have h3 := s3.tb
    have gt2 := h2.tb
    have gt3 := h3.tb
    cases hp : pageB (rowsT (cutT t hand i m)) with
    | true =>
      left
      refine ⟨rfl, ?_⟩
      rw [hp] at ip
      have sif2 : sIf (tNotD (tv (eMeth 16 "is_page" 1 m_Table_is_page (eV 0) aNil))) (sCons (sExpr (eMt "list" (popG) (eFld 15 "cuts" (eOp ixG (eV 2) (eNeg (eC (.int 1))))) aNil)) (sCons (sExpr (eMeth 16 "forget" 1 m_Table_forget (eV 0) aNil)) (sRaise 7))) (sNext) [some (.ref n), some (.int hand), some (.lst RR)] S2 = .nx [some (.ref n), some (.int hand), some (.lst RR)] S3 := by
        rw [sIf_at (b := false) (sx := S3) (by simp [gt2, tn_is_page, ip]), if_neg (by decide)]; rfl
      rw [sCons_nx sif2]
      obtain ⟨sa, s4⟩ := fresh_step h3 w2.su (hand := hand) hh
      have h4 := s4.tb
      have w4 := w2.fresh hand S3.length
      obtain ⟨S5, g5, s5⟩ := go_step h4 w4
      have gt4 := h4.tb
      obtain ⟨S4, hS4⟩ : ∃ S4, S4 = List.set (S3 ++ [Ob.lst []]) (cutT t hand i m).u (.lst ((freshU (cutT t hand i m) hand S3.length).undone.map fun x => .ref x.2)) := ⟨_, rfl⟩
      rw [← hS4] at sa g5 gt4
      rw [← hS4] at s4 s5
      have gt3' : (S3 ++ [Ob.lst []])[n]? = some (.ins 16 (tbFs y (cutT t hand i m))) := get_app gt3
      rw [sCons_nx (e := [some (.ref n), some (.int hand), some (.lst RR)]) (s := S4) (by simp [gt3', tb_undone, sa])]
      refine ⟨S5, S3.length, ?_, s1.trans (s2.trans (s3.trans (s4.trans s5)))⟩
      simp [gt4, tn_go_on, g5]
    | false =>
      right
      refine ⟨rfl, ?_⟩
      rw [hp] at ip
      have hm1 : t1.marks[i]? = some { m with cuts := m.cuts ++ [t.deeds.length] } := by rw [ht1]; simp [(List.getElem?_eq_some_iff.mp hm).1]
      have m3 := (h3.mk (m := { m with cuts := m.cuts ++ [t.deeds.length] }) (by
        show _ ∈ t.marks.set i _
        exact List.mem_iff_getElem?.mpr ⟨i, by simp [(List.getElem?_eq_some_iff.mp hm).1]⟩))
      obtain ⟨g3, g4⟩ := m3
      have g4' : S3[m.c]? = some (.lst (natsD m.cuts ++ [.int (t.deeds.length : Int)])) := by rw [g4, ← ec]
      have pp := pop_at g4'
      have ty3 : tyM S3 (.ref m.c) = some "list" := by simp only [tyM, g4']
      have mk3 : (mkFs { m with cuts := m.cuts ++ [t.deeds.length] }).lookup ("cuts" : Str) = some (.ref m.c) := mk_cuts _
      have hm3 : (cutT t hand i m).marks[i]? = some { m with cuts := m.cuts ++ [t.deeds.length] } := by show (t.marks.set i _)[i]? = _; simp [(List.getElem?_eq_some_iff.mp hm).1]
      have s4 := Step.setC h3 hm3 m.cuts
      have em : (cutT t hand i m).marks.set i { ({ m with cuts := m.cuts ++ [t.deeds.length] } : MkC) with cuts := m.cuts } = t.marks := by
        show (t.marks.set i _).set i _ = _
        rw [List.set_set]
        have hl := (List.getElem?_eq_some_iff.mp hm).1
        have he := (List.getElem?_eq_some_iff.mp hm).2
        show t.marks.set i m = _
        rw [← he]
        exact List.set_getElem_self hl
      rw [em] at s4
      obtain ⟨S4, hS4⟩ : ∃ S4, S4 = S3.set m.c (.lst (natsD m.cuts)) := ⟨_, rfl⟩
      rw [← hS4] at pp
      have s4' : Step S3 S4 n y (cutT t hand i m) { cutT t hand i m with marks := t.marks } := by rw [hS4]; exact s4
      have h4 := s4'.tb
      obtain ⟨S5, fg, s5, _⟩ := forget_step (t := { cutT t hand i m with marks := t.marks }) (d := (hand, [])) (b := true) (ds := t.deeds) (bs := t.lasts) h4 rfl rfl
      have gt4 : S4[n]? = some (.ins 16 (tbFs y { cutT t hand i m with marks := t.marks })) := h4.tb
      refine ⟨S5, ?_, s1.trans (s2.trans (s3.trans (s4'.trans s5)))⟩
      simp [gt2, tn_is_page, ip, rl, g3, mk3, ty3, pp, gt4, tn_forget, fg]
theorem TOk.many (w : TOk N t) (v : Nat) : TOk N { t with many := v } := ⟨w.le, w.born, w.cuts, w.dl, w.su, w.nam, w.sgn, w.sto, w.und, w.lm, w.ll, w.lc, w.lu, w.lh⟩
def m_Mark_init : FV := funD 4 d_Mark_init
theorem mark_ok (S : Store) (nm c : Nat) (b : Option Nat) : m_Mark_init [.ref S.length, .int nm, .str [c], encN b] (S ++ [.ins 15 []]) = .ok (.non, S ++ [.ins 15 (mkFs ⟨nm, c, b, [], S.length, S.length + 1⟩), .lst []]) := by
  rw [m_Mark_init, funD, d_Mark_init]
  have g : ∀ f, (S ++ [Ob.ins 15 f])[S.length]? = some (.ins 15 f) := fun f => by simp
  have st : ∀ f f', (S ++ [Ob.ins 15 f]).set S.length (.ins 15 f') = S ++ [Ob.ins 15 f'] := fun f f' => by
    rw [List.set_append_right _ _ (Nat.le_refl _)]; simp
  have g2 : ∀ f, (S ++ [Ob.ins 15 f, .lst []])[S.length]? = some (.ins 15 f) := fun f => by simp
  have st2 : ∀ f f', (S ++ [Ob.ins 15 f, .lst []]).set S.length (.ins 15 f') = S ++ [Ob.ins 15 f', .lst []] := fun f f' => by
    rw [List.set_append_right _ _ (Nat.le_refl _)]; simp
  have n1 : ¬ (("name" : Str) = "sign") := by decide +kernel
  have n2 : ¬ (("name" : Str) = "born") := by decide +kernel
  have n3 : ¬ (("sign" : Str) = "born") := by decide +kernel
  have n4 : ¬ (("name" : Str) = "cuts") := by decide +kernel
  have n5 : ¬ (("sign" : Str) = "cuts") := by decide +kernel
  have n6 : ¬ (("born" : Str) = "cuts") := by decide +kernel
  have zero : (0 : Nat) ≤ LIM := by decide
  simp [g, st, putD, n1, n2, n3, n4, n5, n6, zero, g2, st2, mkFs]
end
end Dl
namespace Dl
open PySem L2
end Dl
namespace Dl
open PySem L2
def seqO : Nat → List Ob → List (Nat × Ob)
  | _, [] => []
  | a, o :: os => (a, o) :: seqO (a + 1) os
theorem seqO_app : ∀ (A B : List Ob) (a : Nat), seqO a (A ++ B) = seqO a A ++ seqO (a + A.length) B
  | [], B, a => rfl
  | o :: A, B, a => by
    rw [List.cons_append, seqO, seqO, seqO_app A B (a + 1), List.length_cons, show a + 1 + A.length = a + (A.length + 1) by omega]
    rfl
theorem seqO_ge : ∀ (os : List Ob) (a : Nat), ∀ p ∈ seqO a os, a ≤ p.1
  | [], a => fun p hp => by cases hp
  | o :: os, a => fun p hp => by
    rw [seqO] at hp
    rcases List.mem_cons.mp hp with rfl | hp
    · exact Nat.le_refl _
    · have := seqO_ge os (a + 1) p hp; omega
theorem seqO_nd : ∀ (os : List Ob) (a : Nat), ((seqO a os).map (·.1)).Nodup
  | [], a => List.nodup_nil
  | o :: os, a => by
    rw [seqO, List.map_cons, List.nodup_cons]
    refine ⟨fun z => ?_, seqO_nd os (a + 1)⟩
    obtain ⟨p, hp, e⟩ := List.mem_map.mp z
    have := seqO_ge os (a + 1) p hp
    omega
theorem seqO_has : ∀ (os : List Ob) (S : Store), ∀ p ∈ seqO S.length os, (S ++ os)[p.1]? = some p.2
  | [], S => fun p hp => by cases hp
  | o :: os, S => fun p hp => by
    rw [seqO] at hp
    rcases List.mem_cons.mp hp with rfl | hp
    · simp
    · have h := seqO_has os (S ++ [o]) p (by rw [List.length_append, List.length_singleton]; exact hp)
      rw [List.append_assoc] at h
      exact h
theorem Has.seq (S : Store) (os : List Ob) : Has (S ++ os) (seqO S.length os) := ⟨seqO_nd _ _, seqO_has _ _⟩
def marksF : Nat → Nat → List Nat → List MkC
  | _, _, [] => []
  | a, j, c :: s => ⟨j, c, none, [], a, a + 1⟩ :: marksF (a + 2) (j + 1) s
def flatO (ms : List MkC) : List Ob := ms.flatMap fun m => [.ins 15 (mkFs m), .lst []]
theorem flatO_len (ms : List MkC) : (flatO ms).length = 2 * ms.length := by
  unfold flatO
  induction ms with
  | nil => rfl
  | cons m ms ih => rw [List.flatMap_cons, List.length_append, ih]; simp; omega
theorem marksF_len : ∀ (s : List Nat) (a j : Nat), (marksF a j s).length = s.length
  | [], _, _ => rfl
  | c :: s, a, j => by rw [marksF, List.length_cons, List.length_cons, marksF_len s]
theorem marksF_snoc : ∀ (s : List Nat) (c a j : Nat), marksF a j (s ++ [c]) = marksF a j s ++ [⟨j + s.length, c, none, [], a + 2 * s.length, a + 2 * s.length + 1⟩]
  | [], c, a, j => by simp [marksF]
  | x :: s, c, a, j => by
    rw [List.cons_append, marksF, marksF, marksF_snoc s c (a + 2) (j + 1), List.length_cons, List.cons_append]
    congr 3
    rw [show j + 1 + s.length = j + (s.length + 1) by omega, show a + 2 + 2 * s.length = a + 2 * (s.length + 1) by omega]
theorem marksF_seq : ∀ (s : List Nat) (a j : Nat), seqO a (flatO (marksF a j s)) = (marksF a j s).flatMap mkOb
  | [], a, j => rfl
  | c :: s, a, j => by
    have ih := marksF_seq s (a + 2) (j + 1)
    show seqO a (Ob.ins 15 (mkFs ⟨j, c, none, [], a, a + 1⟩) :: Ob.lst [] :: flatO (marksF (a + 2) (j + 1) s)) = _
    rw [seqO, seqO, ih]
    rfl
theorem marksF_mem : ∀ (s : List Nat) (a j : Nat), ∀ m ∈ marksF a j s, m.born = none ∧ m.cuts = [] ∧ m.sg ∈ s ∧ j ≤ m.name ∧ m.name < j + s.length
  | [], a, j => fun m hm => by cases hm
  | c :: s, a, j => fun m hm => by
    rw [marksF] at hm
    rcases List.mem_cons.mp hm with rfl | hm
    · exact ⟨rfl, rfl, by simp, Nat.le_refl _, by simp⟩
    · obtain ⟨h1, h2, h3, h4, h5⟩ := marksF_mem s (a + 2) (j + 1) m hm
      exact ⟨h1, h2, by simp [h3], by omega, by simp; omega⟩
theorem marksF_nd : ∀ (s : List Nat) (a j : Nat), ((marksF a j s).map (·.name)).Nodup
  | [], a, j => List.nodup_nil
  | c :: s, a, j => by
    rw [marksF, List.map_cons, List.nodup_cons]
    refine ⟨fun z => ?_, marksF_nd s (a + 2) (j + 1)⟩
    obtain ⟨m, hm, e⟩ := List.mem_map.mp z
    have := (marksF_mem s (a + 2) (j + 1) m hm).2.2.2.1
    simp only at e
    omega
theorem marksF_sg : ∀ (s : List Nat) (a j : Nat), (marksF a j s).map (·.sg) = s
  | [], a, j => rfl
  | c :: s, a, j => by rw [marksF, List.map_cons, marksF_sg s]
/-- a table as it is made -/
def table0 (n : Nat) (s : List Nat) (hands : Nat) : TC where
  marks := marksF (n + 1) 0 s
  many := s.length
  stood := List.replicate hands (if 0 < s.length then some 0 else none)
  deeds := []
  lasts := []
  undone := (List.range hands).map fun i => ([], n + 1 + 2 * s.length + 3 + i)
  s := n + 1 + 2 * s.length
  d := n + 1 + 2 * s.length + 1
  l := n + 1 + 2 * s.length + 2
  u := n + 1 + 2 * s.length + 3 + hands
/-- the fields as they come -/
def tbP (y : Sty) (t : TC) (k : Nat) : List (Str × D) := (tbFs y t).take k
theorem pf_style (y : Sty) (t : TC) : putD "style" (y.enc) (tbP y t 0) = tbP y t 1 := by
  simp only [tbP, tbFs, List.take_succ_cons, List.take_zero, putD]
theorem pf_marks (y : Sty) (t : TC) : putD "marks" (.lst (t.marks.map fun m => .ref m.a)) (tbP y t 1) = tbP y t 2 := by
  simp only [tbP, tbFs, List.take_succ_cons, List.take_zero, putD, show ¬ (("style" : Str) = "marks") by decide +kernel, if_false]
theorem pf_many (y : Sty) (t : TC) : putD "many" (.int t.many) (tbP y t 2) = tbP y t 3 := by
  simp only [tbP, tbFs, List.take_succ_cons, List.take_zero, putD, show ¬ (("style" : Str) = "many") by decide +kernel, show ¬ (("marks" : Str) = "many") by decide +kernel, if_false]
theorem pf_stood (y : Sty) (t : TC) : putD "stood" (.ref t.s) (tbP y t 3) = tbP y t 4 := by
  simp only [tbP, tbFs, List.take_succ_cons, List.take_zero, putD, show ¬ (("style" : Str) = "stood") by decide +kernel, show ¬ (("marks" : Str) = "stood") by decide +kernel, show ¬ (("many" : Str) = "stood") by decide +kernel, if_false]
theorem pf_deeds (y : Sty) (t : TC) : putD "deeds" (.ref t.d) (tbP y t 4) = tbP y t 5 := by
  simp only [tbP, tbFs, List.take_succ_cons, List.take_zero, putD, show ¬ (("style" : Str) = "deeds") by decide +kernel, show ¬ (("marks" : Str) = "deeds") by decide +kernel, show ¬ (("many" : Str) = "deeds") by decide +kernel, show ¬ (("stood" : Str) = "deeds") by decide +kernel, if_false]
theorem pf_lasting (y : Sty) (t : TC) : putD "lasting" (.ref t.l) (tbP y t 5) = tbP y t 6 := by
  simp only [tbP, tbFs, List.take_succ_cons, List.take_zero, putD, show ¬ (("style" : Str) = "lasting") by decide +kernel, show ¬ (("marks" : Str) = "lasting") by decide +kernel, show ¬ (("many" : Str) = "lasting") by decide +kernel, show ¬ (("stood" : Str) = "lasting") by decide +kernel, show ¬ (("deeds" : Str) = "lasting") by decide +kernel, if_false]
theorem pf_undone (y : Sty) (t : TC) : putD "undone" (.ref t.u) (tbP y t 6) = tbP y t 7 := by
  simp only [tbP, tbFs, List.take_succ_cons, List.take_zero, putD, show ¬ (("style" : Str) = "undone") by decide +kernel, show ¬ (("marks" : Str) = "undone") by decide +kernel, show ¬ (("many" : Str) = "undone") by decide +kernel, show ¬ (("stood" : Str) = "undone") by decide +kernel, show ¬ (("deeds" : Str) = "undone") by decide +kernel, show ¬ (("lasting" : Str) = "undone") by decide +kernel, if_false]
theorem pl_marks (y : Sty) (t : TC) : (tbP y t 2).lookup ("marks" : Str) = some (.lst (t.marks.map fun m => .ref m.a)) := by
  simp only [tbP, tbFs, List.take_succ_cons, List.take_zero]
  rw [List.lookup_cons, show (("marks" : Str) == "style") = false by decide +kernel, List.lookup_cons, show (("marks" : Str) == "marks") = true by decide +kernel]
theorem pl_many (y : Sty) (t : TC) : (tbP y t 3).lookup ("many" : Str) = some (.int t.many) := by
  simp only [tbP, tbFs, List.take_succ_cons, List.take_zero]
  rw [List.lookup_cons, show (("many" : Str) == "style") = false by decide +kernel, List.lookup_cons, show (("many" : Str) == "marks") = false by decide +kernel, List.lookup_cons, show (("many" : Str) == "many") = true by decide +kernel]
theorem pf_len (y : Sty) (t : TC) (k : Nat) : (tbP y t k).length < 900 := by
  unfold tbP
  rw [List.length_take, tb_len]; omega
theorem pf_all (y : Sty) (t : TC) : tbP y t 7 = tbFs y t := rfl
theorem in_get (S : Store) (f : List (Str × D)) (X : Store) : (S ++ Ob.ins 16 f :: X)[S.length]? = some (.ins 16 f) := by simp
theorem in_set (S : Store) (f f' : List (Str × D)) (X : Store) : (S ++ Ob.ins 16 f :: X).set S.length (.ins 16 f') = S ++ Ob.ins 16 f' :: X := by
  rw [List.set_append_right _ _ (Nat.le_refl _)]; simp
section
variable {S : Store} {y : Sty}
theorem fld_at {env : Env} {f : Str} {fv : EV} {v : D} {g g' : List (Str × D)} {X X' : Store} {st : Store} (h0 : env[0]? = some (some (.ref S.length))) (hv : fv env st = .ok (v, S ++ Ob.ins 16 g :: X')) (hp : putD f v g = g') (hl : g.length < 900) :
    sFldD 16 f (eV 0) fv env st = .nx env (S ++ Ob.ins 16 g' :: X') := by
  rw [r_sFldD, hv]
  simp only [sOf_m, r_eV, h0]
  rw [in_get]
  simp only
  rw [if_pos ⟨by first | rfl | trivial, hl⟩, hp, in_set]
def m_Table_init : FV := funD 7 (d_Table_init m_need_page m_need_style m_is_number m_written m_Mark_init)
theorem init_ok_t {p : Page} (hp : okPage p = true) (hy : y.ok) {d : D} {w : List (Nat × List D)} (hd : listOf S d = some (encP p, w)) {hands : Nat} (h1 : 1 ≤ hands) (h4 : hands ≤ 4) :
    ∃ X, m_Table_init [.ref S.length, d, y.enc, .int hands] (S ++ [.ins 16 []]) = .ok (.non, S ++ Ob.ins 16 (tbFs y (table0 S.length (txtP p) hands)) :: X) ∧
      X = flatO (marksF (S.length + 1) 0 (txtP p)) ++ ([.lst ((table0 S.length (txtP p) hands).stood.map encN), .lst [], .lst []] ++ (List.replicate hands (Ob.lst []) ++ [.lst ((table0 S.length (txtP p) hands).undone.map fun x => .ref x.2)])) := by
  refine ⟨_, ?_, rfl⟩
  rw [m_Table_init, funD, d_Table_init]
  obtain ⟨t, ht⟩ : ∃ t, t = table0 S.length (txtP p) hands := ⟨_, rfl⟩
  obtain ⟨s, hs⟩ : ∃ s, s = txtP p := ⟨_, rfl⟩
  have sl : s.length ≤ 2010 := by rw [hs]; exact txtP_len p hp
  have hdM : ∀ M, listOf (S ++ M) d = some (encP p, w) := fun M => listOf_stays (Stays.app S M) hd
  have np := need_page_ok (hdM [.ins 16 []]) hp
  have ns := need_style_ok hy (S ++ [.ins 16 []])
  have nb := is_number_int (hands : Int) 1 4 (S ++ [.ins 16 []])
  have cb : (1 : Int) ≤ hands ∧ (hands : Int) ≤ 4 := by omega
  simp only [List.map_cons, List.map_nil, List.length_cons, List.length_nil, List.cons_append, List.nil_append, show List.replicate (7 - (0 + 1 + 1 + 1 + 1)) (none : Option D) = [none, none, none] from rfl]
  generalize hyy : y.enc = Y at ns
  rw [sCons_nx (e := [some (.ref S.length), some d, some Y, some (.int hands), none, none, none]) (s := S ++ [.ins 16 []]) (by simp [np])]
  rw [sCons_nx (e := [some (.ref S.length), some d, some Y, some (.int hands), none, none, none]) (s := S ++ [.ins 16 []]) (by simp [ns])]
  rw [sCons_nx (e := [some (.ref S.length), some d, some Y, some (.int hands), none, none, none]) (s := S ++ [.ins 16 []]) (by simp [nb, cb.1, cb.2])]
  rw [sCons_nx (fld_at (g := tbP y t 0) (g' := tbP y t 1) (v := Y) (X := []) (X' := []) rfl (by simp [tbP]) (by rw [← hyy]; exact pf_style y t) (pf_len _ _ _))]
  -- the marks
  have wr : m_written [d] (S ++ Ob.ins 16 (tbP y t 1) :: []) = .ok (.str s, S ++ Ob.ins 16 (tbP y t 1) :: []) := by rw [hs]; exact written_ok (hdM _) hp
  have s2 : eLc false (iEnS (aCons (eCall 1 m_written (aCons (eV 1) (aNil))) (aNil))) [4, 5] (.two 4 5) (tYesD) (eMake 15 4 m_Mark_init (aCons (eV 4) (aCons (eV 5) (aCons (eC .non) (aNil))))) [some (.ref S.length), some d, some Y, some (.int hands), none, none, none] (S ++ Ob.ins 16 (tbP y t 1) :: []) = .ok (.lst ((marksF (S.length + 1) 0 s).map fun m => .ref m.a), S ++ Ob.ins 16 (tbP y t 1) :: flatO (marksF (S.length + 1) 0 s)) := by
    have pl : (pairUp (signsD s)).length ≤ LIM := le_LIM (by rw [pairUp_len]; simp [signsD]; omega)
    simp only [r_eLc, r_iEnS, r_aCons, r_eCall, r_eV, r_aNil, List.getElem?_cons_succ, List.getElem?_cons_zero, R.bind_ok, List.length_cons, List.length_nil, if_true, wr, lcS_ok, pl, wipe_cons, wipe_nil, List.set_cons_succ, List.set_cons_zero]
    generalize hf : lcGo _ _ _ _ _ _ _ _ = r
    obtain ⟨acc, st', rfl, rfl, rfl⟩ := lc_at hf (fun i acc st' => st' = S ++ Ob.ins 16 (tbP y t 1) :: flatO (marksF (S.length + 1) 0 (s.take i)) ∧ acc = (marksF (S.length + 1) 0 (s.take i)).map fun m => .ref m.a) ⟨by simp [marksF, flatO], by simp [marksF]⟩ (fun _ _ _ _ _ => rfl) (fun i x acc st' hi ⟨e1, e2⟩ => by
      obtain ⟨d', hd', rfl⟩ := pairUp_at hi
      obtain ⟨c, hc, rfl⟩ := signsD_at hd'
      refine ⟨[some (.ref S.length), some d, some Y, some (.int hands), some (.int i), some (.str [c]), none], rfl, ?_⟩
      have il : (s.take i).length = i := by rw [List.length_take]; have := (List.getElem?_eq_some_iff.mp hc).1; omega
      have len : st'.length = S.length + 1 + 2 * i := by rw [e1, List.length_append, List.length_cons, flatO_len, marksF_len, il]; omega
      have mi := mark_ok st' i c none
      have bn : encN none = .non := rfl
      rw [bn] at mi
      have e3 : st' ++ [Ob.ins 15 (mkFs ⟨i, c, none, [], st'.length, st'.length + 1⟩), .lst []] = S ++ Ob.ins 16 (tbP y t 1) :: flatO (marksF (S.length + 1) 0 (s.take (i + 1))) := by
        rw [take_snoc hc, marksF_snoc, il, len]
        rw [e1]
        unfold flatO
        rw [List.flatMap_append]
        simp
      rw [e3] at mi
      have e4 : acc ++ [.ref st'.length] = (marksF (S.length + 1) 0 (s.take (i + 1))).map fun m => D.ref m.a := by
        rw [take_snoc hc, marksF_snoc, il, len, e2]
        simp
      simp only [r_tYesD, to_ok, if_true]
      rw [← e4]
      generalize S ++ Ob.ins 16 (tbP y t 1) :: flatO (marksF (S.length + 1) 0 (s.take (i + 1))) = SX at mi ⊢
      simp [mi])
    rw [pairUp_len]
    have : (signsD s).length = s.length := by simp [signsD]
    rw [this, List.take_length]
    rfl
  have tm : t.marks = marksF (S.length + 1) 0 s := by rw [ht, hs]; rfl
  rw [sCons_nx (fld_at (g := tbP y t 1) (g' := tbP y t 2) (X := []) rfl s2 (by rw [← tm]; exact pf_marks y t) (pf_len _ _ _))]
  generalize hFL : flatO (marksF (S.length + 1) 0 s) = FL
  have fl : FL.length = 2 * s.length := by rw [← hFL, flatO_len, marksF_len]
  -- how many
  have ml : lenG (S ++ Ob.ins 16 (tbP y t 2) :: FL) [.lst (t.marks.map fun m => .ref m.a)] = .ok (.int s.length, S ++ Ob.ins 16 (tbP y t 2) :: FL) := by
    rw [len_l, List.length_map, tm, marksF_len]
  have tn : (t.many : Int) = s.length := by rw [ht, hs]; rfl
  have g2 := in_get S (tbP y t 2) FL
  have plm := pl_marks y t
  rw [sCons_nx (fld_at (g := tbP y t 2) (g' := tbP y t 3) (v := .int s.length) (X := []) (X' := FL) rfl (by
    generalize S ++ Ob.ins 16 (tbP y t 2) :: FL = SX at *
    generalize (t.marks.map fun m => D.ref m.a) = RM at *
    simp [g2, plm, ml]) (by rw [← tn]; exact pf_many y t) (pf_len _ _ _))]
  -- where hands stand
  have m1 : -1000000 ≤ (hands : Int) ∧ (hands : Int) ≤ 1000000 := by omega
  have hl : hands ≤ LIM := le_LIM (by omega)
  have g3 := in_get S (tbP y t 3) FL
  have plk := pl_many y t
  have s4 : eLc true (iR1 (aCons (eV 3) (aNil))) [6] (.one 6) (tYesD) (eIf (tv (eOp gtG (eFld 16 "many" (eV 0)) (eC (.int 0)))) (eC (.int 0)) (eC .non)) [some (.ref S.length), some d, some Y, some (.int hands), none, none, none] (S ++ Ob.ins 16 (tbP y t 3) :: FL) = .ok (.ref (S.length + 1 + FL.length), S ++ Ob.ins 16 (tbP y t 3) :: (FL ++ [.lst (t.stood.map encN)])) := by
    have len : (S ++ Ob.ins 16 (tbP y t 3) :: FL).length = S.length + 1 + FL.length := by simp; omega
    have app : (S ++ Ob.ins 16 (tbP y t 3) :: FL) ++ [Ob.lst (t.stood.map encN)] = S ++ Ob.ins 16 (tbP y t 3) :: (FL ++ [.lst (t.stood.map encN)]) := by simp
    rw [← len, ← app]
    generalize S ++ Ob.ins 16 (tbP y t 3) :: FL = SX at *
    have key : lcGo [] (.one 6) tYesD (eIf (tv (eOp gtG (eFld 16 "many" (eV 0)) (eC (.int 0)))) (eC (.int 0)) (eC .non)) [some (.ref S.length), some d, some Y, some (.int hands), none, none, none] (intsD 0 hands) [] SX = .ok (t.stood.map encN, SX) := by
      rw [lc_map (st := SX) rfl (fun _ => encN (if 0 < s.length then some 0 else none)) (intsD 0 hands) (fun x hx => ⟨_, rfl, by
        by_cases z : 0 < s.length
        · have z' : (0 : Int) < t.many := by omega
          have z2 : ¬ t.many = 0 := by omega
          simp [g3, plk, gtG, z2, z, encN]
        · have z' : ¬ (0 : Int) < t.many := by omega
          have z2 : t.many = 0 := by omega
          simp [g3, plk, gtG, z2, z, encN]⟩)]
      congr 2
      have ts : t.stood = List.replicate hands (if 0 < s.length then some 0 else none) := by rw [ht, hs]; rfl
      rw [ts, List.map_replicate, List.map_const', intsD_len]
    generalize t.stood.map encN = TS at key ⊢
    simp [m1, hl, key]
  have ets : t.s = S.length + 1 + FL.length := by rw [fl, ht, hs]; rfl
  rw [sCons_nx (fld_at (g := tbP y t 3) (g' := tbP y t 4) (X := []) rfl s4 (by rw [← ets]; exact pf_stood y t) (pf_len _ _ _))]
  obtain ⟨F4, hF4⟩ : ∃ F4, F4 = FL ++ [Ob.lst (t.stood.map encN)] := ⟨_, rfl⟩
  rw [← hF4]
  have f4 : F4.length = 2 * s.length + 1 := by rw [hF4]; simp [fl]
  have zero : (0 : Nat) ≤ LIM := by decide
  have etd : t.d = S.length + 1 + F4.length := by rw [f4, ht, hs]; simp only [table0]; omega
  rw [sCons_nx (fld_at (g := tbP y t 4) (g' := tbP y t 5) (v := .ref t.d) (X := []) (X' := F4 ++ [.lst []]) rfl (by rw [etd]; simp [zero]; omega) (pf_deeds y t) (pf_len _ _ _))]
  have etl : t.l = S.length + 1 + (F4 ++ [Ob.lst []]).length := by rw [List.length_append, List.length_singleton, f4, ht, hs]; simp only [table0]; omega
  rw [sCons_nx (fld_at (g := tbP y t 5) (g' := tbP y t 6) (v := .ref t.l) (X := []) (X' := F4 ++ [.lst []] ++ [.lst []]) rfl (by rw [etl]; simp [zero]; omega) (pf_lasting y t) (pf_len _ _ _))]
  obtain ⟨F6, hF6⟩ : ∃ F6, F6 = F4 ++ [Ob.lst []] ++ [Ob.lst []] := ⟨_, rfl⟩
  rw [← hF6]
  have f6 : F6.length = 2 * s.length + 3 := by rw [hF6]; simp [f4]
  -- what hands took back
  have s7 : eLc true (iR1 (aCons (eV 3) (aNil))) [6] (.one 6) (tYesD) (eLst true (aNil)) [some (.ref S.length), some d, some Y, some (.int hands), none, none, none] (S ++ Ob.ins 16 (tbP y t 6) :: F6) = .ok (.ref t.u, S ++ Ob.ins 16 (tbP y t 6) :: (F6 ++ List.replicate hands (.lst []) ++ [.lst (t.undone.map fun x => .ref x.2)])) := by
    have key : lcGo [] (.one 6) tYesD (eLst true (aNil)) [some (.ref S.length), some d, some Y, some (.int hands), none, none, none] (intsD 0 hands) [] (S ++ Ob.ins 16 (tbP y t 6) :: F6) = .ok (t.undone.map (fun x => .ref x.2), S ++ Ob.ins 16 (tbP y t 6) :: (F6 ++ List.replicate hands (.lst []))) := by
      generalize hf : lcGo _ _ _ _ _ _ _ _ = r
      obtain ⟨acc, st', rfl, e1, e2⟩ := lc_at hf (fun i acc st' => st' = S ++ Ob.ins 16 (tbP y t 6) :: (F6 ++ List.replicate i (.lst [])) ∧ acc = (List.range i).map fun i => .ref (S.length + 1 + F6.length + i)) ⟨by simp, rfl⟩ (fun _ _ _ _ _ => rfl) (fun i x acc st' hi ⟨e1, e2⟩ => by
        refine ⟨_, rfl, ?_⟩
        have len : st'.length = S.length + 1 + F6.length + i := by rw [e1]; simp; omega
        simp [zero, len]
        refine ⟨?_, ?_⟩
        · rw [e1, List.replicate_succ']; simp
        · rw [e2, List.range_succ]; simp)
      rw [intsD_len] at e1 e2
      rw [e1, e2]
      congr 2
      have tu : t.undone = (List.range hands).map fun i => ([], S.length + 1 + 2 * s.length + 3 + i) := by rw [ht, hs]; rfl
      rw [tu, List.map_map]
      refine List.map_congr_left fun i _ => ?_
      simp only [Function.comp]
      congr 1
      omega
    have len : (S ++ Ob.ins 16 (tbP y t 6) :: (F6 ++ List.replicate hands (Ob.lst []))).length = t.u := by
      rw [ht, hs] at *
      simp only [table0, List.length_append, List.length_cons, List.length_replicate, f6]; omega
    have app : (S ++ Ob.ins 16 (tbP y t 6) :: (F6 ++ List.replicate hands (Ob.lst []))) ++ [Ob.lst (t.undone.map fun x => D.ref x.2)] = S ++ Ob.ins 16 (tbP y t 6) :: (F6 ++ List.replicate hands (.lst []) ++ [.lst (t.undone.map fun x => .ref x.2)]) := by simp
    rw [← app, ← len]
    generalize S ++ Ob.ins 16 (tbP y t 6) :: (F6 ++ List.replicate hands (Ob.lst [])) = SY at *
    generalize S ++ Ob.ins 16 (tbP y t 6) :: F6 = SX at *
    generalize (t.undone.map fun x => D.ref x.2) = TU at *
    simp [m1, hl, key]
  rw [fld_at (g := tbP y t 6) (g' := tbP y t 7) (X := []) rfl s7 (pf_undone y t) (pf_len _ _ _), pf_all]
  rw [← ht, ← hs, hFL]
  show R.ok (D.non, _) = R.ok (D.non, _)
  congr 4
  rw [hF6, hF4]
  simp
end
/-- a table made has what it is to have -/
theorem table0_tbl (S : Store) (y : Sty) (s : List Nat) (hands : Nat) : Tbl (S ++ Ob.ins 16 (tbFs y (table0 S.length s hands)) :: (flatO (marksF (S.length + 1) 0 s) ++ ([.lst ((table0 S.length s hands).stood.map encN), .lst [], .lst []] ++ (List.replicate hands (Ob.lst []) ++ [.lst ((table0 S.length s hands).undone.map fun x => .ref x.2)])))) S.length y (table0 S.length s hands) := by
  have h := Has.seq S (Ob.ins 16 (tbFs y (table0 S.length s hands)) :: (flatO (marksF (S.length + 1) 0 s) ++ ([.lst ((table0 S.length s hands).stood.map encN), .lst [], .lst []] ++ (List.replicate hands (Ob.lst []) ++ [.lst ((table0 S.length s hands).undone.map fun x => .ref x.2)]))))
  refine Has.perm h ?_
  rw [seqO, seqO_app, marksF_seq, seqO_app, seqO_app, flatO_len, marksF_len]
  have ur : ∀ (k a : Nat), seqO a (List.replicate k (Ob.lst [])) = ((List.range k).map fun i => (([] : List Nat), a + i)).map unOb := by
    intro k
    induction k with
    | zero => intro a; rfl
    | succ k ih =>
      intro a
      rw [List.replicate_succ, seqO, ih, List.range_succ_eq_map]
      simp [unOb, natsD]
      intro i _
      omega
  rw [ur]
  unfold objsT
  refine List.Perm.cons _ ?_
  obtain ⟨M, hM⟩ : ∃ M, M = (marksF (S.length + 1) 0 s).flatMap mkOb := ⟨_, rfl⟩
  have e1 : (table0 S.length s hands).marks = marksF (S.length + 1) 0 s := rfl
  rw [e1, ← hM]
  refine List.perm_append_comm.trans ?_
  simp only [List.length_cons, List.length_nil, List.length_replicate, seqO, List.cons_append, List.nil_append]
  refine List.Perm.cons _ (List.Perm.cons _ (List.Perm.cons _ ?_))
  have eu : (List.range hands).map (fun i => (([] : List Nat), S.length + 1 + 2 * s.length + (0 + 1 + 1 + 1) + i)) = (table0 S.length s hands).undone := by
    unfold table0
    simp only
  rw [eu]
  have ek : S.length + 1 + 2 * s.length + (0 + 1 + 1 + 1) + hands = (table0 S.length s hands).u := rfl
  rw [ek]
  rw [List.append_assoc]
  refine List.perm_middle.trans ?_
  exact List.Perm.cons _ (List.Perm.refl _)
theorem table0_ok {p : Page} (hp : okPage p = true) {N : Nat} (h1 : 2010 ≤ N) (h2 : N ≤ 10000) (n : Nat) {hands : Nat} (h4 : hands ≤ 4) : TOk N (table0 n (txtP p) hands) := by
  have tl := txtP_len p hp
  refine ⟨h2, fun m hm b hb => ?_, fun m hm c hc => ?_, rfl, by simp [table0], marksF_nd _ _ _, fun m hm => ?_, fun k hk => ?_, fun x hx k hk => ?_, ?_, Nat.zero_le _, fun m hm => ?_, fun x hx => ?_, by simp [table0]; omega⟩
  · rw [(marksF_mem _ _ _ m hm).1] at hb; cases hb
  · rw [(marksF_mem _ _ _ m hm).2.1] at hc; cases hc
  · have hs := (marksF_mem _ _ _ m hm).2.2.1
    obtain ⟨q1, q2, q3⟩ := okPage_parts hp
    unfold txtP at hs
    rcases joinL_mem hs with h | ⟨r, hr, hx⟩
    · simp at h; exact .inr (.inr h)
    · obtain ⟨rw', hr', rfl⟩ := List.mem_map.mp hr
      rcases joinL_mem hx with h | ⟨c, hc, hx⟩
      · simp at h; exact .inr (.inl h)
      · have := (okCell_parts ((okRow_parts (q3 rw' hr')).2.2 c hc)).2 _ hx
        left
        simp only [okSign, Bool.and_eq_true, decide_eq_true_eq]
        omega
  · have hk' := List.eq_of_mem_replicate hk
    by_cases z : 0 < (txtP p).length
    · rw [if_pos z] at hk'
      cases hk'
      cases q : txtP p with
      | nil => rw [q] at z; simp at z
      | cons c s => exact ⟨⟨0, c, none, [], n + 1, n + 2⟩, by simp [table0, q, marksF], rfl⟩
    · rw [if_neg z] at hk'; cases hk'
  · unfold table0 at hx
    obtain ⟨i, _, rfl⟩ := List.mem_map.mp hx
    cases hk
  · show (marksF _ _ _).length ≤ N
    rw [marksF_len]; omega
  · rw [(marksF_mem _ _ _ m hm).2.1]; exact Nat.zero_le _
  · unfold table0 at hx
    obtain ⟨i, _, rfl⟩ := List.mem_map.mp hx
    exact Nat.zero_le _
end Dl
namespace Dl
open PySem L2
def UOk (t : TC) : Prop := ∀ (h : Nat) (x : List Nat × Nat), t.undone[h]? = some x → x.1.Nodup ∧ ∀ k ∈ x.1, t.lasts[k]? = some false ∧ (t.deeds.getD k (0, [])).1 = h
section
variable {N : Nat} {t : TC}
theorem UOk.und (u : UOk t) (w : TOk N t) {hand : Nat} (hh : hand < t.stood.length) : (undT t hand).Nodup ∧ ∀ k ∈ undT t hand, t.lasts[k]? = some false ∧ (t.deeds.getD k (0, [])).1 = hand := by
  obtain ⟨x, ux, ex⟩ := und_at w hh
  have := u hand x ux
  rw [ex] at this
  exact this
theorem UOk.stood (u : UOk t) (v : List (Option Nat)) : UOk { t with stood := v } := u
theorem table0_u (n : Nat) (s : List Nat) (hands : Nat) : UOk (table0 n s hands) := fun h x hx => by
  have hm := List.mem_of_getElem? hx
  unfold table0 at hm
  obtain ⟨i, _, rfl⟩ := List.mem_map.mp hm
  exact ⟨List.nodup_nil, fun k hk => by cases hk⟩
/-- a deed more of a hand: it has nothing more to be let stand again -/
theorem UOk.more (u : UOk t) (hdl : t.deeds.length = t.lasts.length) {d : Nat × List Nat} {b : Bool} {hand ad : Nat} {ms : List MkC} {v : List (Option Nat)} {mn : Nat} : UOk { t with marks := ms, many := mn, stood := v, deeds := t.deeds ++ [d], lasts := t.lasts ++ [b], undone := t.undone.set hand ([], ad) } := fun h x hx => by
  show x.1.Nodup ∧ ∀ k ∈ x.1, (t.lasts ++ [b])[k]? = some false ∧ ((t.deeds ++ [d]).getD k (0, [])).1 = h
  change (t.undone.set hand ([], ad))[h]? = some x at hx
  rw [List.getElem?_set] at hx
  by_cases e : hand = h
  · rw [if_pos e] at hx
    split at hx
    · cases hx; exact ⟨List.nodup_nil, fun k hk => by cases hk⟩
    · cases hx
  · rw [if_neg e] at hx
    obtain ⟨q1, q2⟩ := u h x hx
    refine ⟨q1, fun k hk => ?_⟩
    obtain ⟨r1, r2⟩ := q2 k hk
    have kl := (List.getElem?_eq_some_iff.mp r1).1
    refine ⟨by rw [List.getElem?_append_left kl]; exact r1, ?_⟩
    rw [List.getD_eq_getElem?_getD, List.getElem?_append_left (by omega)]
    rw [List.getD_eq_getElem?_getD] at r2
    exact r2
theorem UOk.rub (u : UOk t) (w : TOk N t) (hand i : Nat) (m : MkC) (ad : Nat) : UOk (rubT t hand i m ad) := u.more w.dl
theorem UOk.back (u : UOk t) (w : TOk N t) {hand k : Nat} (hh : hand < t.stood.length) (hk : (mineT t hand).getLast? = some k) : UOk (backT t hand k) := fun h x hx => by
  obtain ⟨k1, k2, k3⟩ := mine_in w (List.mem_of_getLast? hk)
  have kl := (List.getElem?_eq_some_iff.mp k1).1
  change (t.undone.set hand (undT t hand ++ [k], (t.undone.getD hand ([], 0)).2))[h]? = some x at hx
  show x.1.Nodup ∧ ∀ j ∈ x.1, (t.lasts.set k false)[j]? = some false ∧ (t.deeds.getD j (0, [])).1 = h
  have keep : ∀ j, t.lasts[j]? = some false → (t.lasts.set k false)[j]? = some false := fun j hj => by
    rw [List.getElem?_set]
    by_cases e : k = j
    · subst e; rw [if_pos rfl, if_pos kl]
    · rw [if_neg e]; exact hj
  rw [List.getElem?_set] at hx
  by_cases e : hand = h
  · rw [if_pos e] at hx
    split at hx
    · cases hx
      subst e
      obtain ⟨n1, n2⟩ := u.und w hh
      refine ⟨?_, fun j hj => ?_⟩
      · rw [List.nodup_append]
        refine ⟨n1, by simp, fun a ha b hb => ?_⟩
        simp at hb
        subst hb
        intro z
        subst z
        have := (n2 a ha).1
        rw [k1] at this; cases this
      · rcases List.mem_append.mp hj with hj | hj
        · exact ⟨keep j (n2 j hj).1, (n2 j hj).2⟩
        · simp at hj
          subst hj
          exact ⟨by rw [List.getElem?_set_self kl], k2⟩
    · cases hx
  · rw [if_neg e] at hx
    obtain ⟨q1, q2⟩ := u h x hx
    exact ⟨q1, fun j hj => ⟨keep j (q2 j hj).1, (q2 j hj).2⟩⟩
theorem UOk.again (u : UOk t) (w : TOk N t) {hand k : Nat} (hh : hand < t.stood.length) (hk : (undT t hand).getLast? = some k) : UOk (againT t hand k) := fun h x hx => by
  obtain ⟨n1, n2⟩ := u.und w hh
  obtain ⟨l, hl⟩ := List.getLast?_eq_some_iff.mp hk
  have km := n2 k (List.mem_of_getLast? hk)
  change (t.undone.set hand ((undT t hand).dropLast, (t.undone.getD hand ([], 0)).2))[h]? = some x at hx
  show x.1.Nodup ∧ ∀ j ∈ x.1, (t.lasts.set k true)[j]? = some false ∧ (t.deeds.getD j (0, [])).1 = h
  rw [List.getElem?_set] at hx
  have dl : (undT t hand).dropLast = l := by rw [hl]; simp
  rw [dl] at hx
  rw [hl] at n1 n2
  rw [List.nodup_append] at n1
  by_cases e : hand = h
  · rw [if_pos e] at hx
    split at hx
    · cases hx
      subst e
      refine ⟨n1.1, fun j hj => ?_⟩
      have := n2 j (by simp [hj])
      refine ⟨?_, this.2⟩
      have ne : k ≠ j := fun z => n1.2.2 j hj k (by simp) z.symm
      rw [List.getElem?_set_ne ne]; exact this.1
    · cases hx
  · rw [if_neg e] at hx
    obtain ⟨q1, q2⟩ := u h x hx
    refine ⟨q1, fun j hj => ⟨?_, (q2 j hj).2⟩⟩
    have ne : k ≠ j := fun z => by
      subst z
      have := (q2 k hj).2
      rw [km.2] at this
      exact e this
    rw [List.getElem?_set_ne ne]; exact (q2 j hj).1
theorem TOk.back (w : TOk N t) (hN : N < 10000) {hand k : Nat} (hh : hand < t.stood.length) (hk : (mineT t hand).getLast? = some k) : TOk (N + 1) (backT t hand k) := by
  obtain ⟨k1, _, _⟩ := mine_in w (List.mem_of_getLast? hk)
  have kl := (List.getElem?_eq_some_iff.mp k1).1
  obtain ⟨x, ux, ex⟩ := und_at w hh
  have xm := List.mem_of_getElem? ux
  have w1 := (w.last k false).go
  have e : (undT (goT (lastT t k false)) hand) = undT t hand := rfl
  refine TOk.setUn w1 hN (fun j hj => ?_) ?_
  · show j < (t.lasts.set k false).length
    rw [List.length_set]
    rcases List.mem_append.mp hj with hj | hj
    · exact w.und x xm j (by rw [ex]; exact hj)
    · simp at hj; omega
  · have := w.lu x xm
    rw [ex] at this
    rw [List.length_append, List.length_singleton]
    show (undT t hand).length + 1 ≤ N + 1
    have h2 : (undT t hand).length ≤ N := this
    omega
theorem TOk.again (w : TOk N t) (hN : N < 10000) {hand k : Nat} (hh : hand < t.stood.length) (hk : (undT t hand).getLast? = some k) : TOk (N + 1) (againT t hand k) := by
  obtain ⟨x, ux, ex⟩ := und_at w hh
  have xm := List.mem_of_getElem? ux
  have w1 := (w.last k true).go
  have lx := w.lu x xm
  rw [ex] at lx
  have l2 : (undT t hand).length ≤ N := lx
  refine TOk.setUn w1 hN (fun j hj => ?_) ?_
  · show j < (t.lasts.set k true).length
    rw [List.length_set]
    exact w.und x xm j (by rw [ex]; exact (List.dropLast_sublist _).subset hj)
  · rw [List.length_dropLast]; omega
end
end Dl
namespace Dl
open PySem L2
/-- law_due_k37: 9 slots, 3 parameters -/
def d_law_due_k37 : SV := sCons (sAsg (eLc false (iR1 (aCons (eB lenG (aCons (eOp dgetG (eV 0) (eC (.str [114, 117, 98, 115]))) (aNil))) (aNil))) [7] (.one 7) (tv (eOp (eqG false) (eOp ixG (eOp dgetG (eV 0) (eC (.str [114, 117, 98, 115]))) (eV 7)) (eLst false (aCons (eV 1) (aCons (eC (.bl true)) (aNil)))))) (eV 7)) (gN 3)) (sCons (sAsg (eOp eqNilG (eLc false (iSeq (eOp dgetG (eV 0) (eC (.str [114, 117, 98, 115])))) [8] (.one 8) (tv (eOp ixG (eV 8) (eC (.int 1)))) (eV 8)) (eLst false (aNil))) (gN 4)) (sCons (sIf (tv (eOp (eqG false) (eV 2) (eC (.str [114, 117, 98])))) (sCons (sIf (tNotD (tv (eV 4))) (sRet (eC (.str [110, 111, 110, 101]))) (sNext)) (sCons (sExpr (eMt "list" (appendG) (eOp dgetG (eV 0) (eC (.str [114, 117, 98, 115]))) (aCons (eLst true (aCons (eV 1) (aCons (eC (.bl true)) (aNil)))) (aNil)))) (sCons (sAsg (eLst false (aNil)) (gSb (eOp dgetG (eV 0) (eC (.str [117, 110, 100, 111, 110, 101]))) (eV 1) setLG)) (sRet (eC .non))))) (sNext)) (sCons (sAsg (eIf (tv (eOp (eqG false) (eV 2) (eC (.str [98, 97, 99, 107])))) (eV 3) (eOp ixG (eOp dgetG (eV 0) (eC (.str [117, 110, 100, 111, 110, 101]))) (eV 1))) (gN 5)) (sCons (sIf (tv (eOp eqNilG (eV 5) (eLst false (aNil)))) (sRet (eC (.bl false))) (sNext)) (sCons (sAsg (eOp (eqG false) (eV 2) (eC (.str [97, 103, 97, 105, 110]))) (gSb (eOp ixG (eOp dgetG (eV 0) (eC (.str [114, 117, 98, 115]))) (eOp ixG (eV 5) (eNeg (eC (.int 1))))) (eC (.int 1)) setLG)) (sCons (sAsg (eSl false (eV 5) (poNone) (poSome (eNeg (eC (.int 1))))) (gN 6)) (sCons (sIf (tv (eOp (eqG false) (eV 2) (eC (.str [98, 97, 99, 107])))) (sAsg (eOp (addG false) (eOp ixG (eOp dgetG (eV 0) (eC (.str [117, 110, 100, 111, 110, 101]))) (eV 1)) (eLst false (aCons (eOp ixG (eV 5) (eNeg (eC (.int 1)))) (aNil)))) (gN 6)) (sNext)) (sCons (sAsg (eV 6) (gSb (eOp dgetG (eV 0) (eC (.str [117, 110, 100, 111, 110, 101]))) (eV 1) setLG)) (sRet (eC (.bl true)))))))))))
/-- law_k37: 16 slots, 1 parameters -/
def d_law_k37 (m_law_begun : FV) (m_law_take : FV) (m_law_sign : FV) (m_Table_right : FV) (m_Table_rub : FV) (m_Table_back : FV) (m_Table_again_k32 : FV) (m_law_alike : FV) (m_law_due_k37 : FV) (m_Table_page : FV) (m_Table_at : FV) (m_Table_told : FV) (m_Table_init : FV) : SV := sCons (sAsg (eCall 1 m_law_begun (aCons (eV 0) (aNil))) (gN 1)) (sCons (sPar 2 3 (aCons (eOp (addG false) (eC (.int 2)) (eCall 2 m_law_take (aCons (eV 1) (aCons (eC (.int 3)) (aNil))))) (aCons (eCall 1 m_law_sign (aCons (eV 1) (aNil))) (aNil)))) (sCons (sAsg (eMt "str" (joinG) (eC (.str [])) (aCons (eLc false (iR1 (aCons (eCall 2 m_law_take (aCons (eV 1) (aCons (eC (.int 5)) (aNil)))) (aNil))) [13] (.one 13) (tYesD) (eCall 1 m_law_sign (aCons (eV 1) (aNil)))) (aNil))) (gN 4)) (sCons (sAsg (eTup (aCons (eMake 16 4 m_Table_init (aCons (eLst false (aCons (eTup (aCons (eOp (addG false) (eV 3) (eV 4)) (aNil))) (aNil))) (aCons (eTup (aCons (eC (.int 1)) (aCons (eC (.int 0)) (aNil)))) (aCons (eV 2) (aNil))))) (aCons (eDictL (pCons (eC (.str [114, 117, 98, 115])) (eLst true (aNil)) (pCons (eC (.str [117, 110, 100, 111, 110, 101])) (eLc true (iR1 (aCons (eV 2) (aNil))) [7] (.one 7) (tYesD) (eLst false (aNil))) (pNil)))) (aNil)))) (gTp 2 (gsCons (gN 5) (gsCons (gN 6) (gsNil))))) (sCons (sFor (iR1 (aCons (eV 2) (aNil))) (gN 7) (sExpr (eMeth 16 "right" 2 m_Table_right (eV 5) (aCons (eV 7) (aNil))))) (sCons (sFor (iR1 (aCons (eCall 2 m_law_take (aCons (eV 1) (aCons (eC (.int 61)) (aNil)))) (aNil))) (gN 8) (sCons (sAsg (eTup (aCons (eCall 2 m_law_take (aCons (eV 1) (aCons (eV 2) (aNil)))) (aCons (eOp ixG (eLst false (aCons (eC (.str [114, 117, 98])) (aCons (eC (.str [114, 117, 98])) (aCons (eC (.str [98, 97, 99, 107])) (aCons (eC (.str [97, 103, 97, 105, 110])) (aNil)))))) (eCall 2 m_law_take (aCons (eV 1) (aCons (eC (.int 4)) (aNil))))) (aNil)))) (gTp 2 (gsCons (gN 7) (gsCons (gN 9) (gsNil))))) (sCons (sIf (tv (eOp (eqG false) (eV 9) (eC (.str [114, 117, 98])))) (sAsg (eTold [4, 7] (hmC2 [4] (.str [110, 111, 110, 101]) (.str [111, 116, 104, 101, 114])) [5, 7] (eMeth 16 "rub" 2 m_Table_rub (eV 0) (aCons (eV 1) (aNil)))) (gN 10)) (sAsg (eTold [4, 7] (hmC2 [4] (.str [110, 111, 110, 101]) (.str [111, 116, 104, 101, 114])) [9, 5, 7] (eIf (tv (eOp (eqG false) (eV 0) (eC (.str [98, 97, 99, 107])))) (eMeth 16 "back" 2 m_Table_back (eV 1) (aCons (eV 2) (aNil))) (eMeth 16 "again" 2 m_Table_again_k32 (eV 1) (aCons (eV 2) (aNil))))) (gN 10))) (sCons (sIf (tNotD (tv (eCall 2 m_law_alike (aCons (eV 10) (aCons (eCall 3 m_law_due_k37 (aCons (eV 6) (aCons (eV 7) (aCons (eV 9) (aNil))))) (aNil)))))) (sRet (eC (.bl false))) (sNext)) (sCons (sAsg (eOp eqNilG (eLc false (iSeq (eOp dgetG (eV 6) (eC (.str [114, 117, 98, 115])))) [14] (.one 14) (tv (eOp ixG (eV 14) (eC (.int 1)))) (eV 14)) (eLst false (aNil))) (gN 11)) (sCons (sAsg (eB intG (aCons (eV 11) (aNil))) (gN 12)) (sCons (sIf (tNotD (tv (eCall 2 m_law_alike (aCons (eMeth 16 "page" 1 m_Table_page (eV 5) aNil) (aCons (eLst false (aCons (eTup (aCons (eOp (addG false) (eOp (mulG false) (eV 3) (eV 12)) (eV 4)) (aNil))) (aNil))) (aNil)))))) (sRet (eC (.bl false))) (sNext)) (sCons (sIf (tv (eOp (eqG true) (eLc false (iR1 (aCons (eV 2) (aNil))) [15] (.one 15) (tv (eOp (eqG true) (eMeth 16 "at" 2 m_Table_at (eV 5) (aCons (eV 15) (aNil))) (eTup (aCons (eC (.int 0)) (aCons (eC (.int 0)) (aCons (eV 12) (aNil))))))) (eV 15)) (eLst false (aNil)))) (sRet (eC (.bl false))) (sNext)) (sIf (tNotD (tv (eCall 2 m_law_alike (aCons (eMeth 16 "told" 1 m_Table_told (eV 5) aNil) (aCons (eLc false (iSeq (eOp dgetG (eV 6) (eC (.str [114, 117, 98, 115])))) [14] (.one 14) (tYesD) (eTup (aCons (eOp ixG (eV 14) (eC (.int 0))) (aCons (eC (.str [])) (aCons (eOp ixG (eV 14) (eC (.int 1))) (aNil)))))) (aNil)))))) (sRet (eC (.bl false))) (sNext)))))))))) (sRet (eC (.bl true))))))))
end Dl
namespace Dl
open PySem L2
theorem Has.step {S S' : Store} {A A' B : List (Nat × Ob)} (h : Has S (A ++ B)) (h' : Has S' A') (st : Stay S S' (A.map (·.1))) (ks : ∀ k ∈ A'.map (·.1), k ∈ A.map (·.1) ∨ S.length ≤ k) : Has S' (A' ++ B) := by
  have nd := h.nd
  rw [List.map_append, List.nodup_append] at nd
  obtain ⟨n1, n2, n3⟩ := nd
  refine ⟨?_, fun p hp => ?_⟩
  · rw [List.map_append, List.nodup_append]
    refine ⟨h'.nd, n2, fun a ha b hb e => ?_⟩
    subst e
    rcases ks a ha with q | q
    · exact n3 a q a hb rfl
    · have := h.lt a (by rw [List.map_append]; exact List.mem_append_right _ hb)
      omega
  · rcases List.mem_append.mp hp with hp | hp
    · exact h'.at_ p hp
    · exact st.2 _ _ (fun z => n3 p.1 z p.1 (List.mem_map.mpr ⟨p, hp, rfl⟩) rfl) (h.at_ p (List.mem_append_right _ hp))
theorem Has.left {S : Store} {A B : List (Nat × Ob)} (h : Has S (A ++ B)) : Has S A := h.sub (List.sublist_append_left _ _)
theorem Has.right {S : Store} {A B : List (Nat × Ob)} (h : Has S (A ++ B)) : Has S B := h.sub (List.sublist_append_right _ _)
/-- a list of numbers and truths: rubs -/
structure Rb where
  a : Nat
  h : Nat
  b : Bool
def rbOb (x : Rb) : Nat × Ob := (x.a, .lst [.int x.h, .bl x.b])
structure Du where
  kd : Nat
  r : Nat
  u : Nat
  rs : List Rb
  un : List (List Nat)
def duFs (d : Du) : List (L2.Key × D) := [(.inr "rubs", .ref d.r), (.inr "undone", .ref d.u)]
def objsU (d : Du) : List (Nat × Ob) := (d.kd, .dK (duFs d)) :: (d.r, .lst (d.rs.map fun x => .ref x.a)) :: (d.u, .lst (d.un.map fun ks => .lst (natsD ks))) :: d.rs.map rbOb
section
variable {S : Store} {d : Du}
theorem du_kd (h : Has S (objsU d)) : S[d.kd]? = some (.dK (duFs d)) := h.at_ (d.kd, _) (by simp [objsU])
theorem du_r (h : Has S (objsU d)) : S[d.r]? = some (.lst (d.rs.map fun x => .ref x.a)) := h.at_ (d.r, _) (by simp [objsU])
theorem du_u (h : Has S (objsU d)) : S[d.u]? = some (.lst (d.un.map fun ks => .lst (natsD ks))) := h.at_ (d.u, _) (by simp [objsU])
theorem du_x (h : Has S (objsU d)) {x : Rb} (hx : x ∈ d.rs) : S[x.a]? = some (.lst [.int x.h, .bl x.b]) := h.at_ (x.a, _) (by
  simp only [objsU, List.mem_cons]
  exact .inr (.inr (.inr (List.mem_map.mpr ⟨x, hx, rfl⟩))))
theorem dg_rubs (h : Has S (objsU d)) : dgetG S (.ref d.kd) (.str [114, 117, 98, 115]) = .ok (.ref d.r, S) := by
  have e : ((⟨([114, 117, 98, 115] : List Nat).toArray⟩ : Str)) = "rubs" := by decide +kernel
  simp only [dgetG, dvalG, du_kd h, e, duFs, valK_cons, if_true]
theorem dg_und (h : Has S (objsU d)) : dgetG S (.ref d.kd) (.str [117, 110, 100, 111, 110, 101]) = .ok (.ref d.u, S) := by
  have e : ((⟨([117, 110, 100, 111, 110, 101] : List Nat).toArray⟩ : Str)) = "undone" := by decide +kernel
  have n : ¬ ((Sum.inr "rubs" : L2.Key) = .inr "undone") := by decide +kernel
  simp only [dgetG, dvalG, du_kd h, e, duFs, valK_cons, n, if_false, if_true]
theorem hb_eq (h : Has S (objsU d)) {x : Rb} (hx : x ∈ d.rs) (hand : Nat) : eqG false S (.ref x.a) (.lst [.int hand, .bl true]) = .ok (.bl (decide (x.h = hand) && x.b), S) := by
  have g := du_x h hx
  have e1 : toP S 40 (.ref x.a) = some (.list [.int x.h, .bool x.b]) := by
    rw [toP]; simp only [g]; rfl
  have e2 : toP S 40 (.lst [.int hand, .bl true]) = some (.list [.int hand, .bool true]) := rfl
  unfold eqG
  rw [e1, e2]
  simp only [PyData.eqv, PyData.eqvAll]
  by_cases z : x.h = hand
  · have z' : (x.h : Int) = hand := by omega
    cases x.b <;> simp [z, z']
  · have z' : ¬ (x.h : Int) = hand := by omega
    cases x.b <;> simp [z, z']
def onN (p : Nat → Bool) : D → Bool
  | .int i => p i.toNat
  | _ => false
theorem nats_filter (n : Nat) (p : Nat → Bool) : (intsD 0 n).filter (onN p) = natsD ((List.range n).filter p) := by
  have e : intsD 0 n = (List.range n).map fun (k : Nat) => D.int (k : Int) := by
    refine List.ext_getElem? fun i => ?_
    rw [List.getElem?_map]
    by_cases hi : i < n
    · rw [ints_at 0 n i hi, List.getElem?_range hi]; simp
    · rw [List.getElem?_eq_none (by simp; omega), List.getElem?_eq_none (by simp; omega)]; rfl
  unfold natsD
  rw [e, List.filter_map]
  congr 1
/-- the law's own: hands' rubs that stand -/
def mineU (d : Du) (hand : Nat) : List Nat := (List.range d.rs.length).filter fun i => (d.rs[i]?.map fun x => decide (x.h = hand) && x.b).getD false
def anyU (d : Du) : Bool := d.rs.any (·.b)
theorem mine_u (h : Has S (objsU d)) (hl : d.rs.length ≤ 10000) (hand : Nat) {env : Env} (h0 : env[0]? = some (some (.ref d.kd))) (h1 : env[1]? = some (some (.int hand))) (hln : 7 < env.length) :
    eLc false (iR1 (aCons (eB lenG (aCons (eOp dgetG (eV 0) (eC (.str [114, 117, 98, 115]))) (aNil))) (aNil))) [7] (.one 7) (tv (eOp (eqG false) (eOp ixG (eOp dgetG (eV 0) (eC (.str [114, 117, 98, 115]))) (eV 7)) (eLst false (aCons (eV 1) (aCons (eC (.bl true)) (aNil)))))) (eV 7) env S = .ok (.lst (natsD (mineU d hand)), S) := by
  have gr := dg_rubs h
  have lr : listOf S (.ref d.r) = some (d.rs.map fun x => .ref x.a, [(d.r, d.rs.map fun x => .ref x.a)]) := by simp only [listOf, du_r h]
  have ln := len_list lr
  simp only [List.length_map] at ln
  have m1 : -1000000 ≤ (d.rs.length : Int) ∧ (d.rs.length : Int) ≤ 1000000 := by omega
  have m2 : d.rs.length ≤ LIM := le_LIM (by omega)
  have two : (2 : Nat) ≤ LIM := by decide
  obtain ⟨env1, he1⟩ : ∃ env1, env1 = wipeD env [7] := ⟨_, rfl⟩
  have w0 : env1[0]? = some (some (.ref d.kd)) := by rw [he1]; simp only [wipe_cons, wipe_nil]; rw [List.getElem?_set_ne (by decide)]; exact h0
  have w1 : env1[1]? = some (some (.int hand)) := by rw [he1]; simp only [wipe_cons, wipe_nil]; rw [List.getElem?_set_ne (by decide)]; exact h1
  have wl : 7 < env1.length := by rw [he1]; simp only [wipe_cons, wipe_nil, List.length_set]; exact hln
  have key : lcGo [] (.one 7) (tv (eOp (eqG false) (eOp ixG (eOp dgetG (eV 0) (eC (.str [114, 117, 98, 115]))) (eV 7)) (eLst false (aCons (eV 1) (aCons (eC (.bl true)) (aNil)))))) (eV 7) env1 (intsD 0 d.rs.length) [] S = .ok (natsD (mineU d hand), S) := by
    rw [lc_keep rfl (onN fun i => (d.rs[i]?.map fun x => decide (x.h = hand) && x.b).getD false) (intsD 0 d.rs.length) (fun x hx => ?_) wl]
    · rw [nats_filter]; rfl
    · obtain ⟨i, hi⟩ := List.getElem?_of_mem hx
      obtain ⟨hi2, rfl⟩ := ints_get hi
      obtain ⟨x, hxx⟩ : ∃ x, d.rs[i]? = some x := ⟨d.rs[i], by simp [hi2]⟩
      have ix : ixG S (.ref d.r) (.int (i : Int)) = .ok (.ref x.a, S) := by rw [ix_list lr, atI_nat, List.getElem?_map, hxx]; rfl
      have he := hb_eq h (List.mem_of_getElem? hxx) hand
      have v0 : (env1.set 7 (some (.int (i : Int))))[0]? = some (some (.ref d.kd)) := by rw [List.getElem?_set_ne (by decide)]; exact w0
      have v1 : (env1.set 7 (some (.int (i : Int))))[1]? = some (some (.int hand)) := by rw [List.getElem?_set_ne (by decide)]; exact w1
      have v7 : (env1.set 7 (some (.int (i : Int))))[7]? = some (some (.int i)) := by rw [List.getElem?_set_self wl]
      simp [v0, v1, v7, gr, ix, two, he, onN, hxx]
  simp only [r_eLc, ← he1]
  simp [h0, gr, ln, m1, m2, key]
theorem any_u (h : Has S (objsU d)) (hl : d.rs.length ≤ 10000) {o j : Nat} (hoj : o ≠ j) {env : Env} (h0 : env[o]? = some (some (.ref d.kd))) (hln : j < env.length) :
    eOp eqNilG (eLc false (iSeq (eOp dgetG (eV o) (eC (.str [114, 117, 98, 115])))) [j] (.one j) (tv (eOp ixG (eV j) (eC (.int 1)))) (eV j)) (eLst false (aNil)) env S = .ok (.bl (!anyU d), S) := by
  have gr := dg_rubs h
  have lr : listOf S (.ref d.r) = some (d.rs.map fun x => .ref x.a, [(d.r, d.rs.map fun x => .ref x.a)]) := by simp only [listOf, du_r h]
  have it := items_list lr
  have m2 : (d.rs.map fun x => D.ref x.a).length ≤ LIM := le_LIM (by simp; omega)
  obtain ⟨env1, he1⟩ : ∃ env1, env1 = wipeD env [j] := ⟨_, rfl⟩
  have wl : j < env1.length := by rw [he1]; simp only [wipe_cons, wipe_nil, List.length_set]; exact hln
  have gen : ∀ (rs : List Rb) (acc : List D), (∀ x ∈ rs, x ∈ d.rs) → lcGo [(d.r, d.rs.map fun x => .ref x.a)] (.one j) (tv (eOp ixG (eV j) (eC (.int 1)))) (eV j) env1 (rs.map fun x => .ref x.a) acc S = .ok (acc ++ (rs.filter (·.b)).map fun x => .ref x.a, S) := by
    intro rs
    induction rs with
    | nil => intro acc _; rw [List.map_nil, lcGo_nil (still_list lr)]; simp
    | cons x rs ih =>
      intro acc hx
      have g := du_x h (hx x (by simp))
      have lx : listOf S (.ref x.a) = some ([.int x.h, .bl x.b], [(x.a, [.int x.h, .bl x.b])]) := by simp only [listOf, g]
      have ix : ixG S (.ref x.a) (.int 1) = .ok (.bl x.b, S) := by
        rw [ix_list lx, show (1 : Int) = ((1 : Nat) : Int) from rfl, atI_nat]; rfl
      have v7 : (env1.set j (some (.ref x.a)))[j]? = some (some (.ref x.a)) := by rw [List.getElem?_set_self wl]
      have ih2 := fun acc => ih acc fun z hz => hx z (by simp [hz])
      rw [List.map_cons, lcGo_cons (still_list lr)]
      cases hb : x.b with
      | true =>
        rw [hb] at ix
        simp [Tg1.put, v7, ix, ih2, hb]
      | false =>
        rw [hb] at ix
        simp [Tg1.put, v7, ix, ih2, hb]
  have key := gen d.rs [] (fun _ h => h)
  rw [List.nil_append] at key
  have fin : decide (((d.rs.filter (·.b)).map fun x => D.ref x.a).length = 0) = !anyU d := by
    unfold anyU
    rw [List.length_map]
    cases q : d.rs.any (·.b) with
    | true =>
      rw [decide_eq_false]; rfl
      intro z
      rw [List.length_eq_zero_iff, List.filter_eq_nil_iff] at z
      obtain ⟨x, hx, hb⟩ := List.any_eq_true.mp q
      exact z x hx hb
    | false =>
      rw [decide_eq_true]; rfl
      rw [List.length_eq_zero_iff, List.filter_eq_nil_iff]
      intro x hx
      have := List.any_eq_false.mp q x hx
      exact this
  have en : eqNilG S (.lst ((d.rs.filter (·.b)).map fun x => D.ref x.a)) (.lst []) = .ok (.bl (!anyU d), S) := by
    unfold eqNilG
    simp only [lstOf, fin]
  generalize ((d.rs.filter (·.b)).map fun x => D.ref x.a) = RR at key en
  simp only [r_eOp, r_eLc, ← he1]
  simp [h0, gr, it, m2, key, en]
  rw [if_pos (by simpa using m2)]
  simp [key, en]
end
end Dl
namespace Dl
open PySem L2
def m_law_due37 : FV := funD 9 d_law_due_k37
def rbN (a hand : Nat) : Rb := ⟨a, hand, true⟩
structure StpU (S S' : Store) (d d' : Du) : Prop where
  hs : Has S' (objsU d')
  st : Stay S S' ((objsU d).map (·.1))
  ks : ∀ k ∈ (objsU d').map (·.1), k ∈ (objsU d).map (·.1) ∨ S.length ≤ k
section
variable {S T U : Store} {d a b c : Du}
theorem StpU.refl (h : Has S (objsU d)) : StpU S S d d := ⟨h, Stay.refl _ _, fun _ h => .inl h⟩
theorem StpU.trans (h : StpU S T a b) (k : StpU T U b c) : StpU S U a c := ⟨k.hs, h.st.trans k.st h.ks, fun x hx => by
  rcases k.ks x hx with q | q
  · exact h.ks x q
  · exact .inr (Nat.le_trans h.st.1 q)⟩
theorem StpU.setU (h : Has S (objsU d)) (v : List (List Nat)) : StpU S (S.set d.u (.lst (v.map fun ks => .lst (natsD ks)))) d { d with un := v } :=
  ⟨Has.set (A := [(d.kd, .dK (duFs d)), (d.r, .lst (d.rs.map fun x => .ref x.a))]) (k := d.u) (o := .lst (d.un.map fun ks => .lst (natsD ks))) _ h, Stay.set _ _ _ (by simp [objsU]), fun _ h => .inl h⟩
theorem StpU.more (h : Has S (objsU d)) (hand : Nat) : StpU S (List.set (S ++ [Ob.lst [.int hand, .bl true]]) d.r (Ob.lst ((d.rs ++ [rbN S.length hand]).map fun x => D.ref x.a))) d { d with rs := d.rs ++ [rbN S.length hand] } := by
  have h1 := h.new (.lst [.int hand, .bl true])
  have e : objsU d ++ [(S.length, Ob.lst [.int hand, .bl true])] = [(d.kd, Ob.dK (duFs d))] ++ (d.r, .lst (d.rs.map fun x => .ref x.a)) :: ((d.u, .lst (d.un.map fun ks => .lst (natsD ks))) :: (d.rs.map rbOb ++ [(S.length, Ob.lst [.int hand, .bl true])])) := by
    unfold objsU; simp
  rw [e] at h1
  have h2 := h1.set (Ob.lst ((d.rs ++ [rbN S.length hand]).map fun x => D.ref x.a))
  have e2 : objsU { d with rs := d.rs ++ [rbN S.length hand] } = [(d.kd, Ob.dK (duFs d))] ++ (d.r, .lst ((d.rs ++ [rbN S.length hand]).map fun x => .ref x.a)) :: ((d.u, .lst (d.un.map fun ks => .lst (natsD ks))) :: (d.rs.map rbOb ++ [(S.length, Ob.lst [.int hand, .bl true])])) := by
    unfold objsU
    simp [duFs, rbOb, rbN]
  refine ⟨by rw [e2]; exact h2, ?_, fun k hk => ?_⟩
  · have s1 := Stay.app S [Ob.lst [.int hand, .bl true]] ((objsU d).map (·.1))
    exact s1.trans (Stay.set _ ((objsU d).map (·.1)) _ (by simp [objsU])) fun b hb => .inl hb
  · rw [e2] at hk
    unfold objsU
    simp only [List.map_append, List.map_cons, List.map_nil, List.mem_append, List.mem_cons, List.not_mem_nil, or_false] at hk ⊢
    rcases hk with hk | hk | hk | hk | hk
    · exact .inl (.inl hk)
    · exact .inl (.inr (.inl hk))
    · exact .inl (.inr (.inr (.inl hk)))
    · exact .inl (.inr (.inr (.inr hk)))
    · exact .inr (by omega)
theorem StpU.setB (h : Has S (objsU d)) {i : Nat} {x : Rb} (hi : d.rs[i]? = some x) (b : Bool) : StpU S (S.set x.a (.lst [.int x.h, .bl b])) d { d with rs := d.rs.set i { x with b := b } } := by
  have em : (d.rs.set i { x with b := b }).map (fun x => D.ref x.a) = d.rs.map fun x => .ref x.a := by
    rw [List.map_set]
    refine List.ext_getElem? fun j => ?_
    rw [List.getElem?_set]
    by_cases hj : i = j
    · subst hj
      rw [if_pos rfl, if_pos (by simpa using (List.getElem?_eq_some_iff.mp hi).1), List.getElem?_map, hi]; rfl
    · rw [if_neg hj]
  have e1 : ∀ (rs : List Rb) (z : Rb), rs.map (fun x => D.ref x.a) = d.rs.map (fun x => .ref x.a) → rs = d.rs.take i ++ z :: d.rs.drop (i + 1) → objsU { d with rs := rs } = ([(d.kd, .dK (duFs d)), (d.r, .lst (d.rs.map fun x => .ref x.a)), (d.u, .lst (d.un.map fun ks => .lst (natsD ks)))] ++ (d.rs.take i).map rbOb) ++ (z.a, .lst [.int z.h, .bl z.b]) :: (d.rs.drop (i + 1)).map rbOb := fun rs z h1 h2 => by
    unfold objsU
    simp only [h1]
    rw [h2]
    simp [rbOb, duFs]
  have o1 := e1 d.rs x rfl (cut_list hi)
  have o2 := e1 (d.rs.set i { x with b := b }) { x with b := b } em (set_list_cut hi _)
  have o1' : objsU d = _ := o1
  refine ⟨?_, ?_, fun k hk => .inl ?_⟩
  · rw [o2]
    refine Has.set (o := .lst [.int x.h, .bl x.b]) _ ?_
    rw [← o1']
    exact h
  · refine Stay.set _ _ _ ?_
    rw [o1']
    simp
  · rw [o1']
    rw [o2] at hk
    simpa using hk
def rubD (d : Du) (ad hand : Nat) : Du := { d with rs := d.rs ++ [rbN ad hand], un := d.un.set hand [] }
def setD (d : Du) (k : Nat) (b : Bool) (hand : Nat) (ks : List Nat) : Du := { d with rs := match d.rs[k]? with | some x => d.rs.set k { x with b := b } | none => d.rs, un := d.un.set hand ks }
theorem cutTm' {A : Type} (xs : List A) : cutD xs none (some (-1)) = xs.dropLast := by
  have e2 : HT.sIx xs.length xs.length (some (-1)) = xs.length - 1 := by
    show (if (-1 : Int) < 0 then ((-1 : Int) + (xs.length : Int)).toNat else min (-1 : Int).toNat xs.length) = _
    rw [if_pos (show (-1 : Int) < 0 by decide)]; omega
  unfold cutD
  rw [e2, HT.sIx_none, List.drop_zero, Nat.sub_zero, List.dropLast_eq_take]
theorem slr (S : Store) (ks : List Nat) : slG false S (.lst (natsD ks)) none (some (-1)) = .ok (.lst (natsD ks.dropLast), S) := by
  rw [sl_l, cutTm']
  unfold natsD
  rw [List.map_dropLast]
theorem last_nat (S : Store) {ks : List Nat} {k : Nat} (hk : ks.getLast? = some k) : ixG S (.lst (natsD ks)) (.int (-1)) = .ok (.int k, S) := by
  obtain ⟨l, hl⟩ := List.getLast?_eq_some_iff.mp hk
  rw [ixL, hl]
  have : atI (natsD (l ++ [k])) (-1) = some (.int k) := by
    unfold natsD
    rw [List.map_append, List.map_cons, List.map_nil]
    exact atI_last _ _
  rw [this]; rfl
theorem eqNil_nat (S : Store) (ks : List Nat) : eqNilG S (.lst (natsD ks)) (.lst []) = .ok (.bl (decide (ks = [])), S) := by
  unfold eqNilG
  simp only [lstOf]
  have : decide ((natsD ks).length = 0) = decide (ks = []) := by unfold natsD; simp
  rw [this]
theorem due37_rub (h : Has S (objsU d)) (hl : d.rs.length ≤ 10000) {hand : Nat} (hu : hand < d.un.length) :
    (anyU d = true ∧ m_law_due37 [.ref d.kd, .int hand, .str [114, 117, 98]] S = .ok (.str [110, 111, 110, 101], S)) ∨
    (anyU d = false ∧ ∃ S', m_law_due37 [.ref d.kd, .int hand, .str [114, 117, 98]] S = .ok (.non, S') ∧ StpU S S' d (rubD d S.length hand)) := by
  rw [m_law_due37, funD, d_law_due_k37]
  simp only [List.map_cons, List.map_nil, List.length_cons, List.length_nil, List.cons_append, List.nil_append, show List.replicate (9 - (0 + 1 + 1 + 1)) (none : Option D) = [none, none, none, none, none, none] from rfl]
  rw [sCons_nx (sAsgN_at (mine_u h hl hand rfl rfl (by simp)))]
  simp only [List.set_cons_succ, List.set_cons_zero]
  rw [sCons_nx (sAsgN_at (any_u h hl (o := 0) (j := 8) (by decide) rfl (by simp)))]
  simp only [List.set_cons_succ, List.set_cons_zero]
  generalize natsD (mineU d hand) = MM
  rw [r_sCons, sIf_at (b := true) (sx := S) (by simp), if_pos rfl]
  cases hy : anyU d with
  | true =>
    left
    refine ⟨rfl, ?_⟩
    simp
  | false =>
    right
    refine ⟨rfl, ?_⟩
    have gr := dg_rubs h
    have gu := dg_und h
    have s1 := StpU.more h hand
    have tyr : tyM S (.ref d.r) = some "list" := by simp only [tyM, du_r h]
    have gr1 : (S ++ [Ob.lst [.int hand, .bl true]])[d.r]? = some (.lst (d.rs.map fun x => .ref x.a)) := get_app (du_r h)
    have ap := app_at (.ref S.length) gr1 (by rw [List.length_map]; omega)
    have ea : (d.rs.map fun x => D.ref x.a) ++ [.ref S.length] = (d.rs ++ [rbN S.length hand]).map fun x => .ref x.a := by simp [rbN]
    rw [ea] at ap
    obtain ⟨S1, hS1⟩ : ∃ S1, S1 = List.set (S ++ [Ob.lst [.int hand, .bl true]]) d.r (Ob.lst ((d.rs ++ [rbN S.length hand]).map fun x => D.ref x.a)) := ⟨_, rfl⟩
    rw [← hS1] at ap s1
    have h1 := s1.hs
    have gu1 := dg_und h1
    have uu := du_u h1
    have sa := setL_at (v := .lst []) uu (by rw [List.length_map]; exact hu)
    have e2 : (d.un.map fun ks => D.lst (natsD ks)).set hand (.lst []) = (d.un.set hand []).map fun ks => .lst (natsD ks) := by rw [List.map_set]; rfl
    have sa2 : setLG S1 (.ref d.u) (.int hand) (.lst []) = some (S1.set d.u (.lst ((d.un.map fun ks => D.lst (natsD ks)).set hand (.lst [])))) := sa
    rw [e2] at sa2
    have s2 := StpU.setU h1 (d.un.set hand [])
    have two : (2 : Nat) ≤ LIM := by decide
    have gu2 : dgetG S1 (.ref d.kd) (.str [117, 110, 100, 111, 110, 101]) = .ok (.ref d.u, S1) := gu1
    refine ⟨_, ?_, s1.trans s2⟩
    have zero : (0 : Nat) ≤ LIM := by decide
    simp [gr, tyr, two, ap, gu2, zero, sa2]
/-- what is to be taken back, or let stand: none, or its last one -/
theorem due37_turn (h : Has S (objsU d)) (hl : d.rs.length ≤ 10000) {hand : Nat} (hu : hand < d.un.length) (b : Bool) {ks : List Nat} (hks : ks = if b = true then mineU d hand else d.un.getD hand []) (hlt : ∀ k ∈ ks, k < d.rs.length) (hul : (d.un.getD hand []).length ≤ 10000) :
    (ks = [] ∧ m_law_due37 [.ref d.kd, .int hand, .str (if b = true then [98, 97, 99, 107] else [97, 103, 97, 105, 110])] S = .ok (.bl false, S)) ∨
    ∃ k S', ks.getLast? = some k ∧ m_law_due37 [.ref d.kd, .int hand, .str (if b = true then [98, 97, 99, 107] else [97, 103, 97, 105, 110])] S = .ok (.bl true, S') ∧ StpU S S' d (setD d k (!b) hand (if b = true then d.un.getD hand [] ++ [k] else ks.dropLast)) := by
  obtain ⟨wy, hwy⟩ : ∃ wy : List Nat, wy = if b = true then [98, 97, 99, 107] else [97, 103, 97, 105, 110] := ⟨_, rfl⟩
  rw [← hwy]
  rw [m_law_due37, funD, d_law_due_k37]
  simp only [List.map_cons, List.map_nil, List.length_cons, List.length_nil, List.cons_append, List.nil_append, show List.replicate (9 - (0 + 1 + 1 + 1)) (none : Option D) = [none, none, none, none, none, none] from rfl]
  rw [sCons_nx (sAsgN_at (mine_u h hl hand rfl rfl (by simp)))]
  simp only [List.set_cons_succ, List.set_cons_zero]
  rw [sCons_nx (sAsgN_at (any_u h hl (o := 0) (j := 8) (by decide) rfl (by simp)))]
  simp only [List.set_cons_succ, List.set_cons_zero]
  have nr : ¬ wy = [114, 117, 98] := by rw [hwy]; cases b <;> decide
  have bk : decide (wy = [98, 97, 99, 107]) = b := by rw [hwy]; cases b <;> rfl
  have ag : decide (wy = [97, 103, 97, 105, 110]) = !b := by rw [hwy]; cases b <;> rfl
  have i1 : ∀ T, eqG false T (.str wy) (.str [98, 97, 99, 107]) = .ok (.bl b, T) := fun T => by rw [is_str, bk]
  have i2 : ∀ T, eqG false T (.str wy) (.str [97, 103, 97, 105, 110]) = .ok (.bl (!b), T) := fun T => by rw [is_str, ag]
  have i3 : eqG false S (.str wy) (.str [114, 117, 98]) = .ok (.bl false, S) := by rw [is_str, decide_eq_false nr]
  generalize hMM : natsD (mineU d hand) = MM
  rw [r_sCons, sIf_at (b := false) (sx := S) (by rw [r_tv]; simp [i3, -eqG_str]), if_neg (by decide), r_sNext, then_nx]
  have gr := dg_rubs h
  have gu := dg_und h
  have luS : ∀ {T : Store} {e : Du}, Has T (objsU e) → e.u = d.u → e.un = d.un → ixG T (.ref d.u) (.int hand) = .ok (.lst (natsD (d.un.getD hand [])), T) := fun {T e} hT e1 e2 => by
    have := du_u hT
    rw [e1, e2] at this
    have lu : listOf T (.ref d.u) = some (d.un.map fun ks => .lst (natsD ks), [(d.u, d.un.map fun ks => .lst (natsD ks))]) := by simp only [listOf, this]
    have gd : d.un[hand]? = some (d.un.getD hand []) := by rw [List.getD_eq_getElem?_getD, List.getElem?_eq_getElem hu]; rfl
    rw [ix_list lu, atI_nat, List.getElem?_map, gd]; rfl
  have iu := luS h rfl rfl
  have s5 : eIf (tv (eOp (eqG false) (eV 2) (eC (.str [98, 97, 99, 107])))) (eV 3) (eOp ixG (eOp dgetG (eV 0) (eC (.str [117, 110, 100, 111, 110, 101]))) (eV 1)) [some (.ref d.kd), some (.int hand), some (.str wy), some (.lst MM), some (.bl (!anyU d)), none, none, none, none] S = .ok (.lst (natsD ks), S) := by
    rw [hks]
    have i1S := i1 S
    cases b with
    | true =>
      rw [if_pos rfl, hMM]
      simp [i1S, -eqG_str]
    | false =>
      rw [if_neg (by decide)]
      simp [i1S, gu, iu, -eqG_str]
  rw [sCons_nx (sAsgN_at s5)]
  simp only [List.set_cons_succ, List.set_cons_zero]
  have en := eqNil_nat S ks
  by_cases hk0 : ks = []
  · left
    refine ⟨hk0, ?_⟩
    rw [hk0] at en ⊢
    rw [decide_eq_true rfl] at en
    rw [r_sCons, sIf_at (b := true) (sx := S) (by simp [en]), if_pos rfl]
    simp
  · right
    obtain ⟨k, hk⟩ : ∃ k, ks.getLast? = some k := by
      cases q : ks.getLast? with
      | none => exact absurd (List.getLast?_eq_none_iff.mp q) hk0
      | some k => exact ⟨k, rfl⟩
    rw [decide_eq_false hk0] at en
    rw [r_sCons, sIf_at (b := false) (sx := S) (by simp [en]), if_neg (by decide), r_sNext, then_nx]
    have kl := hlt k (List.mem_of_getLast? hk)
    obtain ⟨x, hx⟩ : ∃ x, d.rs[k]? = some x := ⟨d.rs[k], by simp [kl]⟩
    have xm := List.mem_of_getElem? hx
    have gx := du_x h xm
    have lr : listOf S (.ref d.r) = some (d.rs.map fun x => .ref x.a, [(d.r, d.rs.map fun x => .ref x.a)]) := by simp only [listOf, du_r h]
    have ixr : ixG S (.ref d.r) (.int (k : Int)) = .ok (.ref x.a, S) := by rw [ix_list lr, atI_nat, List.getElem?_map, hx]; rfl
    have sa := setL_at (i := 1) (v := .bl (!b)) gx (by simp)
    have lk := fun T => last_nat T hk
    have s1 := StpU.setB h hx (!b)
    obtain ⟨S1, hS1⟩ : ∃ S1, S1 = S.set x.a (.lst [.int x.h, .bl (!b)]) := ⟨_, rfl⟩
    have sa1 : setLG S (.ref x.a) (.int 1) (.bl (!b)) = some S1 := by rw [hS1]; exact sa
    rw [← hS1] at s1
    have h1 := s1.hs
    obtain ⟨KK, hKK⟩ : ∃ KK, KK = natsD ks := ⟨_, rfl⟩
    have lkS := lk S
    rw [← hKK] at lkS ⊢
    have i2S := i2 S
    rw [sCons_nx (e := [some (.ref d.kd), some (.int hand), some (.str wy), some (.lst MM), some (.bl (!anyU d)), some (.lst KK), none, none, none]) (s := S1) (by simp [i2S, gr, lkS, ixr, sa1, -eqG_str])]
    have sl := slr S1 ks
    rw [← hKK] at sl
    rw [sCons_nx (sAsgN_at (x := .lst (natsD ks.dropLast)) (sx := S1) (by simp [sl]))]
    simp only [List.set_cons_succ, List.set_cons_zero]
    have gu0 := dg_und h1
    have gu1 : dgetG S1 (.ref d.kd) (.str [117, 110, 100, 111, 110, 101]) = .ok (.ref d.u, S1) := gu0
    have iu1 := luS h1 rfl rfl
    have lk1 := lk S1
    rw [← hKK] at lk1
    obtain ⟨LT, hLT⟩ : ∃ LT, LT = if b = true then d.un.getD hand [] ++ [k] else ks.dropLast := ⟨_, rfl⟩
    have i1S := i1 S1
    have s6 : sIf (tv (eOp (eqG false) (eV 2) (eC (.str [98, 97, 99, 107])))) (sAsg (eOp (addG false) (eOp ixG (eOp dgetG (eV 0) (eC (.str [117, 110, 100, 111, 110, 101]))) (eV 1)) (eLst false (aCons (eOp ixG (eV 5) (eNeg (eC (.int 1)))) (aNil)))) (gN 6)) (sNext) [some (.ref d.kd), some (.int hand), some (.str wy), some (.lst MM), some (.bl (!anyU d)), some (.lst KK), some (.lst (natsD ks.dropLast)), none, none] S1
        = .nx [some (.ref d.kd), some (.int hand), some (.str wy), some (.lst MM), some (.bl (!anyU d)), some (.lst KK), some (.lst (natsD LT)), none, none] S1 := by
      rw [sIf_at (b := b) (sx := S1) (by rw [r_tv]; simp [i1S, -eqG_str])]
      cases b with
      | true =>
        rw [if_pos rfl] at hLT ⊢
        have ad := add_ll S1 (natsD (d.un.getD hand [])) [.int k] (by simp [natsD] at hul ⊢; omega)
        have e : natsD (d.un.getD hand []) ++ [.int k] = natsD LT := by rw [hLT]; simp [natsD]
        rw [e] at ad
        have one : (1 : Nat) ≤ LIM := by decide
        generalize natsD (d.un.getD hand []) = UU at *
        generalize natsD LT = LL at *
        simp [gu1, iu1, lk1, one, ad]
      | false =>
        rw [if_neg (by decide)] at hLT ⊢
        rw [hLT]
        rfl
    rw [sCons_nx s6]
    have uu := du_u h1
    have sb := setL_at (v := .lst (natsD LT)) uu (by rw [List.length_map]; exact hu)
    have e2 : (d.un.map fun ks => D.lst (natsD ks)).set hand (.lst (natsD LT)) = (d.un.set hand LT).map fun ks => .lst (natsD ks) := by rw [List.map_set]
    have sb2 : setLG S1 (.ref d.u) (.int hand) (.lst (natsD LT)) = some (S1.set d.u (.lst ((d.un.map fun ks => D.lst (natsD ks)).set hand (.lst (natsD LT))))) := sb
    rw [e2] at sb2
    have s2 := StpU.setU h1 (d.un.set hand LT)
    refine ⟨k, S1.set d.u (.lst ((d.un.set hand LT).map fun ks => .lst (natsD ks))), hk, ?_, ?_⟩
    · generalize natsD LT = LL at *
      rw [sCons_nx (e := [some (.ref d.kd), some (.int hand), some (.str wy), some (.lst MM), some (.bl (!anyU d)), some (.lst KK), some (.lst LL), none, none]) (s := S1.set d.u (.lst ((d.un.set hand LT).map fun ks => .lst (natsD ks)))) (by simp [gu1, sb2])]
      simp
    · have e3 : setD d k (!b) hand LT = { d with rs := d.rs.set k { x with b := !b }, un := d.un.set hand LT } := by
        unfold setD; rw [hx]
      rw [← hLT, e3]
      exact s1.trans s2
end
end Dl
namespace Dl
open PySem L2
def behind (more : List Nat) : Option Nat := if more = [] then none else some 1
/-- the marks: the sign with as many cuts as there are deeds; the others without -/
structure K37 (t : TC) (sg : Nat) (more : List Nat) : Prop where
  mks : ∃ a c rest, t.marks = ⟨0, sg, none, List.range t.lasts.length, a, c⟩ :: rest ∧ rest.map (·.sg) = more ∧ (∀ m ∈ rest, m.born = none ∧ m.cuts = []) ∧ (rest.head?.map (·.name)) = behind more
  de : ∀ d ∈ t.deeds, d.2 = []
  ml : more.length ≤ 5
  mo : ∀ c ∈ more, okSign c = true
  so : okSign sg = true
def hereB (la : List Bool) : Bool := !(la.any id)
section
variable {t : TC} {sg : Nat} {more : List Nat}
theorem any_range (la : List Bool) : ((List.range la.length).any fun c => la.getD c false) = la.any id := by
  rw [Bool.eq_iff_iff, List.any_eq_true, List.any_eq_true]
  constructor
  · rintro ⟨i, hi, h⟩
    rw [List.mem_range] at hi
    refine ⟨la[i], List.getElem_mem hi, ?_⟩
    simpa [List.getD_eq_getElem?_getD, hi] using h
  · rintro ⟨b, hb, h⟩
    obtain ⟨i, hi, rfl⟩ := List.mem_iff_getElem.mp hb
    exact ⟨i, List.mem_range.mpr hi, by simpa [List.getD_eq_getElem?_getD, hi] using h⟩
theorem K37.split (h : K37 t sg more) : ∃ m0 rest, t.marks = m0 :: rest ∧ m0.name = 0 ∧ m0.sg = sg ∧ m0.born = none ∧ m0.cuts = List.range t.lasts.length ∧ rest.map (·.sg) = more ∧ (∀ la, ∀ m ∈ rest, thr la m = true) ∧ (rest.head?.map (·.name)) = behind more ∧ thr t.lasts m0 = hereB t.lasts := by
  obtain ⟨a, c, rest, e, h1, h2, h3⟩ := h.mks
  refine ⟨_, rest, e, rfl, rfl, rfl, rfl, h1, fun la m hm => ?_, h3, ?_⟩
  · obtain ⟨q1, q2⟩ := h2 m hm
    unfold thr; rw [q1, q2]; rfl
  · unfold thr hereB
    simp only [Bool.true_and]
    rw [any_range]
theorem K37.num (h : K37 t sg more) : numM t.marks (behind more) = 1 := by
  obtain ⟨m0, rest, e, n0, _, _, _, h1, _, h3, _⟩ := h.split
  unfold numM behind
  rw [e]
  by_cases z : more = []
  · have : rest = [] := by rw [z] at h1; exact List.map_eq_nil_iff.mp h1
    rw [if_pos z, this]
    simp [List.findIdx_cons]
  · rw [if_neg z]
    unfold behind at h3
    rw [if_neg z] at h3
    cases rest with
    | nil => cases h3
    | cons m1 rest =>
      have n1 : m1.name = 1 := by simpa using h3
      simp [List.findIdx_cons, n0, n1]
theorem K37.rest (h : K37 t sg more) (la : List Bool) : (((t.marks.drop 1).filter (thr la)).head?).map (·.name) = behind more := by
  obtain ⟨m0, rest, e, _, _, _, _, h1, h2, h3, _⟩ := h.split
  rw [e]
  have : (m0 :: rest).drop 1 = rest := rfl
  rw [this, List.filter_eq_self.mpr (h2 la)]
  exact h3
theorem K37.go (h : K37 t sg more) : goS t (behind more) = behind more := by
  unfold goS
  rw [h.num]
  exact h.rest t.lasts
theorem K37.txt (h : K37 t sg more) : txtT t = (if hereB t.lasts = true then [sg] else []) ++ more := by
  obtain ⟨m0, rest, e, _, n1, _, _, h1, h2, _, h4⟩ := h.split
  unfold txtT
  rw [e, List.filter_cons, h4, List.filter_eq_self.mpr (h2 t.lasts)]
  split
  · rw [List.map_cons, n1, h1]; rfl
  · rw [h1]; rfl
theorem spl_one (c : Nat) {s : List Nat} (h : c ∉ s) : splitL [c] s = [s] := TL.spl_join (parts := [s]) (by simp) (by simpa using h)
theorem sgn_no {s : List Nat} (h : ∀ c ∈ s, okSign c = true) : 10 ∉ s ∧ 9 ∉ s := ⟨fun z => (by have := h 10 z; cases this), fun z => (by have := h 9 z; cases this)⟩
theorem K37.rows (h : K37 t sg more) : rowsT t = [[(if hereB t.lasts = true then [sg] else []) ++ more]] := by
  unfold rowsT rowsS
  rw [h.txt]
  have ok : ∀ c ∈ (if hereB t.lasts = true then [sg] else []) ++ more, okSign c = true := fun c hc => by
    rcases List.mem_append.mp hc with hc | hc
    · split at hc
      · simp at hc; rw [hc]; exact h.so
      · cases hc
    · exact h.mo c hc
  obtain ⟨n1, n2⟩ := sgn_no ok
  rw [spl_one 10 n1, List.map_singleton, spl_one 9 n2]
theorem K37.page (h : K37 t sg more) : pageB (rowsT t) = true := by
  rw [h.rows]
  have ok : ∀ c ∈ (if hereB t.lasts = true then [sg] else []) ++ more, okSign c = true := fun c hc => by
    rcases List.mem_append.mp hc with hc | hc
    · split at hc
      · simp at hc; rw [hc]; exact h.so
      · cases hc
    · exact h.mo c hc
  have hl : ((if hereB t.lasts = true then [sg] else []) ++ more).length ≤ 10 := by
    have := h.ml
    rw [List.length_append]
    split <;> simp <;> omega
  have oc : okCell ((if hereB t.lasts = true then [sg] else []) ++ more) = true := by
    simp only [okCell, Bool.and_eq_true, decide_eq_true_eq, List.all_eq_true]
    exact ⟨hl, ok⟩
  simp [pageB, okRow, oc]
theorem K37.last (h : K37 t sg more) (k : Nat) (b : Bool) : K37 (lastT t k b) sg more := by
  obtain ⟨a, c, rest, e, h1, h2, h3⟩ := h.mks
  exact ⟨⟨a, c, rest, by show t.marks = _; rw [e]; simp [lastT], h1, h2, h3⟩, h.de, h.ml, h.mo, h.so⟩
theorem K37.ix (h : K37 t sg more) : lastIx t (behind more) = if hereB t.lasts = true then some 0 else none := by
  obtain ⟨m0, rest, e, _, _, _, _, _, _, _, h4⟩ := h.split
  unfold lastIx
  rw [h.num, lastB]
  have : thrAt t 0 = hereB t.lasts := by unfold thrAt; rw [e]; exact h4
  rw [this, lastB]
theorem K37.cut (h : K37 t sg more) (hdl : t.deeds.length = t.lasts.length) (hand : Nat) {m : MkC} (hm : t.marks[0]? = some m) : K37 (cutT t hand 0 m) sg more := by
  obtain ⟨a, c, rest, e, h1, h2, h3⟩ := h.mks
  rw [e] at hm
  cases hm
  refine ⟨⟨a, c, rest, ?_, h1, h2, h3⟩, fun d hd => ?_, h.ml, h.mo, h.so⟩
  · show t.marks.set 0 _ = _
    rw [e, List.set_cons_zero, hdl, ← List.range_succ]
    simp [cutT, noteT]
  · rcases List.mem_append.mp hd with hd | hd
    · exact h.de d hd
    · simp at hd; rw [hd]
theorem K37.at_ (h : K37 t sg more) : atT t (behind more) = (0, 0, if hereB t.lasts = true then 1 else 0) := by
  obtain ⟨m0, rest, e, _, n1, _, _, _, _, _, h4⟩ := h.split
  have ea : (aheadM t (behind more)).map (·.sg) = if hereB t.lasts = true then [sg] else [] := by
    unfold aheadM
    rw [h.num, e]
    simp only [List.take_succ_cons, List.take_zero, List.filter_cons, h4, List.filter_nil]
    split
    · rw [List.map_cons, n1]; rfl
    · rfl
  have e2 : atT t (behind more) = ((splitL [10] ((aheadM t (behind more)).map (·.sg))).length - 1, (splitL [9] ((splitL [10] ((aheadM t (behind more)).map (·.sg))).getLast?.getD [])).length - 1, ((splitL [9] ((splitL [10] ((aheadM t (behind more)).map (·.sg))).getLast?.getD [])).getLast?.getD []).length) := rfl
  rw [e2, ea]
  have ok : ∀ c ∈ (if hereB t.lasts = true then [sg] else [] : List Nat), okSign c = true := fun c hc => by
    split at hc
    · simp at hc; rw [hc]; exact h.so
    · cases hc
  obtain ⟨q1, q2⟩ := sgn_no ok
  rw [spl_one 10 q1]
  simp only [List.getLast?_singleton, Option.getD_some]
  rw [spl_one 9 q2]
  simp only [List.getLast?_singleton, Option.getD_some, List.length_singleton, Nat.sub_self]
  congr 2
  split <;> rfl
end
structure Both (t : TC) (d : Du) (hands : Nat) : Prop where
  hs : d.rs.map (fun x => (x.h, x.b)) = (t.deeds.map (·.1)).zip t.lasts
  un : d.un = t.undone.map (·.1)
  hl : t.stood.length = hands
section
variable {t : TC} {d : Du} {hands N : Nat}
theorem Both.len (h : Both t d hands) (w : TOk N t) : d.rs.length = t.lasts.length := by
  have := congrArg List.length h.hs
  simp at this
  have := w.dl
  omega
theorem Both.at_ (h : Both t d hands) {i : Nat} {x : Rb} (hx : d.rs[i]? = some x) : (∃ dd, t.deeds[i]? = some dd ∧ dd.1 = x.h) ∧ t.lasts[i]? = some x.b := by
  have := congrArg (fun l => l[i]?) h.hs
  simp only [List.getElem?_map, hx, Option.map_some] at this
  have z := List.getElem?_zip_eq_some.mp this.symm
  obtain ⟨z1, z2⟩ := z
  rw [List.getElem?_map] at z1
  cases q : t.deeds[i]? with
  | none => rw [q] at z1; cases z1
  | some dd => rw [q] at z1; exact ⟨⟨dd, rfl, by simpa using z1⟩, z2⟩
theorem Both.mine (h : Both t d hands) (w : TOk N t) (hand : Nat) : mineU d hand = mineT t hand := by
  unfold mineU mineT
  rw [h.len w, w.dl]
  refine List.filter_congr fun i hi => ?_
  rw [List.mem_range] at hi
  obtain ⟨x, hx⟩ : ∃ x, d.rs[i]? = some x := ⟨d.rs[i]'(by rw [h.len w]; exact hi), by simp [h.len w, hi]⟩
  obtain ⟨⟨dd, q1, q2⟩, q3⟩ := h.at_ hx
  rw [hx]
  simp only [Option.map_some, Option.getD_some, List.getD_eq_getElem?_getD, q1, q3, q2]
theorem Both.any (h : Both t d hands) (w : TOk N t) : anyU d = !hereB t.lasts := by
  unfold anyU hereB
  rw [Bool.not_not]
  have e : t.lasts = d.rs.map (·.b) := by
    have := congrArg (List.map Prod.snd) h.hs
    rw [List.map_map, List.map_snd_zip (by simp [w.dl])] at this
    rw [← this]
    rfl
  rw [e, List.any_map]
  rfl
theorem Both.und (h : Both t d hands) (hand : Nat) : d.un.getD hand [] = undT t hand := by
  unfold undT
  rw [h.un]
  simp only [List.getD_eq_getElem?_getD, List.getElem?_map]
  cases t.undone[hand]? <;> rfl
theorem Both.ul (h : Both t d hands) (w : TOk N t) : d.un.length = hands := by
  rw [h.un, List.length_map, w.su, h.hl]
theorem zip_set {A B : Type} : ∀ (as : List A) (bs : List B) (k : Nat) (b : B), as.zip (bs.set k b) = match as[k]? with | some a => (as.zip bs).set k (a, b) | none => as.zip bs
  | [], bs, k, b => by simp
  | a :: as, [], k, b => by
    simp
    split <;> rfl
  | a :: as, c :: bs, 0, b => by simp
  | a :: as, c :: bs, k + 1, b => by
    rw [List.set_cons_succ, List.zip_cons_cons, zip_set as bs k b, List.getElem?_cons_succ]
    cases as[k]? <;> simp
theorem Both.turn (h : Both t d hands) (w : TOk N t) {k : Nat} (hk : k < t.lasts.length) (b : Bool) (hand : Nat) (ks : List Nat) : Both (setUn (goT (lastT t k b)) hand ks) (setD d k b hand ks) hands := by
  obtain ⟨x, hx⟩ : ∃ x, d.rs[k]? = some x := ⟨d.rs[k]'(by rw [h.len w]; exact hk), by simp [h.len w, hk]⟩
  obtain ⟨⟨dd, q1, q2⟩, q3⟩ := h.at_ hx
  refine ⟨?_, ?_, ?_⟩
  · unfold setD
    rw [hx]
    simp only
    show (d.rs.set k { x with b := b }).map _ = (t.deeds.map (·.1)).zip (t.lasts.set k b)
    rw [zip_set, List.map_set, h.hs, List.getElem?_map, q1]
    simp only [Option.map_some, q2]
  · show d.un.set hand ks = (t.undone.set hand _).map _
    rw [List.map_set, h.un]
  · show (t.stood.map _).length = _
    rw [List.length_map]; exact h.hl
theorem Both.rub (h : Both t d hands) (w : TOk N t) (hand i : Nat) (m : MkC) (ad ad2 : Nat) : Both (rubT t hand i m ad) (rubD d ad2 hand) hands := by
  refine ⟨?_, ?_, ?_⟩
  · show (d.rs ++ [rbN ad2 hand]).map _ = (List.map (fun d : Nat × List Nat => d.1) (t.deeds ++ [(hand, [])])).zip (t.lasts ++ [true])
    rw [List.map_append, h.hs, List.map_append, List.zip_append (by simp [w.dl])]
    rfl
  · show d.un.set hand [] = (t.undone.set hand _).map _
    rw [List.map_set, h.un]
  · show (t.stood.map _).length = _
    rw [List.length_map]; exact h.hl
end
end Dl
namespace Dl
open PySem L2
end Dl
namespace Dl
open PySem L2
end Dl
namespace Dl
open PySem L2
end Dl
namespace Dl
open PySem L2
structure J37 (S : Store) (n : Nat) (y : Sty) (t : TC) (d : Du) (N : Nat) (sg : Nat) (more : List Nat) (hands : Nat) : Prop where
  hs : Has S (objsT n y t ++ objsU d)
  k2 : ∀ p ∈ objsT n y t ++ objsU d, 2 ≤ p.1
  k : K37 t sg more
  w : TOk N t
  u : UOk t
  b : Both t d hands
  st : t.stood = List.replicate hands (behind more)
section
variable {S S' : Store} {n N : Nat} {y : Sty} {t t' : TC} {d d' : Du} {sg : Nat} {more : List Nat} {hands : Nat}
theorem J37.tbl (h : J37 S n y t d N sg more hands) : Tbl S n y t := h.hs.left
theorem J37.du (h : J37 S n y t d N sg more hands) : Has S (objsU d) := h.hs.right
theorem J37.two (h : J37 S n y t d N sg more hands) : 2 ≤ S.length := by
  have := h.k2 (n, .ins 16 (tbFs y t)) (by simp [objsT])
  have := (List.getElem?_eq_some_iff.mp h.tbl.tb).1
  simp only at *
  omega
theorem J37.stepT (h : J37 S n y t d N sg more hands) {t' : TC} (s : Step S S' n y t t') : Has S' (objsT n y t' ++ objsU d) ∧ ∀ p ∈ objsT n y t' ++ objsU d, 2 ≤ p.1 := by
  refine ⟨h.hs.step s.tb s.st s.ks, fun p hp => ?_⟩
  have two := h.two
  rcases List.mem_append.mp hp with hp | hp
  · rcases s.ks p.1 (List.mem_map.mpr ⟨p, hp, rfl⟩) with q | q
    · obtain ⟨p', h1, h2⟩ := List.mem_map.mp q
      have := h.k2 p' (List.mem_append_left _ h1)
      omega
    · omega
  · exact h.k2 p (List.mem_append_right _ hp)
theorem has_swap {S : Store} {A B : List (Nat × Ob)} (h : Has S (A ++ B)) : Has S (B ++ A) := h.perm List.perm_append_comm
theorem stepU (h : Has S (objsT n y t ++ objsU d)) (k2 : ∀ p ∈ objsT n y t ++ objsU d, 2 ≤ p.1) (two : 2 ≤ S.length) (s : StpU S S' d d') : Has S' (objsT n y t ++ objsU d') ∧ ∀ p ∈ objsT n y t ++ objsU d', 2 ≤ p.1 := by
  refine ⟨has_swap ((has_swap h).step s.hs s.st s.ks), fun p hp => ?_⟩
  rcases List.mem_append.mp hp with hp | hp
  · exact k2 p (List.mem_append_left _ hp)
  · rcases s.ks p.1 (List.mem_map.mpr ⟨p, hp, rfl⟩) with q | q
    · obtain ⟨p', h1, h2⟩ := List.mem_map.mp q
      have := k2 p' (List.mem_append_right _ h1)
      omega
    · omega
theorem bx_stay {b : Box} {Z : Store} {A : List Nat} (h : Stay (Bx b Z) S' A) (h2 : ∀ k ∈ A, 2 ≤ k) : ∃ Z', S' = Bx b Z' := by
  have c0 := h.2 0 _ (fun z => by have := h2 0 z; omega) (show (Bx b Z)[0]? = some _ from rfl)
  have c1 := h.2 1 _ (fun z => by have := h2 1 z; omega) (show (Bx b Z)[1]? = some _ from rfl)
  match S', c0, c1 with
  | o0 :: o1 :: Z', c0, c1 =>
    refine ⟨Z', ?_⟩
    simp only [List.getElem?_cons_zero, List.getElem?_cons_succ] at c0 c1
    cases c0; cases c1
    rfl
  | [], c0, _ => cases c0
  | [_], _, c1 => cases c1
theorem has_box {b b' : Box} {Z : Store} {L : List (Nat × Ob)} (h : Has (Bx b Z) L) (k2 : ∀ p ∈ L, 2 ≤ p.1) : Has (Bx b' Z) L := h.keep fun p hp => by
  obtain ⟨j, hj⟩ : ∃ j, p.1 = j + 2 := ⟨p.1 - 2, by have := k2 p hp; omega⟩
  rw [hj]; rfl
theorem J37.box {b b' : Box} {Z : Store} (h : J37 (Bx b Z) n y t d N sg more hands) : J37 (Bx b' Z) n y t d N sg more hands := ⟨has_box h.hs h.k2, h.k2, h.k, h.w, h.u, h.b, h.st⟩
theorem J37.app (h : J37 S n y t d N sg more hands) (M : Store) : J37 (S ++ M) n y t d N sg more hands := ⟨h.hs.app, h.k2, h.k, h.w, h.u, h.b, h.st⟩
theorem J37.keysT (h : J37 S n y t d N sg more hands) : ∀ k ∈ keysT n y t, 2 ≤ k := fun k hk => by
  obtain ⟨p, hp, rfl⟩ := List.mem_map.mp hk
  exact h.k2 p (List.mem_append_left _ hp)
theorem J37.hand (h : J37 S n y t d N sg more hands) {hand : Nat} (hh : hand < hands) : t.stood[hand]? = some (behind more) := by
  rw [h.st, List.getElem?_replicate, if_pos hh]
theorem stay_go (h : K37 t sg more) (st : t.stood = List.replicate hands (behind more)) : t.stood.map (goS t) = List.replicate hands (behind more) := by
  rw [st, List.map_replicate, h.go]
/-- done and due -/
structure Done (b : Box) (Z : Store) (n : Nat) (y : Sty) (N : Nat) (sg : Nat) (more : List Nat) (hands : Nat) (kd : Nat) (r1 : R (D × Store)) (due : Store → R (D × Store)) : Prop where
  ex : ∃ v Z1 Z2 t d, r1 = .ok (v, Bx b Z1) ∧ due (Bx b Z1) = .ok (v, Bx b Z2) ∧ J37 (Bx b Z2) n y t d (N + 1) sg more hands ∧ d.kd = kd ∧ (v = .non ∨ v = .str [110, 111, 110, 101] ∨ ∃ b, v = .bl b)
theorem rub37 {b : Box} {Z : Store} (h : J37 (Bx b Z) n y t d N sg more hands) (hN : N < 3000) (hl : d.rs.length ≤ 10000) {hand : Nat} (hh : hand < hands) :
    Done b Z n y N sg more hands d.kd (toldR [4, 7] (hmC2 [4] (.str [110, 111, 110, 101]) (.str [111, 116, 104, 101, 114])) (m_Table_rub [.ref n, .int hand] (Bx b Z))) (m_law_due37 [.ref d.kd, .int hand, .str [114, 117, 98]]) := by
  have ho := h.hand hh
  have hu : hand < d.un.length := by rw [h.b.ul h.w]; exact hh
  have ha := h.b.any h.w
  rcases rub_ok_t h.tbl h.w (by omega) ho with ⟨hn, e⟩ | ⟨i, m, hi, hm, how⟩
  · rw [h.k.ix] at hn
    have hf : hereB t.lasts = false := by
      cases q : hereB t.lasts with
      | true => rw [q] at hn; cases hn
      | false => rfl
    rw [hf] at ha
    rcases due37_rub h.du hl hu with ⟨_, de⟩ | ⟨z, _⟩
    · refine ⟨_, Z, Z, t, d, ?_, de, ⟨h.hs, h.k2, h.k, h.w.mono (Nat.le_succ _) (by omega), h.u, h.b, h.st⟩, rfl, .inr (.inl rfl)⟩
      rw [e]; simp
    · rw [ha] at z; cases z
  · rw [h.k.ix] at hi
    have ht : hereB t.lasts = true := by
      cases q : hereB t.lasts with
      | true => rfl
      | false => rw [q] at hi; cases hi
    rw [ht] at hi ha
    cases hi
    have kc := h.k.cut h.w.dl hand hm
    rcases how with ⟨_, S1, ad, e, s⟩ | ⟨hp, _⟩
    · obtain ⟨Z1, rfl⟩ := bx_stay s.st h.keysT
      obtain ⟨hs1, k21⟩ := h.stepT s
      have d1 : Has (Bx b Z1) (objsU d) := hs1.right
      rcases due37_rub d1 hl hu with ⟨z, _⟩ | ⟨_, S2, de, s2⟩
      · rw [ha] at z; cases z
      · have two : 2 ≤ (Bx b Z1).length := by simp
        obtain ⟨hs2, k22⟩ := stepU hs1 k21 two s2
        obtain ⟨Z2, rfl⟩ := bx_stay s2.st fun k hk => by
          obtain ⟨p, hp, rfl⟩ := List.mem_map.mp hk
          exact k21 p (List.mem_append_right _ hp)
        have kg : K37 (rubT t hand 0 m ad) sg more := ⟨kc.mks, kc.de, kc.ml, kc.mo, kc.so⟩
        refine ⟨_, Z1, Z2, _, _, ?_, de, ⟨hs2, k22, kg, h.w.rub (by omega) hm ad, h.u.rub h.w hand 0 m ad, h.b.rub h.w hand 0 m ad _, ?_⟩, rfl, .inl rfl⟩
        · rw [e]; simp
        · have kf : K37 (freshU (cutT t hand 0 m) hand ad) sg more := ⟨kc.mks, kc.de, kc.ml, kc.mo, kc.so⟩
          exact stay_go kf h.st
    · rw [kc.page] at hp; cases hp
theorem turn37 {b : Box} {Z : Store} (h : J37 (Bx b Z) n y t d N sg more hands) (hN : N < 3000) (hl : d.rs.length ≤ 10000) (hul : ∀ ks ∈ d.un, ks.length ≤ 10000) {hand : Nat} (hh : hand < hands) (bk : Bool) :
    Done b Z n y N sg more hands d.kd (toldR [4, 7] (hmC2 [4] (.str [110, 111, 110, 101]) (.str [111, 116, 104, 101, 114])) (if bk = true then m_Table_back [.ref n, .int hand] (Bx b Z) else m_Table_again [.ref n, .int hand] (Bx b Z))) (m_law_due37 [.ref d.kd, .int hand, .str (if bk = true then [98, 97, 99, 107] else [97, 103, 97, 105, 110])]) := by
  have hu : hand < d.un.length := by rw [h.b.ul h.w]; exact hh
  have hs : hand < t.stood.length := by rw [h.b.hl]; exact hh
  have hlen := h.b.len h.w
  have hul2 : (d.un.getD hand []).length ≤ 10000 := hul _ (by
    rw [List.getD_eq_getElem?_getD, List.getElem?_eq_getElem hu]; exact List.getElem_mem hu)
  obtain ⟨u1, u2⟩ := h.u.und h.w hs
  -- what there is to be turned
  obtain ⟨ks, hks⟩ : ∃ ks, ks = if bk = true then mineT t hand else undT t hand := ⟨_, rfl⟩
  have hks2 : ks = if bk = true then mineU d hand else d.un.getD hand [] := by rw [hks, h.b.mine h.w, h.b.und]
  have hlt : ∀ k ∈ ks, k < d.rs.length := fun k hk => by
    rw [hlen]
    rw [hks] at hk
    cases bk with
    | true =>
      rw [if_pos rfl] at hk
      exact (List.getElem?_eq_some_iff.mp (mine_in h.w hk).1).1
    | false =>
      rw [if_neg (by decide)] at hk
      exact (List.getElem?_eq_some_iff.mp (u2 k hk).1).1
  have res : (ks = [] ∧ (if bk = true then m_Table_back [.ref n, .int hand] (Bx b Z) else m_Table_again [.ref n, .int hand] (Bx b Z)) = .ok (.bl false, Bx b Z)) ∨ ∃ k S', ks.getLast? = some k ∧ (if bk = true then m_Table_back [.ref n, .int hand] (Bx b Z) else m_Table_again [.ref n, .int hand] (Bx b Z)) = .ok (.bl true, S') ∧ Step (Bx b Z) S' n y t (setUn (goT (lastT t k (!bk))) hand (if bk = true then undT t hand ++ [k] else (undT t hand).dropLast)) := by
    cases bk with
    | true =>
      simp only [if_true] at hks ⊢
      subst hks
      rcases back_ok h.tbl h.w hs with ⟨a, e⟩ | ⟨k, hk, ⟨_, S', e, s⟩ | ⟨hp, _⟩⟩
      · exact .inl ⟨a, e⟩
      · exact .inr ⟨k, S', hk, e, s⟩
      · rw [(h.k.last k false).page] at hp; cases hp
    | false =>
      simp only [Bool.false_eq_true, if_false] at hks ⊢
      subst hks
      rcases again_ok h.tbl h.w hs (fun k hk => (u2 k hk).1) with ⟨a, e⟩ | ⟨k, hk, ⟨_, S', e, s⟩ | ⟨hp, _⟩⟩
      · exact .inl ⟨a, e⟩
      · exact .inr ⟨k, S', hk, e, s⟩
      · rw [(h.k.last k true).page] at hp; cases hp
  rcases res with ⟨a, e⟩ | ⟨k, S', hk, e, s⟩
  · rcases due37_turn h.du hl hu bk hks2 hlt hul2 with ⟨_, de⟩ | ⟨k, _, hk, _⟩
    · refine ⟨_, Z, Z, t, d, ?_, de, ⟨h.hs, h.k2, h.k, h.w.mono (Nat.le_succ _) (by omega), h.u, h.b, h.st⟩, rfl, .inr (.inr ⟨_, rfl⟩)⟩
      rw [e]; rfl
    · rw [a] at hk; cases hk
  · obtain ⟨Z1, rfl⟩ := bx_stay s.st h.keysT
    obtain ⟨hs1, k21⟩ := h.stepT s
    have d1 : Has (Bx b Z1) (objsU d) := hs1.right
    rcases due37_turn d1 hl hu bk hks2 hlt hul2 with ⟨a, _⟩ | ⟨k', S2, hk', de, s2⟩
    · rw [a] at hk; cases hk
    · rw [hk] at hk'
      cases hk'
      have two : 2 ≤ (Bx b Z1).length := by simp
      obtain ⟨hs2, k22⟩ := stepU hs1 k21 two s2
      obtain ⟨Z2, rfl⟩ := bx_stay s2.st fun k hk => by
        obtain ⟨p, hp, rfl⟩ := List.mem_map.mp hk
        exact k21 p (List.mem_append_right _ hp)
      have kl := h.k.last k (!bk)
      have klt : k < t.lasts.length := by rw [← hlen]; exact hlt k (List.mem_of_getLast? hk)
      have eL : (if bk = true then d.un.getD hand [] ++ [k] else ks.dropLast) = if bk = true then undT t hand ++ [k] else (undT t hand).dropLast := by
        rw [h.b.und]
        cases bk with
        | true => rfl
        | false => rw [hks]; rfl
      rw [eL] at hs2 k22
      have w' : TOk (N + 1) (setUn (goT (lastT t k (!bk))) hand (if bk = true then undT t hand ++ [k] else (undT t hand).dropLast)) := by
        cases bk with
        | true => rw [hks] at hk; exact h.w.back (by omega) hs hk
        | false => rw [hks] at hk; exact h.w.again (by omega) hs hk
      have u' : UOk (setUn (goT (lastT t k (!bk))) hand (if bk = true then undT t hand ++ [k] else (undT t hand).dropLast)) := by
        cases bk with
        | true => rw [hks] at hk; exact h.u.back h.w hs hk
        | false => rw [hks] at hk; exact h.u.again h.w hs hk
      refine ⟨_, Z1, Z2, setUn (goT (lastT t k (!bk))) hand (if bk = true then undT t hand ++ [k] else (undT t hand).dropLast), setD d k (!bk) hand (if bk = true then undT t hand ++ [k] else (undT t hand).dropLast), ?_, de, ⟨hs2, k22, ⟨kl.mks, kl.de, kl.ml, kl.mo, kl.so⟩, w', u', ?_, ?_⟩, rfl, .inr (.inr ⟨_, rfl⟩)⟩
      · rw [e]; rfl
      · exact h.b.turn h.w klt (!bk) hand _
      · exact stay_go kl h.st
end
end Dl
namespace Dl
open PySem L2
theorem dp_bl' (b : Bool) : D.dp (.bl b) = 1 := by cases b <;> rfl
def y10 : Sty := ⟨1, 0⟩
theorem y10_ok : y10.ok := ⟨⟨by decide, by decide⟩, by decide, by decide⟩
/-- how it begins -/
def d0 (k hands : Nat) : Du := ⟨k, k + 1, k + 2, [], List.replicate hands []⟩
structure I37 (S : Store) (n : Nat) (y : Sty) (t : TC) (d : Du) (N : Nat) (sg : Nat) (more : List Nat) (hands i : Nat) : Prop where
  hs : Has S (objsT n y t ++ objsU d)
  k2 : ∀ p ∈ objsT n y t ++ objsU d, 2 ≤ p.1
  k : K37 t sg more
  w : TOk N t
  u : UOk t
  b : Both t d hands
  st : t.stood = List.replicate i (behind more) ++ List.replicate (hands - i) (some 0)
theorem k37_table0 (n : Nat) {sg : Nat} {more : List Nat} (hs : okSign sg = true) (hm : ∀ c ∈ more, okSign c = true) (hl : more.length ≤ 5) (hands : Nat) : K37 (table0 n (sg :: more) hands) sg more := by
  refine ⟨⟨n + 1, n + 2, marksF (n + 1 + 2) 1 more, rfl, marksF_sg _ _ _, fun m hm => ⟨(marksF_mem _ _ _ m hm).1, (marksF_mem _ _ _ m hm).2.1⟩, ?_⟩, fun d hd => (by cases hd), hl, hm, hs⟩
  unfold behind
  cases more with
  | nil => rfl
  | cons c s => rfl
/-- hands go right behind the sign -/
theorem right37 {S : Store} {n : Nat} {y : Sty} {t : TC} {d : Du} {N sg : Nat} {more : List Nat} {hands i : Nat} (h : I37 S n y t d N sg more hands i) (hi : i < hands) : ∃ S' t', m_Table_right [.ref n, .int i] S = .ok (.bl true, S') ∧ Step S S' n y t t' ∧ I37 S' n y t' d N sg more hands (i + 1) := by
  have ho : t.stood[i]? = some (some 0) := by
    rw [h.st, List.getElem?_append_right (by simp), List.length_replicate, Nat.sub_self, List.getElem?_replicate, if_pos (by omega)]
  have tb : Tbl S n y t := h.hs.left
  rcases right_ok tb h.w ho with ⟨z, _⟩ | ⟨_, S', e, s⟩
  · cases z
  · have nm : numM t.marks (some 0) = 0 := by
      obtain ⟨m0, rest, em, n0, _⟩ := h.k.split
      unfold numM
      rw [em]
      simp [List.findIdx_cons, n0]
    have er : rightS t (some 0) = behind more := by
      unfold rightS
      rw [nm]
      exact h.k.rest t.lasts
    rw [er] at s
    refine ⟨S', _, e, s, ?_⟩
    have j : Has S' (objsT n y (standT t i (behind more)) ++ objsU d) := h.hs.step s.tb s.st s.ks
    have two : 2 ≤ S.length := by
      have := h.k2 (n, .ins 16 (tbFs y t)) (by simp [objsT])
      have := (List.getElem?_eq_some_iff.mp tb.tb).1
      simp only at *
      omega
    refine ⟨j, fun p hp => ?_, ⟨h.k.mks, h.k.de, h.k.ml, h.k.mo, h.k.so⟩, h.w.stand (fun k hk => ?_), h.u, ⟨h.b.hs, h.b.un, ?_⟩, ?_⟩
    · rcases List.mem_append.mp hp with hp | hp
      · rcases s.ks p.1 (List.mem_map.mpr ⟨p, hp, rfl⟩) with q | q
        · obtain ⟨p', h1, h2⟩ := List.mem_map.mp q
          have := h.k2 p' (List.mem_append_left _ h1)
          omega
        · omega
      · exact h.k2 p (List.mem_append_right _ hp)
    · exact rightS_mem t (some 0) k (er.trans hk)
    · show (t.stood.set i _).length = _
      rw [List.length_set]; exact h.b.hl
    · show t.stood.set i _ = _
      rw [h.st, List.set_append_right _ _ (by simp), List.length_replicate, Nat.sub_self, List.replicate_succ', List.append_assoc]
      congr 1
      obtain ⟨j, hj⟩ : ∃ j, hands - i = j + 1 := ⟨hands - i - 1, by omega⟩
      rw [hj, List.replicate_succ, List.set_cons_zero, show hands - (i + 1) = j by omega]
      rfl
theorem mul_one (S : Store) (c : Nat) (b : Bool) : mulG false S (.str [c]) (.int (if b = true then 1 else 0)) = .ok (.str (if b = true then [c] else []), S) := by
  cases b <;> rfl
def m_law_k37 : FV := funD 16 (d_law_k37 m_law_begun m_law_take m_law_sign m_Table_right m_Table_rub m_Table_back m_Table_again m_law_alike m_law_due37 m_Table_page m_Table_at m_Table_told m_Table_init)
theorem told37 {S : Store} {n N : Nat} {y : Sty} {t : TC} {d : Du} {sg : Nat} {more : List Nat} {hands : Nat} (h : J37 S n y t d N sg more hands) : toldL t = d.rs.map fun x => D.tup [.int x.h, .str [], .bl x.b] := by
  unfold toldL
  refine List.ext_getElem? fun i => ?_
  rw [List.getElem?_map, List.getElem?_map]
  cases q : d.rs[i]? with
  | none =>
    have hl := h.b.len h.w
    have dl := h.w.dl
    rw [List.getElem?_eq_none (by
      have := List.getElem?_eq_none_iff.mp q
      simp; omega)]
    rfl
  | some x =>
    obtain ⟨⟨dd, q1, q2⟩, q3⟩ := h.b.at_ q
    rw [List.getElem?_zip_eq_some.mpr (show t.deeds[i]? = some (dd, x.b).1 ∧ t.lasts[i]? = some (dd, x.b).2 from ⟨q1, q3⟩)]
    have := h.k.de dd (List.mem_of_getElem? q1)
    simp [q2, this]
theorem law_k37_true (ns : List Int) (_ : ns.length ≤ 63) : ∃ st, m_law_k37 [.scr ns] [] = .ok (.bl true, st) := by
  rw [m_law_k37, funD, d_law_k37]
  obtain ⟨b0, hb⟩ := begun_ok ns
  simp only [List.map_cons, List.map_nil, List.length_cons, List.length_nil, List.cons_append, List.nil_append, show List.replicate (16 - (0 + 1)) (none : Option D) = [none, none, none, none, none, none, none, none, none, none, none, none, none, none, none] from rfl]
  rw [sCons_nx (sAsgN_at (x := .ref 1) (sx := Bx b0 []) (by simp [hb]))]
  simp only [List.set_cons_succ, List.set_cons_zero]
  -- hands, the sign
  have t1 := take_eq b0 [] 3 (by decide) (by decide)
  have z0 := tk_lo b0 (n := 3) (by decide)
  have z1 := tk_hi b0 (n := 3) (by decide)
  generalize tk b0 3 = p at t1 z0 z1
  obtain ⟨h0, b1⟩ := p
  simp only at t1 z0 z1
  obtain ⟨h1, rfl⟩ := Int.eq_ofNat_of_zero_le z0
  obtain ⟨hands, hhands⟩ : ∃ hands, hands = 2 + h1 := ⟨_, rfl⟩
  have hh2 : 2 ≤ hands ∧ hands ≤ 4 := by omega
  have hi : (2 : Int) + h1 = hands := by omega
  obtain ⟨sg, b2, hsg, esg⟩ := sign_ok b1 []
  rw [sCons_nx (e := [some (.scr ns), some (.ref 1), some (.int hands), some (.str [sg]), none, none, none, none, none, none, none, none, none, none, none, none]) (s := Bx b2 []) (by simp [t1, esg, add_ii, hi])]
  -- what is behind
  have t2 := take_eq b2 [] 5 (by decide) (by decide)
  have y0 := tk_lo b2 (n := 5) (by decide)
  have y1 := tk_hi b2 (n := 5) (by decide)
  generalize tk b2 5 = p at t2 y0 y1
  obtain ⟨m0, b3⟩ := p
  simp only at t2 y0 y1
  have mm : -1000000 ≤ m0 ∧ m0 ≤ 1000000 := by omega
  have ml : m0.toNat ≤ LIM := le_LIM (by omega)
  obtain ⟨more, b4, hml, hmo, s3⟩ : ∃ (more : List Nat) (b4 : Box), more.length ≤ 5 ∧ (∀ c ∈ more, okSign c = true) ∧ eMt "str" (joinG) (eC (.str [])) (aCons (eLc false (iR1 (aCons (eCall 2 m_law_take (aCons (eV 1) (aCons (eC (.int 5)) (aNil)))) (aNil))) [13] (.one 13) (tYesD) (eCall 1 m_law_sign (aCons (eV 1) (aNil)))) (aNil)) [some (.scr ns), some (.ref 1), some (.int hands), some (.str [sg]), none, none, none, none, none, none, none, none, none, none, none, none] (Bx b2 []) = .ok (.str more, Bx b4 []) := by
    simp [tyM, t2, mm, ml]
    generalize hf : lcGo _ _ _ _ _ _ _ _ = r
    obtain ⟨acc, s, rfl, cs, b', c1, c2, rfl, rfl⟩ := lc_at hf (fun i acc st' => ∃ (cs : List Nat) (b' : Box), cs.length = i ∧ (∀ c ∈ cs, okSign c = true) ∧ acc = (cs.map fun c => [c]).map D.str ∧ st' = Bx b' []) ⟨[], b3, rfl, by simp, rfl, rfl⟩ (fun _ _ _ _ _ => rfl) (fun i x acc st' hi ⟨cs, b', e1, e2, e3, e4⟩ => by
      subst e3 e4
      obtain ⟨c, b2, hc, ec⟩ := sign_ok b' []
      refine ⟨_, rfl, ?_⟩
      simp [ec]
      exact ⟨cs ++ [c], by simp [e1], fun x hx => by simp at hx; rcases hx with hx | rfl <;> first | exact e2 _ hx | exact hc, by simp, _, rfl⟩)
    rw [intsD_len] at c1
    have jo := join_ones' cs (Bx b' []) (le_LIM (by omega))
    refine ⟨cs, by omega, c2, b', ?_⟩
    rw [List.map_map]
    simp [jo]
  rw [sCons_nx (sAsgN_at s3)]
  simp only [List.set_cons_succ, List.set_cons_zero]
  -- the table, the law's own
  obtain ⟨S0, hS0⟩ : ∃ S0, S0 = Bx b4 [] := ⟨_, rfl⟩
  have hpg : okPage [[sg :: more]] = true := by
    have oc : okCell (sg :: more) = true := by
      simp only [okCell, Bool.and_eq_true, decide_eq_true_eq, List.all_eq_true]
      exact ⟨by simp; omega, fun c hc => by rcases List.mem_cons.mp hc with rfl | hc <;> first | exact hsg | exact hmo c hc⟩
    simp [okPage, okRow, oc]
  have tx : txtP [[sg :: more]] = sg :: more := by simp [txtP, txtR, TL.joinL]
  obtain ⟨X, ei, eX⟩ := init_ok_t (S := S0) (y := y10) hpg y10_ok (d := .lst (encP [[sg :: more]])) (w := []) rfl (hands := hands) (by omega) hh2.2
  have tb0 := table0_tbl S0 y10 (txtP [[sg :: more]]) hands
  have ok0 := table0_ok hpg (N := 2100) (by decide) (by decide) S0.length (hands := hands) hh2.2
  rw [← eX] at tb0
  rw [tx] at ei tb0 ok0
  obtain ⟨t0, ht0⟩ : ∃ t0, t0 = table0 S0.length (sg :: more) hands := ⟨_, rfl⟩
  rw [← ht0] at ei tb0 ok0
  obtain ⟨n, hn⟩ : ∃ n, n = S0.length := ⟨_, rfl⟩
  have n2 : 2 ≤ n := by rw [hn, hS0]; simp
  rw [← hn] at ei tb0
  obtain ⟨S1, hS1⟩ : ∃ S1, S1 = S0 ++ Ob.ins 16 (tbFs y10 t0) :: X := ⟨_, rfl⟩
  rw [← hS1] at ei tb0
  obtain ⟨kd, hkd⟩ : ∃ kd, kd = S1.length := ⟨_, rfl⟩
  have h2 : Has (S1 ++ [Ob.dK (duFs (d0 kd hands))] ++ [Ob.lst []] ++ [Ob.lst ((d0 kd hands).un.map fun ks => .lst (natsD ks))]) (objsT n y10 t0 ++ objsU (d0 kd hands)) := by
    have q := ((Has.new tb0 (Ob.dK (duFs (d0 kd hands)))).new (Ob.lst [])).new (Ob.lst ((d0 kd hands).un.map fun ks => .lst (natsD ks)))
    have e1 : (S1 ++ [Ob.dK (duFs (d0 kd hands))]).length = kd + 1 := by rw [List.length_append, ← hkd]; rfl
    have e2 : (S1 ++ [Ob.dK (duFs (d0 kd hands))] ++ [Ob.lst []]).length = kd + 2 := by rw [List.length_append, e1]; rfl
    rw [e1, e2, ← hkd] at q
    have e3 : objsT n y10 t0 ++ [(kd, Ob.dK (duFs (d0 kd hands)))] ++ [(kd + 1, Ob.lst [])] ++ [(kd + 2, Ob.lst ((d0 kd hands).un.map fun ks => .lst (natsD ks)))] = objsT n y10 t0 ++ objsU (d0 kd hands) := by
      rw [List.append_assoc, List.append_assoc]; rfl
    rw [e3] at q
    exact q
  obtain ⟨S2, hS2⟩ : ∃ S2, S2 = S1 ++ [Ob.dK (duFs (d0 kd hands))] ++ [Ob.lst []] ++ [Ob.lst ((d0 kd hands).un.map fun ks => .lst (natsD ks))] := ⟨_, rfl⟩
  rw [← hS2] at h2
  have one : (1 : Nat) ≤ LIM := by decide
  have two : (2 : Nat) ≤ LIM := by decide
  have zero : (0 : Nat) ≤ LIM := by decide
  have hm : -1000000 ≤ (hands : Int) ∧ (hands : Int) ≤ 1000000 := by omega
  have hL : hands ≤ LIM := le_LIM (by omega)
  have s4 : sAsg (eTup (aCons (eMake 16 4 m_Table_init (aCons (eLst false (aCons (eTup (aCons (eOp (addG false) (eV 3) (eV 4)) (aNil))) (aNil))) (aCons (eTup (aCons (eC (.int 1)) (aCons (eC (.int 0)) (aNil)))) (aCons (eV 2) (aNil))))) (aCons (eDictL (pCons (eC (.str [114, 117, 98, 115])) (eLst true (aNil)) (pCons (eC (.str [117, 110, 100, 111, 110, 101])) (eLc true (iR1 (aCons (eV 2) (aNil))) [7] (.one 7) (tYesD) (eLst false (aNil))) (pNil)))) (aNil)))) (gTp 2 (gsCons (gN 5) (gsCons (gN 6) (gsNil)))) [some (.scr ns), some (.ref 1), some (.int hands), some (.str [sg]), some (.str more), none, none, none, none, none, none, none, none, none, none, none] (Bx b4 [])
      = .nx [some (.scr ns), some (.ref 1), some (.int hands), some (.str [sg]), some (.str more), some (.ref n), some (.ref kd), none, none, none, none, none, none, none, none, none] S2 := by
    rw [← hS0]
    have as := add_ss S0 [sg] more (by simp; omega)
    have ep : encP [[sg :: more]] = [.tup [.str (sg :: more)]] := rfl
    have ey : y10.enc = .tup [.int 1, .int 0] := rfl
    rw [ep, ey] at ei
    have key : ∀ T : Store, lcGo [] (.one 7) tYesD (eLst false (aNil)) [some (.scr ns), some (.ref 1), some (.int hands), some (.str [sg]), some (.str more), none, none, none, none, none, none, none, none, none, none, none] (intsD 0 hands) [] T = .ok ((d0 kd hands).un.map fun ks => .lst (natsD ks), T) := fun T => by
      rw [lc_map (st := T) rfl (fun _ => .lst []) (intsD 0 hands) (fun x hx => ⟨_, rfl, by simp [zero]⟩)]
      congr 2
      rw [List.map_const', intsD_len]
      simp [d0, natsD]
    have k1 : ((⟨([114, 117, 98, 115] : List Nat).toArray⟩ : Str)) = "rubs" := by decide +kernel
    have k2 : ((⟨([117, 110, 100, 111, 110, 101] : List Nat).toArray⟩ : Str)) = "undone" := by decide +kernel
    have nk : ¬ ((Sum.inr "rubs" : L2.Key) = .inr "undone") := by decide +kernel
    have e0 : ∀ Y : List D, (S1 ++ [Ob.dK []] ++ [Ob.lst []] ++ [Ob.lst Y])[S1.length]? = some (.dK []) := fun Y => by simp
    have e1 : ∀ Y : List D, ∀ F, (S1 ++ [Ob.dK []] ++ [Ob.lst []] ++ [Ob.lst Y]).set S1.length (.dK F) = S1 ++ [Ob.dK F] ++ [Ob.lst []] ++ [Ob.lst Y] := fun Y F => by
      rw [List.append_assoc, List.append_assoc, List.set_append_right _ _ (Nat.le_refl _)]; simp
    have l1 : (S1 ++ [Ob.dK []]).length = S1.length + 1 := by simp
    have l2 : (S1 ++ [Ob.dK []] ++ [Ob.lst []]).length = S1.length + 2 := by simp
    have dd : eDictL (pCons (eC (.str [114, 117, 98, 115])) (eLst true (aNil)) (pCons (eC (.str [117, 110, 100, 111, 110, 101])) (eLc true (iR1 (aCons (eV 2) (aNil))) [7] (.one 7) (tYesD) (eLst false (aNil))) (pNil))) [some (.scr ns), some (.ref 1), some (.int hands), some (.str [sg]), some (.str more), none, none, none, none, none, none, none, none, none, none, none] S1 = .ok (.ref kd, S2) := by
      have md : mergeD [] [((Sum.inr "rubs" : L2.Key), D.ref (S1.length + 1)), (.inr "undone", .ref (S1.length + 2))] = duFs (d0 kd hands) := by
        unfold mergeD
        simp only [List.foldl_cons, List.foldl_nil, putKD, List.any_nil, Bool.false_eq_true, if_false, List.nil_append, List.any_cons, nk, decide_false, Bool.or_self, List.cons_append]
        rw [← hkd]; rfl
      have ky := key (S1 ++ [Ob.dK []] ++ [Ob.lst []])
      generalize (d0 kd hands).un.map (fun ks => D.lst (natsD ks)) = YY at *
      have e0' := e0 YY
      have e1' := e1 YY (duFs (d0 kd hands))
      rw [r_eDictL]
      simp only [r_pCons, r_eC, R.bind_ok, keyD, k1, k2, r_eLst, r_aNil, List.length_nil, zero, if_true, r_newT, l1, r_eLc, r_iR1, r_aCons, r_eV, List.getElem?_cons_succ, List.getElem?_cons_zero, hm, and_self, lcS_ok, intsD_len, hL, wipe_cons, wipe_nil, List.set_cons_succ, List.set_cons_zero, Int.toNat_natCast, ky, l2, r_pNil, e0', List.length_cons, md, e1']
      rw [hS2, hkd]
      rfl
    have as2 : addG false S0 (.str [sg]) (.str more) = .ok (.str (sg :: more), S0) := as
    generalize eDictL (pCons (eC (.str [114, 117, 98, 115])) (eLst true (aNil)) (pCons (eC (.str [117, 110, 100, 111, 110, 101])) (eLc true (iR1 (aCons (eV 2) (aNil))) [7] (.one 7) (tYesD) (eLst false (aNil))) (pNil))) = DD at dd ⊢
    simp [as2, one, two, ei, dd, ← hn]
  rw [sCons_nx s4]
  have k2a : ∀ p ∈ objsT n y10 t0 ++ objsU (d0 kd hands), 2 ≤ p.1 := fun p hp => by
    have hlt := h2.lt p.1 (List.mem_map.mpr ⟨p, hp, rfl⟩)
    have g := h2.at_ p hp
    rcases Nat.lt_or_ge p.1 2 with z | z
    · exfalso
      have nd := h2.nd
      have hb0 : ∀ k, k < 2 → k ∉ (objsT n y10 t0 ++ objsU (d0 kd hands)).map (·.1) := fun k hk hm => by
        rw [List.map_append] at hm
        rcases List.mem_append.mp hm with hm | hm
        · rw [ht0, hn] at hm
          unfold objsT at hm
          simp only [List.map_cons, List.map_append, List.mem_cons, List.mem_append, table0] at hm
          rcases hm with hm | hm | hm | hm | hm | hm | hm
          · omega
          · omega
          · omega
          · omega
          · omega
          · simp only [List.map_map, List.mem_map] at hm
            obtain ⟨i, _, rfl⟩ := hm
            simp only [Function.comp, unOb] at hk
            omega
          · obtain ⟨q, hq, rfl⟩ := List.mem_map.mp hm
            obtain ⟨m, hm, hq⟩ := List.mem_flatMap.mp hq
            have ge : ∀ (s : List Nat) (a j : Nat), ∀ m ∈ marksF a j s, a ≤ m.a ∧ a ≤ m.c := by
              intro s
              induction s with
              | nil => intro a j m hm; cases hm
              | cons c s ih =>
                intro a j m hm
                rw [marksF] at hm
                rcases List.mem_cons.mp hm with rfl | hm
                · exact ⟨Nat.le_refl _, Nat.le_succ _⟩
                · have := ih _ _ m hm; omega
            have := ge _ _ _ m hm
            simp only [mkOb, List.mem_cons, List.not_mem_nil, or_false] at hq
            rcases hq with rfl | rfl
            · simp only at hk; omega
            · simp only at hk; omega
        · unfold objsU d0 at hm
          simp only [List.map_cons, List.map_nil, List.mem_cons, List.not_mem_nil, or_false] at hm
          have : 2 ≤ kd := by rw [hkd, hS1]; simp; omega
          omega
      exact hb0 p.1 z (List.mem_map.mpr ⟨p, hp, rfl⟩)
    · exact z
  obtain ⟨Z2, hZ2⟩ : ∃ Z2, S2 = Bx b4 Z2 := ⟨Ob.ins 16 (tbFs y10 t0) :: X ++ [Ob.dK (duFs (d0 kd hands))] ++ [Ob.lst []] ++ [Ob.lst ((d0 kd hands).un.map fun ks => .lst (natsD ks))], by rw [hS2, hS1, hS0]; simp [Bx]⟩
  have i0 : I37 S2 n y10 t0 (d0 kd hands) 2100 sg more hands 0 := by
    refine ⟨h2, k2a, ?_, ok0, ?_, ⟨?_, ?_, ?_⟩, ?_⟩
    · rw [ht0]; exact k37_table0 _ hsg hmo hml hands
    · rw [ht0]; exact table0_u _ _ _
    · rw [ht0]; rfl
    · rw [ht0]
      simp [d0, table0, Function.comp_def, List.map_const']
    · rw [ht0]; simp [table0]
    · rw [ht0]; simp [table0]
  have nr : ∀ t, (tbFs y10 t).lookup ("right" : Str) = none := fun t => tn_right _ _
  have s5 : ∃ Z3 t3 c7, sFor (iR1 (aCons (eV 2) (aNil))) (gN 7) (sExpr (eMeth 16 "right" 2 m_Table_right (eV 5) (aCons (eV 7) (aNil)))) [some (.scr ns), some (.ref 1), some (.int hands), some (.str [sg]), some (.str more), some (.ref n), some (.ref kd), none, none, none, none, none, none, none, none, none] S2 = .nx [some (.scr ns), some (.ref 1), some (.int hands), some (.str [sg]), some (.str more), some (.ref n), some (.ref kd), c7, none, none, none, none, none, none, none, none] (Bx b4 Z3) ∧ I37 (Bx b4 Z3) n y10 t3 (d0 kd hands) 2100 sg more hands hands := by
    simp [hm]
    generalize q : forGo _ _ _ _ _ _ = r
    obtain ⟨e, s, rfl, Z3, t3, rfl, hI, c7, rfl⟩ := for_at q (fun i env st' => ∃ Z3 t3, st' = Bx b4 Z3 ∧ I37 st' n y10 t3 (d0 kd hands) 2100 sg more hands i ∧ ∃ c7, env = [some (.scr ns), some (.ref 1), some (.int hands), some (.str [sg]), some (.str more), some (.ref n), some (.ref kd), c7, none, none, none, none, none, none, none, none]) ⟨Z2, t0, hZ2, i0, _, rfl⟩ (fun _ _ _ _ _ => rfl) (fun i x env st' hi ⟨Z3, t3, e1, hI, c7, e2⟩ => by
      subst e2
      obtain ⟨hi2, rfl⟩ := ints_get hi
      obtain ⟨S', t', er, s, hI'⟩ := right37 hI hi2
      rw [e1] at s er hI
      have kT : ∀ k ∈ keysT n y10 t3, 2 ≤ k := fun k hk => by
        obtain ⟨p, hp, rfl⟩ := List.mem_map.mp hk
        exact hI.k2 p (List.mem_append_left _ hp)
      obtain ⟨Z', rfl⟩ := bx_stay s.st kT
      have gt : (Bx b4 Z3)[n]? = some (.ins 16 (tbFs y10 t3)) := Tbl.tb (t := t3) hI.hs.left
      have nr3 := nr t3
      refine turn_eq (e := [some (.scr ns), some (.ref 1), some (.int hands), some (.str [sg]), some (.str more), some (.ref n), some (.ref kd), some (.int i), none, none, none, none, none, none, none, none]) (s := Bx b4 Z') ?_ ⟨Z', t', rfl, hI', _, rfl⟩
      rw [e1]
      generalize Bx b4 Z3 = T3 at *
      generalize Bx b4 Z' = T4 at *
      simp [gt, nr3, er])
    rw [intsD_len] at hI
    exact ⟨Z3, ⟨c7, rfl⟩, t3, hI⟩
  obtain ⟨Z3, t3, c7, s5, i3⟩ := s5
  rw [sCons_nx s5]
  have j3 : J37 (Bx b4 Z3) n y10 t3 (d0 kd hands) 2100 sg more hands := ⟨i3.hs, i3.k2, i3.k, i3.w, i3.u, i3.b, by rw [i3.st, Nat.sub_self]; simp⟩
  -- the deeds
  have t6 := take_eq b4 Z3 61 (by decide) (by decide)
  have w0 := tk_lo b4 (n := 61) (by decide)
  have w1 := tk_hi b4 (n := 61) (by decide)
  generalize tk b4 61 = p at t6 w0 w1
  obtain ⟨q6, b5⟩ := p
  simp only at t6 w0 w1
  have m6 : -1000000 ≤ q6 ∧ q6 ≤ 1000000 := by omega
  simp [t6, m6]
  generalize q : forGo _ _ _ _ _ _ = r
  obtain ⟨e, s, rfl, b, Z, t, d, rfl, hJ, _, c7, c8, c9, c10, c11, c12, rfl⟩ := for_at q (fun i env st' => ∃ (b : Box) (Z : Store) (t : TC) (d : Du), st' = Bx b Z ∧ J37 (Bx b Z) n y10 t d (2100 + i) sg more hands ∧ d.kd = kd ∧ ∃ c7 c8 c9 c10 c11 c12, env = [some (.scr ns), some (.ref 1), some (.int hands), some (.str [sg]), some (.str more), some (.ref n), some (.ref kd), c7, c8, c9, c10, c11, c12, none, none, none])
    ⟨b5, Z3, t3, d0 kd hands, rfl, j3.box, rfl, _, _, _, _, _, _, rfl⟩ (fun _ _ _ _ _ => rfl) (fun i x env st' hi ⟨b, Z, t, d, e1, hJ, hkd', c7, c8, c9, c10, c11, c12, e2⟩ => by
    subst e1 e2
    have i61 : i < 61 := by
      have := (List.getElem?_eq_some_iff.mp hi).1
      rw [intsD_len] at this; omega
    have hrl : d.rs.length ≤ 10000 := by rw [hJ.b.len hJ.w]; have := hJ.w.ll; omega
    have hul : ∀ ks ∈ d.un, ks.length ≤ 10000 := fun ks hks => by
      rw [hJ.b.un] at hks
      obtain ⟨x, hx, rfl⟩ := List.mem_map.mp hks
      have := hJ.w.lu x hx; omega
    -- who, what
    have n0 : (0 : Int) < hands := by omega
    have t7 := take_eq b Z hands n0 (by omega)
    have v0 := tk_lo b n0
    have v1 := tk_hi b n0
    generalize tk b (hands : Int) = p at t7 v0 v1
    obtain ⟨hd0, b1⟩ := p
    simp only at t7 v0 v1
    obtain ⟨hand, rfl⟩ := Int.eq_ofNat_of_zero_le v0
    have hh : hand < hands := by omega
    have t8 := take_eq b1 Z 4 (by decide) (by decide)
    obtain ⟨wy, ey, my⟩ := atI_mem (l := [D.str [114, 117, 98], .str [114, 117, 98], .str [98, 97, 99, 107], .str [97, 103, 97, 105, 110]]) (i := (tk b1 4).1) (tk_lo b1 (by decide)) (tk_hi b1 (by decide))
    generalize (tk b1 4).1 = i4 at t8 ey
    generalize (tk b1 4).2 = b2 at t8
    have hJ2 : J37 (Bx b2 Z) n y10 t d (2100 + i) sg more hands := hJ.box
    have four : (4 : Nat) ≤ LIM := by decide
    rw [r_gN]
    simp only [sOf_m, List.set_cons_succ, List.set_cons_zero]
    have st1 : sAsg (eTup (aCons (eCall 2 m_law_take (aCons (eV 1) (aCons (eV 2) (aNil)))) (aCons (eOp ixG (eLst false (aCons (eC (.str [114, 117, 98])) (aCons (eC (.str [114, 117, 98])) (aCons (eC (.str [98, 97, 99, 107])) (aCons (eC (.str [97, 103, 97, 105, 110])) (aNil)))))) (eCall 2 m_law_take (aCons (eV 1) (aCons (eC (.int 4)) (aNil))))) (aNil)))) (gTp 2 (gsCons (gN 7) (gsCons (gN 9) (gsNil)))) [some (.scr ns), some (.ref 1), some (.int hands), some (.str [sg]), some (.str more), some (.ref n), some (.ref kd), c7, some x, c9, c10, c11, c12, none, none, none] (Bx b Z)
        = .nx [some (.scr ns), some (.ref 1), some (.int hands), some (.str [sg]), some (.str more), some (.ref n), some (.ref kd), some (.int hand), some x, some wy, c10, c11, c12, none, none, none] (Bx b2 Z) := by
      simp [t7, four, t8, ixL, ey, two]
    rw [sCons_nx st1]
    -- done
    have gt : (Bx b2 Z)[n]? = some (.ins 16 (tbFs y10 t)) := hJ2.tbl.tb
    obtain ⟨v, Z1, Z2, t', d', st2, due, hJ3, hkd3, hv⟩ : ∃ v Z1 Z2 t' d', sIf (tv (eOp (eqG false) (eV 9) (eC (.str [114, 117, 98])))) (sAsg (eTold [4, 7] (hmC2 [4] (.str [110, 111, 110, 101]) (.str [111, 116, 104, 101, 114])) [5, 7] (eMeth 16 "rub" 2 m_Table_rub (eV 0) (aCons (eV 1) (aNil)))) (gN 10)) (sAsg (eTold [4, 7] (hmC2 [4] (.str [110, 111, 110, 101]) (.str [111, 116, 104, 101, 114])) [9, 5, 7] (eIf (tv (eOp (eqG false) (eV 0) (eC (.str [98, 97, 99, 107])))) (eMeth 16 "back" 2 m_Table_back (eV 1) (aCons (eV 2) (aNil))) (eMeth 16 "again" 2 m_Table_again (eV 1) (aCons (eV 2) (aNil))))) (gN 10))
        [some (.scr ns), some (.ref 1), some (.int hands), some (.str [sg]), some (.str more), some (.ref n), some (.ref kd), some (.int hand), some x, some wy, c10, c11, c12, none, none, none] (Bx b2 Z) = .nx [some (.scr ns), some (.ref 1), some (.int hands), some (.str [sg]), some (.str more), some (.ref n), some (.ref kd), some (.int hand), some x, some wy, some v, c11, c12, none, none, none] (Bx b2 Z1)
        ∧ m_law_due37 [.ref kd, .int hand, wy] (Bx b2 Z1) = .ok (v, Bx b2 Z2) ∧ J37 (Bx b2 Z2) n y10 t' d' (2100 + i + 1) sg more hands ∧ d'.kd = kd ∧ (v = .non ∨ v = .str [110, 111, 110, 101] ∨ ∃ b, v = .bl b) := by
      rw [← hkd']
      simp only [List.mem_cons, List.not_mem_nil, or_false] at my
      have my2 : wy = .str [114, 117, 98] ∨ ∃ bk : Bool, wy = .str (if bk = true then [98, 97, 99, 107] else [97, 103, 97, 105, 110]) := by
        rcases my with h | h | h | h
        · exact .inl h
        · exact .inl h
        · exact .inr ⟨true, h⟩
        · exact .inr ⟨false, h⟩
      rcases my2 with hwy | ⟨bk, hwy⟩
      · subst hwy
        obtain ⟨v, Z1, Z2, t', d', q1, q2, q3, q4, q5⟩ := (rub37 hJ2 (by omega) hrl hh).ex
        refine ⟨v, Z1, Z2, t', d', ?_, q2, q3, q4, q5⟩
        rw [sIf_at (b := true) (sx := Bx b2 Z) (tv_at (eOp_at (eV_at rfl) (r_eC _ _ _) (is_str _ _ _))), if_pos rfl]
        refine sAsgN_at ?_
        rw [r_eTold]
        have hc : capsD [some (.scr ns), some (.ref 1), some (.int hands), some (.str [sg]), some (.str more), some (.ref n), some (.ref d.kd), some (.int hand), some x, some (.str [114, 117, 98]), c10, c11, c12, none, none, none] [5, 7] = some [.ref n, .int hand] := rfl
        rw [hc]
        show noX (toldR _ _ (eMeth _ _ _ _ _ _ [some (.ref n), some (.int hand)] _)) = _
        have em : eMeth 16 "rub" 2 m_Table_rub (eV 0) (aCons (eV 1) (aNil)) [some (.ref n), some (.int hand)] (Bx b2 Z) = m_Table_rub [.ref n, .int hand] (Bx b2 Z) := by
          simp [gt, tn_rub]
        rw [em, q1]
        rfl
      · obtain ⟨v, Z1, Z2, t', d', q1, q2, q3, q4, q5⟩ := (turn37 hJ2 (by omega) hrl hul hh bk).ex
        refine ⟨v, Z1, Z2, t', d', ?_, by rw [hwy]; exact q2, q3, q4, q5⟩
        have nr : decide ((if bk = true then [98, 97, 99, 107] else [97, 103, 97, 105, 110] : List Nat) = [114, 117, 98]) = false := by cases bk <;> rfl
        have bkd : decide ((if bk = true then [98, 97, 99, 107] else [97, 103, 97, 105, 110] : List Nat) = [98, 97, 99, 107]) = bk := by cases bk <;> rfl
        have i1 := is_str (Bx b2 Z) (if bk = true then [98, 97, 99, 107] else [97, 103, 97, 105, 110]) [114, 117, 98]
        have i2 := is_str (Bx b2 Z) (if bk = true then [98, 97, 99, 107] else [97, 103, 97, 105, 110]) [98, 97, 99, 107]
        rw [nr] at i1
        rw [bkd] at i2
        rw [hwy]
        generalize (if bk = true then [98, 97, 99, 107] else [97, 103, 97, 105, 110] : List Nat) = WY at i1 i2 ⊢
        rw [sIf_at (b := false) (sx := Bx b2 Z) (tv_at (eOp_at (eV_at rfl) (r_eC _ _ _) i1)), if_neg (by decide)]
        refine sAsgN_at ?_
        rw [r_eTold]
        have hc : capsD [some (.scr ns), some (.ref 1), some (.int hands), some (.str [sg]), some (.str more), some (.ref n), some (.ref d.kd), some (.int hand), some x, some (.str WY), c10, c11, c12, none, none, none] [9, 5, 7] = some [.str WY, .ref n, .int hand] := rfl
        rw [hc]
        show noX (toldR _ _ (eIf _ _ _ [some (.str WY), some (.ref n), some (.int hand)] _)) = _
        have em : eIf (tv (eOp (eqG false) (eV 0) (eC (.str [98, 97, 99, 107])))) (eMeth 16 "back" 2 m_Table_back (eV 1) (aCons (eV 2) (aNil))) (eMeth 16 "again" 2 m_Table_again (eV 1) (aCons (eV 2) (aNil))) [some (.str WY), some (.ref n), some (.int hand)] (Bx b2 Z) = if bk = true then m_Table_back [.ref n, .int hand] (Bx b2 Z) else m_Table_again [.ref n, .int hand] (Bx b2 Z) := by
          rw [r_eIf, tv_at (eOp_at (eV_at rfl) (r_eC _ _ _) i2)]
          simp only [R.bind_ok]
          have tb := tn_back y10 t
          have ta := tn_again y10 t
          cases bk <;> simp [gt, tb, ta]
        rw [em, q1]
        rfl
    rw [sCons_nx st2]
    have al1 : m_law_alike [v, v] (Bx b2 Z2) = .ok (.bl true, Bx b2 Z2) := by
      rcases hv with rfl | rfl | ⟨b, rfl⟩
      · exact alike_self _ rfl rfl (by decide)
      · exact alike_self _ rfl rfl (by decide)
      · exact alike_self _ rfl rfl (by rw [dp_bl']; decide)
    rw [r_sCons]
    rw [sIf_at (b := false) (sx := Bx b2 Z2) (by simp [due, al1]), if_neg (by decide), r_sNext, then_nx]
    -- whether it is there
    have hrl3 : d'.rs.length ≤ 10000 := by rw [hJ3.b.len hJ3.w]; have := hJ3.w.ll; omega
    have an := any_u hJ3.du hrl3 (o := 6) (j := 14) (by decide) (env := [some (.scr ns), some (.ref 1), some (.int hands), some (.str [sg]), some (.str more), some (.ref n), some (.ref kd), some (.int hand), some x, some wy, some v, c11, c12, none, none, none]) (by rw [hkd3]; rfl) (by simp)
    have ha : (!anyU d') = hereB t'.lasts := by rw [hJ3.b.any hJ3.w, Bool.not_not]
    rw [ha] at an
    rw [sCons_nx (sAsgN_at an)]
    simp only [List.set_cons_succ, List.set_cons_zero]
    have ib := int_b (Bx b2 Z2) (hereB t'.lasts)
    rw [sCons_nx (sAsgN_at (x := .int (if hereB t'.lasts = true then 1 else 0)) (sx := Bx b2 Z2) (by simp [ib]))]
    simp only [List.set_cons_succ, List.set_cons_zero]
    -- the page
    have pg := page_ok_t hJ3.tbl hJ3.w
    rw [hJ3.k.rows] at pg
    have mo := mul_one (Bx b2 Z2) sg (hereB t'.lasts)
    have k4 := hJ3.k.at_
    obtain ⟨hb, hhb⟩ : ∃ hb, hb = hereB t'.lasts := ⟨_, rfl⟩
    rw [← hhb] at pg mo k4 ⊢
    obtain ⟨PL, hPL⟩ : ∃ PL : Int, PL = if hb = true then 1 else 0 := ⟨_, rfl⟩
    rw [← hPL] at mo ⊢
    obtain ⟨SS, hSS⟩ : ∃ SS : List Nat, SS = if hb = true then [sg] else [] := ⟨_, rfl⟩
    have sl1 : SS.length ≤ 1 := by rw [hSS]; split <;> simp
    rw [← hSS] at pg mo
    have fl := fr_list (Bx b2 Z2) (encP [[SS ++ more]])
    obtain ⟨S3, hS3⟩ : ∃ S3, S3 = Bx b2 Z2 ++ [.lst (encP [[SS ++ more]])] := ⟨_, rfl⟩
    rw [← hS3] at pg fl
    have hJ4 : J37 S3 n y10 t' d' (2100 + i + 1) sg more hands := by rw [hS3]; exact hJ3.app _
    have ad := add_ss S3 SS more (by omega)
    have mo3 : mulG false S3 (.str [sg]) (.int PL) = .ok (.str SS, S3) := by rw [hPL, hSS]; exact mul_one S3 sg hb
    have ep : encP [[SS ++ more]] = [.tup [.str (SS ++ more)]] := rfl
    have al2 : m_law_alike [.ref (Bx b2 Z2).length, .lst [.tup [.str (SS ++ more)]]] S3 = .ok (.bl true, S3) := by
      refine alike_rd 8 (.lst [.tup [.str (SS ++ more)]]) _ _ (by rw [Rd]; exact ⟨_, _, fl, by rw [ep]; exact rds_self rfl⟩) (rd_self rfl) rfl (by simp)
    have gt3 : (Bx b2 Z2)[n]? = some (.ins 16 (tbFs y10 t')) := hJ3.tbl.tb
    obtain ⟨kk, hkk⟩ : ∃ kk, kk = (Bx b2 Z2).length := ⟨_, rfl⟩
    rw [← hkk] at pg al2
    have np := tn_page y10 t'
    rw [r_sCons]
    rw [sIf_at (b := false) (sx := S3) (by
      generalize SS ++ more = SM at *
      simp [gt3, np, pg, mo3, ad, one, al2]), if_neg (by decide), r_sNext, then_nx]
    -- where hands stand
    have gt4 : S3[n]? = some (.ins 16 (tbFs y10 t')) := hJ4.tbl.tb
    have na := tn_at y10 t'
    have pA : (if hb = true then 1 else 0 : Nat) = PL.toNat := by rw [hPL]; cases hb <;> rfl
    have PLn : (PL.toNat : Int) = PL := by rw [hPL]; cases hb <;> rfl
    have key : lcGo [] (.one 15) (tv (eOp (eqG true) (eMeth 16 "at" 2 m_Table_at (eV 5) (aCons (eV 15) (aNil))) (eTup (aCons (eC (.int 0)) (aCons (eC (.int 0)) (aCons (eV 12) (aNil))))))) (eV 15) [some (.scr ns), some (.ref 1), some (.int hands), some (.str [sg]), some (.str more), some (.ref n), some (.ref kd), some (.int hand), some x, some wy, some v, some (.bl hb), some (.int PL), none, none, none] (intsD 0 hands) [] S3 = .ok (([] : List D), S3) := by
      rw [lc_keep rfl (fun _ => false) (intsD 0 hands) (fun z hz => ?_) (by simp)]
      · have : (intsD 0 hands).filter (fun _ => false) = [] := by rw [List.filter_eq_nil_iff]; simp
        rw [this]
      · obtain ⟨j, hj⟩ := List.getElem?_of_mem hz
        obtain ⟨hj2, rfl⟩ := ints_get hj
        have ae := at_ok_t hJ4.tbl hJ4.w (hJ4.hand hj2)
        rw [k4, pA] at ae
        have ea : encA (0, 0, PL.toNat) = .tup [.int 0, .int 0, .int PL] := by unfold encA; simp only [PLn]; rfl
        rw [ea] at ae
        have ne : eqG true S3 (.tup [.int 0, .int 0, .int PL]) (.tup [.int 0, .int 0, .int PL]) = .ok (.bl false, S3) := by
          rw [eqG_pl rfl rfl (by simp) (by simp)]; simp
        have three : (3 : Nat) ≤ LIM := by decide
        simp [gt4, na, ae, three, ne]
    have nn : eqG true S3 (.lst []) (.lst []) = .ok (.bl false, S3) := by rw [eqG_pl rfl rfl (by simp) (by simp)]; simp
    rw [r_sCons]
    rw [sIf_at (b := false) (sx := S3) (by simp [hm, hL, key, nn]), if_neg (by decide), r_sNext, then_nx]
    -- all deeds
    have tl := told_ok_t hJ4.tbl hJ4.w
    rw [told37 hJ4] at tl
    obtain ⟨TL', hTL⟩ : ∃ TL' : List D, TL' = d'.rs.map fun x => D.tup [.int x.h, .str [], .bl x.b] := ⟨_, rfl⟩
    rw [← hTL] at tl
    have fl4 := fr_list S3 TL'
    obtain ⟨S4, hS4⟩ : ∃ S4, S4 = S3 ++ [.lst TL'] := ⟨_, rfl⟩
    obtain ⟨k5, hk5⟩ : ∃ k5, k5 = S3.length := ⟨_, rfl⟩
    rw [← hS4, ← hk5] at tl fl4
    have hJ5 : J37 S4 n y10 t' d' (2100 + i + 1) sg more hands := by rw [hS4]; exact hJ4.app _
    have gr := dg_rubs hJ5.du
    rw [hkd3] at gr
    have lr : listOf S4 (.ref d'.r) = some (d'.rs.map fun x => .ref x.a, [(d'.r, d'.rs.map fun x => .ref x.a)]) := by simp only [listOf, du_r hJ5.du]
    have it := items_list lr
    have m2 : (d'.rs.map fun x => D.ref x.a).length ≤ LIM := le_LIM (by rw [List.length_map]; omega)
    have key2 : lcGo [(d'.r, d'.rs.map fun x => .ref x.a)] (.one 14) tYesD (eTup (aCons (eOp ixG (eV 14) (eC (.int 0))) (aCons (eC (.str [])) (aCons (eOp ixG (eV 14) (eC (.int 1))) (aNil))))) [some (.scr ns), some (.ref 1), some (.int hands), some (.str [sg]), some (.str more), some (.ref n), some (.ref kd), some (.int hand), some x, some wy, some v, some (.bl hb), some (.int PL), none, none, none] (d'.rs.map fun x => .ref x.a) [] S4 = .ok (TL', S4) := by
      have gen : ∀ (rs : List Rb) (acc : List D), (∀ x ∈ rs, x ∈ d'.rs) → lcGo [(d'.r, d'.rs.map fun x => .ref x.a)] (.one 14) tYesD (eTup (aCons (eOp ixG (eV 14) (eC (.int 0))) (aCons (eC (.str [])) (aCons (eOp ixG (eV 14) (eC (.int 1))) (aNil))))) [some (.scr ns), some (.ref 1), some (.int hands), some (.str [sg]), some (.str more), some (.ref n), some (.ref kd), some (.int hand), some x, some wy, some v, some (.bl hb), some (.int PL), none, none, none] (rs.map fun x => .ref x.a) acc S4 = .ok (acc ++ rs.map fun x => D.tup [.int x.h, .str [], .bl x.b], S4) := by
        intro rs
        induction rs with
        | nil => intro acc _; rw [List.map_nil, lcGo_nil (still_list lr)]; simp
        | cons z rs ih =>
          intro acc hx
          have g := du_x hJ5.du (hx z (by simp))
          have lx : listOf S4 (.ref z.a) = some ([.int z.h, .bl z.b], [(z.a, [.int z.h, .bl z.b])]) := by simp only [listOf, g]
          have ix0 : ixG S4 (.ref z.a) (.int 0) = .ok (.int z.h, S4) := by
            rw [ix_list lx, show (0 : Int) = ((0 : Nat) : Int) from rfl, atI_nat]; rfl
          have ix1 : ixG S4 (.ref z.a) (.int 1) = .ok (.bl z.b, S4) := by
            rw [ix_list lx, show (1 : Int) = ((1 : Nat) : Int) from rfl, atI_nat]; rfl
          have ih2 := fun acc => ih acc fun z hz => hx z (by simp [hz])
          have three : (3 : Nat) ≤ LIM := by decide
          rw [List.map_cons, lcGo_cons (still_list lr)]
          simp [Tg1.put, ix0, ix1, ih2, three]
      have := gen d'.rs [] (fun _ h => h)
      rw [List.nil_append, ← hTL] at this
      exact this
    have al3 : m_law_alike [.ref k5, .lst TL'] S4 = .ok (.bl true, S4) := by
      have pk : D.pks TL' = true := pks_of fun d hd => by
        rw [hTL] at hd
        obtain ⟨z, _, rfl⟩ := List.mem_map.mp hd
        rfl
      have sm : D.sms TL' = true := sms_of' fun d hd => by
        rw [hTL] at hd
        obtain ⟨z, _, rfl⟩ := List.mem_map.mp hd
        simp [D.sm, D.sms]
      have dp : D.dps TL' ≤ 2 := dps_le.mpr fun d hd => by
        rw [hTL] at hd
        obtain ⟨z, _, rfl⟩ := List.mem_map.mp hd
        simp [dp_bl']
      refine alike_rd 8 (.lst TL') _ _ (by rw [Rd]; exact ⟨_, _, fl4, rds_self pk⟩) (rd_self (by rw [D.pk]; exact pk)) ?_ (by rw [D.dp]; omega)
      rw [D.sm, Bool.and_eq_true]
      exact ⟨decide_eq_true (by rw [hTL, List.length_map]; omega), sm⟩
    have nt := tn_told y10 t'
    obtain ⟨M5, hM5⟩ : ∃ M5, S4 = Bx b2 (Z2 ++ M5) := ⟨[.lst (encP [[SS ++ more]])] ++ [.lst TL'], by rw [hS4, hS3]; simp⟩
    refine turn_eq (e := [some (.scr ns), some (.ref 1), some (.int hands), some (.str [sg]), some (.str more), some (.ref n), some (.ref kd), some (.int hand), some x, some wy, some v, some (.bl hb), some (.int PL), none, none, none]) (s := S4) ?_ ⟨b2, Z2 ++ M5, t', d', hM5, by rw [← hM5]; exact hJ5, hkd3, _, _, _, _, _, _, rfl⟩
    rw [sIf_at (b := false) (sx := S4) (by
      generalize (d'.rs.map fun x => D.ref x.a) = RR at *
      simp [gt4, nt, tl, gr, it, m2, key2, al3]), if_neg (by decide), r_sNext])
  simp
end Dl
set_option maxHeartbeats 1000000
namespace W37
open PySem L2 Dl
def top (i : Nat) : Stmt := PySem.Challenge.pw_tabgrow_k37_whole_one_sign_many_rubs.main.body.getD i (.Pass ⟨0, 0, 0, 0⟩)
abbrev s_law_begun : Stmt := top 33
abbrev s_law_take : Stmt := top 34
abbrev s_law_sign : Stmt := top 36
abbrev s_is_number : Stmt := top 18
abbrev s_Table_need_hand : Stmt := inClass (top 31) 1
abbrev s_Table_number_of : Stmt := inClass (top 31) 5
abbrev s_Table_is_there : Stmt := inClass (top 31) 2
abbrev s_Table_right : Stmt := inClass (top 31) 16
abbrev s_law_told : Stmt := top 37
abbrev s_Table_ahead : Stmt := inClass (top 31) 6
abbrev s_Table_note : Stmt := inClass (top 31) 8
abbrev s_Table_lines : Stmt := inClass (top 31) 3
abbrev s_is_sign : Stmt := top 19
abbrev s_is_cell : Stmt := top 20
abbrev s_is_row : Stmt := top 21
abbrev s_Table_is_page : Stmt := inClass (top 31) 4
abbrev s_Table_forget : Stmt := inClass (top 31) 9
abbrev s_Table_go_on : Stmt := inClass (top 31) 7
abbrev s_Table_rub : Stmt := inClass (top 31) 11
abbrev s_Table_turn : Stmt := inClass (top 31) 12
abbrev s_Table_back : Stmt := inClass (top 31) 13
abbrev s_Table_again : Stmt := inClass (top 31) 14
abbrev s_law_alike : Stmt := top 35
abbrev s_law_due : Stmt := top 38
abbrev s_Table_page : Stmt := inClass (top 31) 18
abbrev s_Table_at : Stmt := inClass (top 31) 17
abbrev s_Table_told : Stmt := inClass (top 31) 20
abbrev s_need_page : Stmt := top 22
abbrev s_need_style : Stmt := top 23
abbrev s_written : Stmt := top 26
abbrev s_Mark_init : Stmt := inClass (top 30) 0
abbrev s_Table_init : Stmt := inClass (top 31) 0
abbrev s_law : Stmt := top 39
structure Txt (W : Wd) (mg : Str → Option Value) : Prop where
  b_len : mg "len" = none
  b_int : mg "int" = none
  b_list : mg "list" = none
  b_isinstance : mg "isinstance" = none
  b_bool : mg "bool" = none
  b_enumerate : mg "enumerate" = none
  b_any : mg "any" = none
  b_tuple : mg "tuple" = none
  b_ord : mg "ord" = none
  b_str : mg "str" = none
  b_range : mg "range" = none
  b_zip : mg "zip" = none
  k_LINE : ∃ t, mg "LINE" = some (.str "\n" t)
  k_TAB : ∃ t, mg "TAB" = some (.str "\t" t)
  k_FIRST_SIGN : ∃ t, mg "FIRST_SIGN" = some (.str " " t)
  k_LAST_SIGN : ∃ t, mg "LAST_SIGN" = some (.str "~" t)
  k_BARRED : ∃ t, mg "BARRED" = some (.int (37) t)
  k_MOST_SIGNS : ∃ t, mg "MOST_SIGNS" = some (.int (10) t)
  k_MOST_CELLS : ∃ t, mg "MOST_CELLS" = some (.int (6) t)
  k_MOST_ROWS : ∃ t, mg "MOST_ROWS" = some (.int (30) t)
  k_MOST_GAP : ∃ t, mg "MOST_GAP" = some (.int (4) t)
  k_MOST_LEAST : ∃ t, mg "MOST_LEAST" = some (.int (12) t)
  k_MOST_HANDS : ∃ t, mg "MOST_HANDS" = some (.int (4) t)
  cl_Table : Cls W.K (W.cls 16)
  cl_Mark : Cls W.K (W.cls 15)
  na_Table_stood : NoAttr W.K (W.cls 16) "stood"
  na_Table_marks : NoAttr W.K (W.cls 16) "marks"
  na_Mark_name : NoAttr W.K (W.cls 15) "name"
  na_Mark_born : NoAttr W.K (W.cls 15) "born"
  na_Table_lasting : NoAttr W.K (W.cls 16) "lasting"
  na_Mark_cuts : NoAttr W.K (W.cls 15) "cuts"
  na_Table_deeds : NoAttr W.K (W.cls 16) "deeds"
  na_Mark_sign : NoAttr W.K (W.cls 15) "sign"
  na_Table_undone : NoAttr W.K (W.cls 16) "undone"
  na_Table_style : NoAttr W.K (W.cls 16) "style"
  na_Table_many : NoAttr W.K (W.cls 16) "many"
  ex_BadHand : OwnEx W.K mg "BadHand" (W.cls 6)
  ex_BadCell : OwnEx W.K mg "BadCell" (W.cls 4)
  ex_TooMuch : OwnEx W.K mg "TooMuch" (W.cls 7)
  g_BadCell : mg "BadCell" = some (.ref (W.cls 4))
  g_GrowError : mg "GrowError" = some (.ref (W.cls 0))
  ct_law_told : ∀ c ∈ ([4] : List Nat), PySem.W.exmOne W.K (.ref (W.cls c)) (.ref (W.cls 4)) = some true
  ct_law_told_b : ∀ c ∈ ([7] : List Nat), PySem.W.exmOne W.K (.ref (W.cls c)) (.ref (W.cls 0)) = some true
  cn_law_told : ∀ c ∈ ([7] : List Nat), PySem.W.exmOne W.K (.ref (W.cls c)) (.ref (W.cls 4)) = some false
section
variable {P : Program} {w : World} {W : Wd} {mg : Str → Option Value} {base : Heap}
theorem sc_law_begun : FnScope ["_law_script", "_law_stirred", "_law_cell"] ["_law_script"] (defScope s_law_begun) := ⟨rfl, rfl, rfl, by decide +kernel, rfl, by decide +kernel, by decide +kernel⟩
theorem ok_law_begun {f : Addr} {fd : FuncData} (F : Fun W.K "_law_begun" "_law_begun" s_law_begun f fd) (m : mg "_law_begun" = some (.ref f)) (T : Txt W mg)  : Fn P w W mg base "_law_begun" (1) 1 (funD 3 d_law_begun) :=
  ⟨f, fd, ["_law_script"], fnE F sc_law_begun rfl rfl fun cdv A outer sh H E hr => db_cons (ds_set sc_law_begun.nd rfl (by first | exact Or.inl rfl | exact Or.inr rfl) (de_int)) (db_cons (ds_for passF rfl (di_seq (dv 0)) (dg_name sc_law_begun.nd rfl (by first | exact Or.inl rfl | exact Or.inr rfl)) (db_one (ds_set sc_law_begun.nd rfl (by first | exact Or.inl rfl | exact Or.inr rfl) (de_op dop_mod (de_op (dop_add true) (de_op (dop_add true) (de_op (dop_mul true) (dv 1) (de_int)) (de_op (dop_mul true) (dv 2) (de_int))) (de_int)) (de_int))))) (db_one (ds_ret (de_lst true (da_cons (de_callTy (dc_list true) (by rfl) T.b_list (by decide +kernel) (da_cons (dv 0) (da_nil)) (fun a b => pe_callTy a (by rfl) T.b_list (by decide +kernel) b)) (da_cons (de_op (dop_mul true) (dv 1) (de_callTy dc_int (by rfl) T.b_int (by decide +kernel) (da_cons (de_cmp dop_gt (de_callB dc_len (by rfl) T.b_len (by decide +kernel) (da_cons (dv 0) (da_nil)) (fun a b => pe_callB a (by rfl) T.b_len (by decide +kernel) b)) (de_int) (nomark _)) (da_nil)) (fun a b => pe_callTy a (by rfl) T.b_int (by decide +kernel) b))) (da_nil))))))), m, F.kp, F.binds (ps := ["_law_script"]) fun _ _ _ _ _ _ us hl => match us, hl with | [_], _ => rfl⟩
theorem sc_law_take : FnScope ["_law_box", "_law_many", "_law_number"] ["_law_box", "_law_many"] (defScope s_law_take) := ⟨rfl, rfl, rfl, by decide +kernel, rfl, by decide +kernel, by decide +kernel⟩
theorem ok_law_take {f : Addr} {fd : FuncData} (F : Fun W.K "_law_take" "_law_take" s_law_take f fd) (m : mg "_law_take" = some (.ref f)) (T : Txt W mg)  : Fn P w W mg base "_law_take" (1) 2 (funD 3 d_law_take) :=
  ⟨f, fd, ["_law_box", "_law_many"], fnE F sc_law_take rfl rfl fun cdv A outer sh H E hr => db_cons (ds_if (dt_cmp (dop_eq rfl hr.units) (de_ix rfl (dv 0) (de_int) (fun _ _ => rfl)) (de_lst false (da_nil)) (nomark _)) (db_cons (ds_asg (de_op dop_mod (de_op (dop_mul false) (de_ix rfl (dv 0) (de_int) (fun _ _ => rfl)) (de_int)) (de_int)) (dg_sub (dv 0) (de_int) dset_list)) (db_one (ds_ret (de_op dop_mod (de_op dop_div (de_ix rfl (dv 0) (de_int) (fun _ _ => rfl)) (de_int)) (dv 1))))) (db_nil)) (db_cons (ds_set sc_law_take.nd rfl (by first | exact Or.inl rfl | exact Or.inr rfl) (de_ix rfl (de_ix rfl (dv 0) (de_int) (fun _ _ => rfl)) (de_int) (fun _ _ => rfl))) (db_cons (ds_asg (de_op dop_div (dv 2) (dv 1)) (dg_sub (de_ix rfl (dv 0) (de_int) (fun _ _ => rfl)) (de_int) dset_list)) (db_cons (ds_if (dt_w (dw_or (dt_cmp (dop_eq rfl hr.units) (de_ix rfl (de_ix rfl (dv 0) (de_int) (fun _ _ => rfl)) (de_int) (fun _ _ => rfl)) (de_int) (nomark _)) (dw_or1 (dt_cmp (dop_eq rfl hr.units) (de_ix rfl (de_ix rfl (dv 0) (de_int) (fun _ _ => rfl)) (de_int) (fun _ _ => rfl)) (de_neg (de_int)) (nomark _))))) (db_one (ds_expr (de_mt PySem.F.plainAttrs_list PySem.F.slot_list_pop PySem.F.type_list_pop (dm_pop) (de_ix rfl (dv 0) (de_int) (fun _ _ => rfl)) (da_cons (de_int) (da_nil)) (fun a b c => pe_bm PySem.F.plainAttrs_list PySem.F.slot_list_pop PySem.F.type_list_pop a b c)))) (db_nil)) (db_one (ds_ret (de_op dop_mod (dv 2) (dv 1))))))), m, F.kp, F.binds (ps := ["_law_box", "_law_many"]) fun _ _ _ _ _ _ us hl => match us, hl with | [_, _], _ => rfl⟩
theorem sc_law_sign : FnScope ["_law_box", "_law_every"] ["_law_box"] (defScope s_law_sign) := ⟨rfl, rfl, rfl, by decide +kernel, rfl, by decide +kernel, by decide +kernel⟩
theorem ok_law_sign {m_law_take : FV} {f : Addr} {fd : FuncData} (F : Fun W.K "_law_sign" "_law_sign" s_law_sign f fd) (m : mg "_law_sign" = some (.ref f)) (T : Txt W mg) (c_law_take : Fn P w W mg base "_law_take" 1 2 m_law_take) : Fn P w W mg base "_law_sign" (2) 1 (funD 2 (d_law_sign m_law_take)) :=
  ⟨f, fd, ["_law_box"], fnE F sc_law_sign rfl rfl fun cdv A outer sh H E hr => db_cons (ds_set sc_law_sign.nd rfl (by first | exact Or.inl rfl | exact Or.inr rfl) (de_str (by decide +kernel) (by decide +kernel))) (db_one (ds_ret (de_ix rfl (dv 1) (dcall c_law_take hr passD (da_cons (dv 0) (da_cons (de_int) (da_nil)))) (fun _ _ => rfl)))), m, F.kp, F.binds (ps := ["_law_box"]) fun _ _ _ _ _ _ us hl => match us, hl with | [_], _ => rfl⟩
theorem sc_is_number : FnScope ["part", "low", "high"] ["part", "low", "high"] (defScope s_is_number) := ⟨rfl, rfl, rfl, by decide +kernel, rfl, by decide +kernel, by decide +kernel⟩
theorem ok_is_number {f : Addr} {fd : FuncData} (F : Fun W.K "is_number" "is_number" s_is_number f fd) (m : mg "is_number" = some (.ref f)) (T : Txt W mg)  : Fn P w W mg base "is_number" (1) 3 (funD 3 d_is_number) :=
  ⟨f, fd, ["part", "low", "high"], fnE F sc_is_number rfl rfl fun cdv A outer sh H E hr => db_one (ds_ret (de_and (de_isinst (by simp) (dv 0) (pe_bltn (by rfl) T.b_int (by decide +kernel) rfl) (fun a b => pe_callB a (by rfl) T.b_isinstance (by decide +kernel) b) (fun p => pa_cons p (pa_cons (pe_bltn (by rfl) T.b_int (by decide +kernel) rfl) pa_nil))) (de_and (de_not (de_isinst (by simp) (dv 0) (pe_bltn (by rfl) T.b_bool (by decide +kernel) rfl) (fun a b => pe_callB a (by rfl) T.b_isinstance (by decide +kernel) b) (fun p => pa_cons p (pa_cons (pe_bltn (by rfl) T.b_bool (by decide +kernel) rfl) pa_nil)))) (de_one (de_chain dop_le dop_le (dv 1) (dv 0) (dv 2) (by with_unfolding_all rfl)))))), m, F.kp, F.binds (ps := ["part", "low", "high"]) fun _ _ _ _ _ _ us hl => match us, hl with | [_, _, _], _ => rfl⟩
theorem sc_Table_need_hand : FnScope ["self", "hand"] ["self", "hand"] (defScope s_Table_need_hand) := ⟨rfl, rfl, rfl, by decide +kernel, rfl, by decide +kernel, by decide +kernel⟩
theorem ok_Table_need_hand {m_is_number : FV} {f : Addr} {fd : FuncData} (F : Fun W.K "need_hand" "Table.need_hand" s_Table_need_hand f fd) (M : Meth W.K (W.cls 16) "need_hand" f) (T : Txt W mg) (c_is_number : Fn P w W mg base "is_number" 1 3 m_is_number) : Mt P w W mg base 16 "need_hand" (2) 2 (funD 2 (d_Table_need_hand m_is_number)) :=
  ⟨⟨f, fd, ["self", "hand"], fnE F sc_Table_need_hand rfl rfl fun cdv A outer sh H E hr => db_one (ds_if (dt_not (dt_val (dcall c_is_number hr passD (da_cons (dv 1) (da_cons (de_int) (da_cons (de_op dop_sub (de_callB dc_len (by rfl) T.b_len (by decide +kernel) (da_cons (de_fld rfl (dv 0) T.cl_Table T.na_Table_stood) (da_nil)) (fun a b => pe_callB a (by rfl) T.b_len (by decide +kernel) b)) (de_int)) (da_nil))))))) (db_one (ds_raise rfl rfl takesD T.ex_BadHand (by rfl))) (db_nil)), M, F.binds (ps := ["self", "hand"]) fun _ _ _ _ _ _ us hl => match us, hl with | [_, _], _ => rfl⟩, T.cl_Table⟩
theorem sc_Table_number_of : FnScope ["self", "hand", "k", "mark"] ["self", "hand"] (defScope s_Table_number_of) := ⟨rfl, rfl, rfl, by decide +kernel, rfl, by decide +kernel, by decide +kernel⟩
theorem ok_Table_number_of {f : Addr} {fd : FuncData} (F : Fun W.K "number_of" "Table.number_of" s_Table_number_of f fd) (M : Meth W.K (W.cls 16) "number_of" f) (T : Txt W mg)  : Mt P w W mg base 16 "number_of" (1) 2 (funD 4 d_Table_number_of) :=
  ⟨⟨f, fd, ["self", "hand"], fnE F sc_Table_number_of rfl rfl fun cdv A outer sh H E hr => db_cons (ds_for passF rfl (di_enum (by rfl) T.b_enumerate (da_cons (de_fld rfl (dv 0) T.cl_Table T.na_Table_marks) (da_nil))) (dg_tup rfl (dgs_cons (dg_name sc_Table_number_of.nd rfl (by first | exact Or.inl rfl | exact Or.inr rfl)) (dgs_cons (dg_name sc_Table_number_of.nd rfl (by first | exact Or.inl rfl | exact Or.inr rfl)) (dgs_nil)))) (db_one (ds_if (dt_cmp (dop_eq rfl hr.units) (de_fld rfl (dv 3) T.cl_Mark T.na_Mark_name) (de_ix rfl (de_fld rfl (dv 0) T.cl_Table T.na_Table_stood) (dv 1) (fun _ _ => rfl)) (nomark _)) (db_one (ds_ret (dv 2))) (db_nil)))) (db_one (ds_ret (de_callB dc_len (by rfl) T.b_len (by decide +kernel) (da_cons (de_fld rfl (dv 0) T.cl_Table T.na_Table_marks) (da_nil)) (fun a b => pe_callB a (by rfl) T.b_len (by decide +kernel) b)))), M, F.binds (ps := ["self", "hand"]) fun _ _ _ _ _ _ us hl => match us, hl with | [_, _], _ => rfl⟩, T.cl_Table⟩
theorem sc_Table_is_there : FnScope ["self", "mark", "cut"] ["self", "mark"] (defScope s_Table_is_there) := ⟨rfl, rfl, rfl, by decide +kernel, rfl, by decide +kernel, by decide +kernel⟩
theorem ok_Table_is_there {f : Addr} {fd : FuncData} (F : Fun W.K "is_there" "Table.is_there" s_Table_is_there f fd) (M : Meth W.K (W.cls 16) "is_there" f) (T : Txt W mg)  : Mt P w W mg base 16 "is_there" (1) 2 (funD 3 d_Table_is_there) :=
  ⟨⟨f, fd, ["self", "mark"], fnE F sc_Table_is_there rfl rfl fun cdv A outer sh H E hr => db_cons (ds_if (dt_w (dw_and (dt_cmp dop_isnot (de_fld rfl (dv 1) T.cl_Mark T.na_Mark_born) (de_non) (nomark _)) (dw_and1 (dt_not (dt_val (de_ix rfl (de_fld rfl (dv 0) T.cl_Table T.na_Table_lasting) (de_fld rfl (dv 1) T.cl_Mark T.na_Mark_born) (fun _ _ => rfl))))))) (db_one (ds_ret (de_bl))) (db_nil)) (db_one (ds_ret (de_not (de_callB (dc_any rfl) (by rfl) T.b_any (by decide +kernel) (da_cons (de_lc false rfl sc_Table_is_there.nd (di_seq (de_fld rfl (dv 1) T.cl_Mark T.na_Mark_cuts)) (by exact blkOk_by (N := ["self", "mark", "cut"]) (sc := defScope s_Table_is_there) (own := [("cut", 2)]) (by decide +kernel)) rfl (by decide) (fun _ _ _ _ _ => tg_one sc_Table_is_there.nd rfl (by first | exact Or.inl rfl | exact Or.inr rfl)) (fun _ _ _ _ _ => dts_nil) (fun _ _ _ _ _ => de_ix rfl (de_fld rfl (dv 0) T.cl_Table T.na_Table_lasting) (dv 2) (fun _ _ => rfl))) (da_nil)) (fun a b => pe_callB a (by rfl) T.b_any (by decide +kernel) b))))), M, F.binds (ps := ["self", "mark"]) fun _ _ _ _ _ _ us hl => match us, hl with | [_, _], _ => rfl⟩, T.cl_Table⟩
theorem sc_Table_right : FnScope ["self", "hand", "some", "mark"] ["self", "hand"] (defScope s_Table_right) := ⟨rfl, rfl, rfl, by decide +kernel, rfl, by decide +kernel, by decide +kernel⟩
theorem ok_Table_right {m_Table_need_hand m_Table_number_of m_Table_is_there : FV} {f : Addr} {fd : FuncData} (F : Fun W.K "right" "Table.right" s_Table_right f fd) (M : Meth W.K (W.cls 16) "right" f) (T : Txt W mg) (c_Table_need_hand : Mt P w W mg base 16 "need_hand" 2 2 m_Table_need_hand) (c_Table_number_of : Mt P w W mg base 16 "number_of" 1 2 m_Table_number_of) (c_Table_is_there : Mt P w W mg base 16 "is_there" 1 2 m_Table_is_there) : Mt P w W mg base 16 "right" (3) 2 (funD 4 (d_Table_right m_Table_need_hand m_Table_number_of m_Table_is_there)) :=
  ⟨⟨f, fd, ["self", "hand"], fnE F sc_Table_right rfl rfl fun cdv A outer sh H E hr => db_cons (ds_expr (dmeth c_Table_need_hand (dv 0) hr passD (da_cons (dv 1) (da_nil)))) (db_cons (ds_if (dt_cmp dop_is (de_ix rfl (de_fld rfl (dv 0) T.cl_Table T.na_Table_stood) (dv 1) (fun _ _ => rfl)) (de_non) (nomark _)) (db_one (ds_ret (de_bl))) (db_nil)) (db_cons (ds_setLc false rfl sc_Table_right.nd rfl rfl (sw_true rfl rfl rfl (by decide +kernel)) (di_seq (de_sl false rfl (de_fld rfl (dv 0) T.cl_Table T.na_Table_marks) (dp_some (de_op (dop_add false) (dmeth c_Table_number_of (dv 0) hr passD (da_cons (dv 1) (da_nil))) (de_int))) (dp_none))) (by exact blkOk_by (N := ["self", "hand", "some", "mark"]) (sc := defScope s_Table_right) (own := [("mark", 3)]) (by decide +kernel)) rfl (by decide) (fun _ _ _ _ _ => tg_one sc_Table_right.nd rfl (by first | exact Or.inl rfl | exact Or.inr rfl)) (fun _ _ _ _ _ => dts_one (dt_val (dmeth c_Table_is_there (dv 0) hr passL (da_cons (dv 3) (da_nil))))) (fun _ _ _ _ _ => de_fld rfl (dv 3) T.cl_Mark T.na_Mark_name)) (db_cons (ds_asg (de_if (dt_cmp (dop_ne rfl hr.units) (dv 2) (de_lst false (da_nil)) (nomark _)) (de_ix rfl (dv 2) (de_int) (fun _ _ => rfl)) (de_non)) (dg_sub (de_fld rfl (dv 0) T.cl_Table T.na_Table_stood) (dv 1) dset_list)) (db_one (ds_ret (de_bl)))))), M, F.binds (ps := ["self", "hand"]) fun _ _ _ _ _ _ us hl => match us, hl with | [_, _], _ => rfl⟩, T.cl_Table⟩
theorem sc_law_told : FnScope ["_law_work", "_law_found"] ["_law_work"] (defScope s_law_told) := ⟨rfl, rfl, rfl, by decide +kernel, rfl, by decide +kernel, by decide +kernel⟩
theorem ok_law_told {k : Nat} {f : Addr} {fd : FuncData} (F : Fun W.K "_law_told" "_law_told" s_law_told f fd) (m : mg "_law_told" = some (.ref f)) (T : Txt W mg) : FnT P w W mg base "_law_told" (k + 2) ["_law_work"] (spTold P w W mg base k [4, 7] (hmC2 [4] (.str [110, 111, 110, 101]) (.str [111, 116, 104, 101, 114]))) := by
  show FnT P w W mg base "_law_told" (k + 2) ["_law_work"] (spTold P w W mg base k (([4] : List Nat) ++ ([7] : List Nat)) (hmC2 [4] (.str [110, 111, 110, 101]) (.str [111, 116, 104, 101, 114])))
  rw [← spCould2_told]
  exact ⟨f, fd, could_fn2 (E0 := fun _ _ _ => False) (i := 0) (cs := [4]) (cs2 := [7]) F sc_law_told rfl rfl (.inl rfl) rfl rfl rfl T.g_BadCell (by decide) rfl T.g_GrowError (by decide) T.ct_law_told (fun c hc => ⟨T.cn_law_told c hc, T.ct_law_told_b c hc⟩) (fun cdv A outer sh H E hr => ds_set sc_law_told.nd rfl (by first | exact Or.inl rfl | exact Or.inr rfl) (de_non)) (fun cdv A outer sh H E hr => ds_ret (dv 1)) (fun cdv A outer sh H E a oe pn hr => db_one (ds_set sc_law_told.nd rfl (by first | exact Or.inl rfl | exact Or.inr rfl) (de_str (by decide +kernel) (by decide +kernel)))) (fun cdv A outer sh H E a oe pn hr => db_one (ds_set sc_law_told.nd rfl (by first | exact Or.inl rfl | exact Or.inr rfl) (de_str (by decide +kernel) (by decide +kernel))))
    , m, F.kp, F.binds (ps := ["_law_work"]) fun _ _ _ _ _ _ us hl => match us, hl with | [_], _ => rfl⟩
theorem sc_Table_ahead : FnScope ["self", "hand", "mark"] ["self", "hand"] (defScope s_Table_ahead) := ⟨rfl, rfl, rfl, by decide +kernel, rfl, by decide +kernel, by decide +kernel⟩
theorem ok_Table_ahead {m_Table_number_of m_Table_is_there : FV} {f : Addr} {fd : FuncData} (F : Fun W.K "ahead" "Table.ahead" s_Table_ahead f fd) (M : Meth W.K (W.cls 16) "ahead" f) (T : Txt W mg) (c_Table_number_of : Mt P w W mg base 16 "number_of" 1 2 m_Table_number_of) (c_Table_is_there : Mt P w W mg base 16 "is_there" 1 2 m_Table_is_there) : Mt P w W mg base 16 "ahead" (2) 2 (funD 3 (d_Table_ahead m_Table_number_of m_Table_is_there)) :=
  ⟨⟨f, fd, ["self", "hand"], fnE F sc_Table_ahead rfl rfl fun cdv A outer sh H E hr => db_one (ds_ret (de_lc false rfl sc_Table_ahead.nd (di_seq (de_sl false rfl (de_fld rfl (dv 0) T.cl_Table T.na_Table_marks) (dp_none) (dp_some (dmeth c_Table_number_of (dv 0) hr passD (da_cons (dv 1) (da_nil)))))) (by exact blkOk_by (N := ["self", "hand", "mark"]) (sc := defScope s_Table_ahead) (own := [("mark", 2)]) (by decide +kernel)) rfl (by decide) (fun _ _ _ _ _ => tg_one sc_Table_ahead.nd rfl (by first | exact Or.inl rfl | exact Or.inr rfl)) (fun _ _ _ _ _ => dts_one (dt_val (dmeth c_Table_is_there (dv 0) hr passL (da_cons (dv 2) (da_nil))))) (fun _ _ _ _ _ => dv 2))), M, F.binds (ps := ["self", "hand"]) fun _ _ _ _ _ _ us hl => match us, hl with | [_, _], _ => rfl⟩, T.cl_Table⟩
theorem sc_Table_note : FnScope ["self", "hand", "sign"] ["self", "hand", "sign"] (defScope s_Table_note) := ⟨rfl, rfl, rfl, by decide +kernel, rfl, by decide +kernel, by decide +kernel⟩
theorem ok_Table_note {f : Addr} {fd : FuncData} (F : Fun W.K "note" "Table.note" s_Table_note f fd) (M : Meth W.K (W.cls 16) "note" f) (T : Txt W mg)  : Mt P w W mg base 16 "note" (1) 3 (funD 3 d_Table_note) :=
  ⟨⟨f, fd, ["self", "hand", "sign"], fnE F sc_Table_note rfl rfl fun cdv A outer sh H E hr => db_cons (ds_expr (de_mt PySem.F.plainAttrs_list PySem.F.slot_list_append PySem.F.type_list_append (dm_append) (de_fld rfl (dv 0) T.cl_Table T.na_Table_deeds) (da_cons (de_tup (da_cons (dv 1) (da_cons (dv 2) (da_nil)))) (da_nil)) (fun a b c => pe_bm PySem.F.plainAttrs_list PySem.F.slot_list_append PySem.F.type_list_append a b c))) (db_one (ds_expr (de_mt PySem.F.plainAttrs_list PySem.F.slot_list_append PySem.F.type_list_append (dm_append) (de_fld rfl (dv 0) T.cl_Table T.na_Table_lasting) (da_cons (de_bl) (da_nil)) (fun a b c => pe_bm PySem.F.plainAttrs_list PySem.F.slot_list_append PySem.F.type_list_append a b c)))), M, F.binds (ps := ["self", "hand", "sign"]) fun _ _ _ _ _ _ us hl => match us, hl with | [_, _, _], _ => rfl⟩, T.cl_Table⟩
theorem sc_Table_lines : FnScope ["self", "text", "mark", "line"] ["self"] (defScope s_Table_lines) := ⟨rfl, rfl, rfl, by decide +kernel, rfl, by decide +kernel, by decide +kernel⟩
theorem ok_Table_lines {m_Table_is_there : FV} {f : Addr} {fd : FuncData} (F : Fun W.K "lines" "Table.lines" s_Table_lines f fd) (M : Meth W.K (W.cls 16) "lines" f) (T : Txt W mg) (c_Table_is_there : Mt P w W mg base 16 "is_there" 1 2 m_Table_is_there) : Mt P w W mg base 16 "lines" (2) 1 (funD 4 (d_Table_lines m_Table_is_there)) :=
  ⟨⟨f, fd, ["self"], fnE F sc_Table_lines rfl rfl fun cdv A outer sh H E hr => db_cons (ds_set sc_Table_lines.nd rfl (by first | exact Or.inl rfl | exact Or.inr rfl) (de_mt PySem.F.plainAttrs_str PySem.F.slot_str_join PySem.F.type_str_join (dm_join) (de_str (by decide +kernel) (by decide +kernel)) (da_cons (de_lc false rfl sc_Table_lines.nd (di_seq (de_fld rfl (dv 0) T.cl_Table T.na_Table_marks)) (by exact blkOk_by (N := ["self", "text", "mark", "line"]) (sc := defScope s_Table_lines) (own := [("mark", 2)]) (by decide +kernel)) rfl (by decide) (fun _ _ _ _ _ => tg_one sc_Table_lines.nd rfl (by first | exact Or.inl rfl | exact Or.inr rfl)) (fun _ _ _ _ _ => dts_one (dt_val (dmeth c_Table_is_there (dv 0) hr passL (da_cons (dv 2) (da_nil))))) (fun _ _ _ _ _ => de_fld rfl (dv 2) T.cl_Mark T.na_Mark_sign)) (da_nil)) (fun a b c => pe_bm PySem.F.plainAttrs_str PySem.F.slot_str_join PySem.F.type_str_join a b c))) (db_one (ds_ret (de_lc true rfl sc_Table_lines.nd (di_seq (de_mt PySem.F.plainAttrs_str PySem.F.slot_str_split PySem.F.type_str_split (dm_split false) (dv 1) (da_cons (de_globS rfl T.k_LINE.choose_spec (by decide +kernel) (by decide +kernel)) (da_nil)) (fun a b c => pe_bm PySem.F.plainAttrs_str PySem.F.slot_str_split PySem.F.type_str_split a b c))) (by exact blkOk_by (N := ["self", "text", "mark", "line"]) (sc := defScope s_Table_lines) (own := [("line", 3)]) (by decide +kernel)) rfl (by decide) (fun _ _ _ _ _ => tg_one sc_Table_lines.nd rfl (by first | exact Or.inl rfl | exact Or.inr rfl)) (fun _ _ _ _ _ => dts_nil) (fun _ _ _ _ _ => de_callTy dc_tup (by rfl) T.b_tuple (by decide +kernel) (da_cons (de_mt PySem.F.plainAttrs_str PySem.F.slot_str_split PySem.F.type_str_split (dm_split false) (dv 3) (da_cons (de_globS rfl T.k_TAB.choose_spec (by decide +kernel) (by decide +kernel)) (da_nil)) (fun a b c => pe_bm PySem.F.plainAttrs_str PySem.F.slot_str_split PySem.F.type_str_split a b c)) (da_nil)) (fun a b => pe_callTy a (by rfl) T.b_tuple (by decide +kernel) b))))), M, F.binds (ps := ["self"]) fun _ _ _ _ _ _ us hl => match us, hl with | [_], _ => rfl⟩, T.cl_Table⟩
theorem sc_is_sign : FnScope ["sign"] ["sign"] (defScope s_is_sign) := ⟨rfl, rfl, rfl, by decide +kernel, rfl, by decide +kernel, by decide +kernel⟩
theorem ok_is_sign {f : Addr} {fd : FuncData} (F : Fun W.K "is_sign" "is_sign" s_is_sign f fd) (m : mg "is_sign" = some (.ref f)) (T : Txt W mg)  : Fn P w W mg base "is_sign" (1) 1 (funD 1 d_is_sign) :=
  ⟨f, fd, ["sign"], fnE F sc_is_sign rfl rfl fun cdv A outer sh H E hr => db_one (ds_ret (de_and (de_chain dop_le dop_le (de_globS rfl T.k_FIRST_SIGN.choose_spec (by decide +kernel) (by decide +kernel)) (dv 0) (de_globS rfl T.k_LAST_SIGN.choose_spec (by decide +kernel) (by decide +kernel)) (by with_unfolding_all rfl)) (de_one (de_cmp (dop_ne rfl hr.units) (de_callB dc_ord (by rfl) T.b_ord (by decide +kernel) (da_cons (dv 0) (da_nil)) (fun a b => pe_callB a (by rfl) T.b_ord (by decide +kernel) b)) (de_globI rfl T.k_BARRED.choose_spec) (nomark _))))), m, F.kp, F.binds (ps := ["sign"]) fun _ _ _ _ _ _ us hl => match us, hl with | [_], _ => rfl⟩
theorem sc_is_cell : FnScope ["cell", "sign"] ["cell"] (defScope s_is_cell) := ⟨rfl, rfl, rfl, by decide +kernel, rfl, by decide +kernel, by decide +kernel⟩
theorem ok_is_cell {m_is_sign : FV} {f : Addr} {fd : FuncData} (F : Fun W.K "is_cell" "is_cell" s_is_cell f fd) (m : mg "is_cell" = some (.ref f)) (T : Txt W mg) (c_is_sign : Fn P w W mg base "is_sign" 1 1 m_is_sign) : Fn P w W mg base "is_cell" (2) 1 (funD 2 (d_is_cell m_is_sign)) :=
  ⟨f, fd, ["cell"], fnE F sc_is_cell rfl rfl fun cdv A outer sh H E hr => db_cons (ds_if (dt_w (dw_or (dt_not (dt_val (de_isinst (by simp) (dv 0) (pe_bltn (by rfl) T.b_str (by decide +kernel) rfl) (fun a b => pe_callB a (by rfl) T.b_isinstance (by decide +kernel) b) (fun p => pa_cons p (pa_cons (pe_bltn (by rfl) T.b_str (by decide +kernel) rfl) pa_nil))))) (dw_or1 (dt_cmp dop_gt (de_callB dc_len (by rfl) T.b_len (by decide +kernel) (da_cons (dv 0) (da_nil)) (fun a b => pe_callB a (by rfl) T.b_len (by decide +kernel) b)) (de_globI rfl T.k_MOST_SIGNS.choose_spec) (nomark _))))) (db_one (ds_ret (de_bl))) (db_nil)) (db_one (ds_ret (de_cmp (dop_eq rfl hr.units) (de_lc false rfl sc_is_cell.nd (di_seq (dv 0)) (by exact blkOk_by (N := ["cell", "sign"]) (sc := defScope s_is_cell) (own := [("sign", 1)]) (by decide +kernel)) rfl (by decide) (fun _ _ _ _ _ => tg_one sc_is_cell.nd rfl (by first | exact Or.inl rfl | exact Or.inr rfl)) (fun _ _ _ _ _ => dts_one (dt_not (dt_val (dcall c_is_sign hr passL (da_cons (dv 1) (da_nil)))))) (fun _ _ _ _ _ => dv 1)) (de_lst false (da_nil)) (nomark _)))), m, F.kp, F.binds (ps := ["cell"]) fun _ _ _ _ _ _ us hl => match us, hl with | [_], _ => rfl⟩
theorem sc_is_row : FnScope ["row", "cell"] ["row"] (defScope s_is_row) := ⟨rfl, rfl, rfl, by decide +kernel, rfl, by decide +kernel, by decide +kernel⟩
theorem ok_is_row {m_is_cell : FV} {f : Addr} {fd : FuncData} (F : Fun W.K "is_row" "is_row" s_is_row f fd) (m : mg "is_row" = some (.ref f)) (T : Txt W mg) (c_is_cell : Fn P w W mg base "is_cell" 2 1 m_is_cell) : Fn P w W mg base "is_row" (3) 1 (funD 2 (d_is_row m_is_cell)) :=
  ⟨f, fd, ["row"], fnE F sc_is_row rfl rfl fun cdv A outer sh H E hr => db_cons (ds_if (dt_w (dw_or (dt_not (dt_val (de_isinst (by simp) (dv 0) (pe_bltn (by rfl) T.b_tuple (by decide +kernel) rfl) (fun a b => pe_callB a (by rfl) T.b_isinstance (by decide +kernel) b) (fun p => pa_cons p (pa_cons (pe_bltn (by rfl) T.b_tuple (by decide +kernel) rfl) pa_nil))))) (dw_or1 (dt_not (dt_chain dop_le dop_le (de_int) (de_callB dc_len (by rfl) T.b_len (by decide +kernel) (da_cons (dv 0) (da_nil)) (fun a b => pe_callB a (by rfl) T.b_len (by decide +kernel) b)) (de_globI rfl T.k_MOST_CELLS.choose_spec) (by with_unfolding_all rfl)))))) (db_one (ds_ret (de_bl))) (db_nil)) (db_one (ds_ret (de_cmp (dop_eq rfl hr.units) (de_lc false rfl sc_is_row.nd (di_seq (dv 0)) (by exact blkOk_by (N := ["row", "cell"]) (sc := defScope s_is_row) (own := [("cell", 1)]) (by decide +kernel)) rfl (by decide) (fun _ _ _ _ _ => tg_one sc_is_row.nd rfl (by first | exact Or.inl rfl | exact Or.inr rfl)) (fun _ _ _ _ _ => dts_one (dt_not (dt_val (dcall c_is_cell hr passL (da_cons (dv 1) (da_nil)))))) (fun _ _ _ _ _ => dv 1)) (de_lst false (da_nil)) (nomark _)))), m, F.kp, F.binds (ps := ["row"]) fun _ _ _ _ _ _ us hl => match us, hl with | [_], _ => rfl⟩
theorem sc_Table_is_page : FnScope ["self", "rows", "row"] ["self"] (defScope s_Table_is_page) := ⟨rfl, rfl, rfl, by decide +kernel, rfl, by decide +kernel, by decide +kernel⟩
theorem ok_Table_is_page {m_Table_lines m_is_row : FV} {f : Addr} {fd : FuncData} (F : Fun W.K "is_page" "Table.is_page" s_Table_is_page f fd) (M : Meth W.K (W.cls 16) "is_page" f) (T : Txt W mg) (c_Table_lines : Mt P w W mg base 16 "lines" 2 1 m_Table_lines) (c_is_row : Fn P w W mg base "is_row" 3 1 m_is_row) : Mt P w W mg base 16 "is_page" (4) 1 (funD 3 (d_Table_is_page m_Table_lines m_is_row)) :=
  ⟨⟨f, fd, ["self"], fnE F sc_Table_is_page rfl rfl fun cdv A outer sh H E hr => db_cons (ds_set sc_Table_is_page.nd rfl (by first | exact Or.inl rfl | exact Or.inr rfl) (dmeth0 c_Table_lines (dv 0) hr passD)) (db_one (ds_ret (de_and (de_cmp dop_le (de_callB dc_len (by rfl) T.b_len (by decide +kernel) (da_cons (dv 1) (da_nil)) (fun a b => pe_callB a (by rfl) T.b_len (by decide +kernel) b)) (de_globI rfl T.k_MOST_ROWS.choose_spec) (nomark _)) (de_one (de_not (de_callB (dc_any rfl) (by rfl) T.b_any (by decide +kernel) (da_cons (de_lc false rfl sc_Table_is_page.nd (di_seq (dv 1)) (by exact blkOk_by (N := ["self", "rows", "row"]) (sc := defScope s_Table_is_page) (own := [("row", 2)]) (by decide +kernel)) rfl (by decide) (fun _ _ _ _ _ => tg_one sc_Table_is_page.nd rfl (by first | exact Or.inl rfl | exact Or.inr rfl)) (fun _ _ _ _ _ => dts_nil) (fun _ _ _ _ _ => de_not (dcall c_is_row hr passL (da_cons (dv 2) (da_nil))))) (da_nil)) (fun a b => pe_callB a (by rfl) T.b_any (by decide +kernel) b))))))), M, F.binds (ps := ["self"]) fun _ _ _ _ _ _ us hl => match us, hl with | [_], _ => rfl⟩, T.cl_Table⟩
theorem sc_Table_forget : FnScope ["self"] ["self"] (defScope s_Table_forget) := ⟨rfl, rfl, rfl, by decide +kernel, rfl, by decide +kernel, by decide +kernel⟩
theorem ok_Table_forget {f : Addr} {fd : FuncData} (F : Fun W.K "forget" "Table.forget" s_Table_forget f fd) (M : Meth W.K (W.cls 16) "forget" f) (T : Txt W mg)  : Mt P w W mg base 16 "forget" (1) 1 (funD 1 d_Table_forget) :=
  ⟨⟨f, fd, ["self"], fnE F sc_Table_forget rfl rfl fun cdv A outer sh H E hr => db_cons (ds_expr (de_mt0 PySem.F.plainAttrs_list PySem.F.slot_list_pop PySem.F.type_list_pop (dm_pop) (de_fld rfl (dv 0) T.cl_Table T.na_Table_deeds) (fun a b => pe_bm0 PySem.F.plainAttrs_list PySem.F.slot_list_pop PySem.F.type_list_pop a b))) (db_one (ds_expr (de_mt0 PySem.F.plainAttrs_list PySem.F.slot_list_pop PySem.F.type_list_pop (dm_pop) (de_fld rfl (dv 0) T.cl_Table T.na_Table_lasting) (fun a b => pe_bm0 PySem.F.plainAttrs_list PySem.F.slot_list_pop PySem.F.type_list_pop a b)))), M, F.binds (ps := ["self"]) fun _ _ _ _ _ _ us hl => match us, hl with | [_], _ => rfl⟩, T.cl_Table⟩
theorem sc_Table_go_on : FnScope ["self", "hand", "some", "mark"] ["self"] (defScope s_Table_go_on) := ⟨rfl, rfl, rfl, by decide +kernel, rfl, by decide +kernel, by decide +kernel⟩
theorem ok_Table_go_on {m_Table_number_of m_Table_is_there : FV} {f : Addr} {fd : FuncData} (F : Fun W.K "go_on" "Table.go_on" s_Table_go_on f fd) (M : Meth W.K (W.cls 16) "go_on" f) (T : Txt W mg) (c_Table_number_of : Mt P w W mg base 16 "number_of" 1 2 m_Table_number_of) (c_Table_is_there : Mt P w W mg base 16 "is_there" 1 2 m_Table_is_there) : Mt P w W mg base 16 "go_on" (2) 1 (funD 4 (d_Table_go_on m_Table_number_of m_Table_is_there)) :=
  ⟨⟨f, fd, ["self"], fnE F sc_Table_go_on rfl rfl fun cdv A outer sh H E hr => db_one (ds_for passF rfl (di_r1 (by rfl) T.b_range (da_cons (de_callB dc_len (by rfl) T.b_len (by decide +kernel) (da_cons (de_fld rfl (dv 0) T.cl_Table T.na_Table_stood) (da_nil)) (fun a b => pe_callB a (by rfl) T.b_len (by decide +kernel) b)) (da_nil))) (dg_name sc_Table_go_on.nd rfl (by first | exact Or.inl rfl | exact Or.inr rfl)) (db_cons (ds_setLc false rfl sc_Table_go_on.nd rfl rfl (sw_true rfl rfl rfl (by decide +kernel)) (di_seq (de_sl false rfl (de_fld rfl (dv 0) T.cl_Table T.na_Table_marks) (dp_some (dmeth c_Table_number_of (dv 0) hr passD (da_cons (dv 1) (da_nil)))) (dp_none))) (by exact blkOk_by (N := ["self", "hand", "some", "mark"]) (sc := defScope s_Table_go_on) (own := [("mark", 3)]) (by decide +kernel)) rfl (by decide) (fun _ _ _ _ _ => tg_one sc_Table_go_on.nd rfl (by first | exact Or.inl rfl | exact Or.inr rfl)) (fun _ _ _ _ _ => dts_one (dt_val (dmeth c_Table_is_there (dv 0) hr passL (da_cons (dv 3) (da_nil))))) (fun _ _ _ _ _ => de_fld rfl (dv 3) T.cl_Mark T.na_Mark_name)) (db_one (ds_asg (de_if (dt_cmp (dop_ne rfl hr.units) (dv 2) (de_lst false (da_nil)) (nomark _)) (de_ix rfl (dv 2) (de_int) (fun _ _ => rfl)) (de_non)) (dg_sub (de_fld rfl (dv 0) T.cl_Table T.na_Table_stood) (dv 1) dset_list))))), M, F.binds (ps := ["self"]) fun _ _ _ _ _ _ us hl => match us, hl with | [_], _ => rfl⟩, T.cl_Table⟩
theorem sc_Table_rub : FnScope ["self", "hand", "some"] ["self", "hand"] (defScope s_Table_rub) := ⟨rfl, rfl, rfl, by decide +kernel, rfl, by decide +kernel, by decide +kernel⟩
theorem ok_Table_rub {m_Table_need_hand m_Table_ahead m_Table_note m_Table_is_page m_Table_forget m_Table_go_on : FV} {f : Addr} {fd : FuncData} (F : Fun W.K "rub" "Table.rub" s_Table_rub f fd) (M : Meth W.K (W.cls 16) "rub" f) (T : Txt W mg) (c_Table_need_hand : Mt P w W mg base 16 "need_hand" 2 2 m_Table_need_hand) (c_Table_ahead : Mt P w W mg base 16 "ahead" 2 2 m_Table_ahead) (c_Table_note : Mt P w W mg base 16 "note" 1 3 m_Table_note) (c_Table_is_page : Mt P w W mg base 16 "is_page" 4 1 m_Table_is_page) (c_Table_forget : Mt P w W mg base 16 "forget" 1 1 m_Table_forget) (c_Table_go_on : Mt P w W mg base 16 "go_on" 2 1 m_Table_go_on) : Mt P w W mg base 16 "rub" (5) 2 (funD 3 (d_Table_rub m_Table_need_hand m_Table_ahead m_Table_note m_Table_is_page m_Table_forget m_Table_go_on)) :=
  ⟨⟨f, fd, ["self", "hand"], fnE F sc_Table_rub rfl rfl fun cdv A outer sh H E hr => db_cons (ds_expr (dmeth c_Table_need_hand (dv 0) hr passD (da_cons (dv 1) (da_nil)))) (db_cons (ds_set sc_Table_rub.nd rfl (by first | exact Or.inl rfl | exact Or.inr rfl) (dmeth c_Table_ahead (dv 0) hr passD (da_cons (dv 1) (da_nil)))) (db_cons (ds_if (dt_cmp (dop_eqNil rfl hr.units) (dv 2) (de_lst false (da_nil)) (nomark _)) (db_one (ds_raise rfl rfl takesD T.ex_BadCell (by rfl))) (db_nil)) (db_cons (ds_expr (de_mt PySem.F.plainAttrs_list PySem.F.slot_list_append PySem.F.type_list_append (dm_append) (de_fld rfl (de_ix rfl (dv 2) (de_neg (de_int)) (fun _ _ => rfl)) T.cl_Mark T.na_Mark_cuts) (da_cons (de_callB dc_len (by rfl) T.b_len (by decide +kernel) (da_cons (de_fld rfl (dv 0) T.cl_Table T.na_Table_deeds) (da_nil)) (fun a b => pe_callB a (by rfl) T.b_len (by decide +kernel) b)) (da_nil)) (fun a b c => pe_bm PySem.F.plainAttrs_list PySem.F.slot_list_append PySem.F.type_list_append a b c))) (db_cons (ds_expr (dmeth c_Table_note (dv 0) hr passD (da_cons (dv 1) (da_cons (de_str (by decide +kernel) (by decide +kernel)) (da_nil))))) (db_cons (ds_if (dt_not (dt_val (dmeth0 c_Table_is_page (dv 0) hr passD))) (db_cons (ds_expr (de_mt0 PySem.F.plainAttrs_list PySem.F.slot_list_pop PySem.F.type_list_pop (dm_pop) (de_fld rfl (de_ix rfl (dv 2) (de_neg (de_int)) (fun _ _ => rfl)) T.cl_Mark T.na_Mark_cuts) (fun a b => pe_bm0 PySem.F.plainAttrs_list PySem.F.slot_list_pop PySem.F.type_list_pop a b))) (db_cons (ds_expr (dmeth0 c_Table_forget (dv 0) hr passD)) (db_one (ds_raise rfl rfl takesD T.ex_TooMuch (by rfl))))) (db_nil)) (db_cons (ds_asg (de_lst true (da_nil)) (dg_sub (de_fld rfl (dv 0) T.cl_Table T.na_Table_undone) (dv 1) dset_list)) (db_one (ds_expr (dmeth0 c_Table_go_on (dv 0) hr passD))))))))), M, F.binds (ps := ["self", "hand"]) fun _ _ _ _ _ _ us hl => match us, hl with | [_, _], _ => rfl⟩, T.cl_Table⟩
theorem sc_Table_turn : FnScope ["self", "number", "stands"] ["self", "number", "stands"] (defScope s_Table_turn) := ⟨rfl, rfl, rfl, by decide +kernel, rfl, by decide +kernel, by decide +kernel⟩
theorem ok_Table_turn {m_Table_is_page m_Table_go_on : FV} {f : Addr} {fd : FuncData} (F : Fun W.K "turn" "Table.turn" s_Table_turn f fd) (M : Meth W.K (W.cls 16) "turn" f) (T : Txt W mg) (c_Table_is_page : Mt P w W mg base 16 "is_page" 4 1 m_Table_is_page) (c_Table_go_on : Mt P w W mg base 16 "go_on" 2 1 m_Table_go_on) : Mt P w W mg base 16 "turn" (5) 3 (funD 3 (d_Table_turn m_Table_is_page m_Table_go_on)) :=
  ⟨⟨f, fd, ["self", "number", "stands"], fnE F sc_Table_turn rfl rfl fun cdv A outer sh H E hr => db_cons (ds_asg (dv 2) (dg_sub (de_fld rfl (dv 0) T.cl_Table T.na_Table_lasting) (dv 1) dset_list)) (db_cons (ds_if (dt_not (dt_val (dmeth0 c_Table_is_page (dv 0) hr passD))) (db_cons (ds_asg (de_not (dv 2)) (dg_sub (de_fld rfl (dv 0) T.cl_Table T.na_Table_lasting) (dv 1) dset_list)) (db_one (ds_raise rfl rfl takesD T.ex_TooMuch (by rfl)))) (db_nil)) (db_one (ds_expr (dmeth0 c_Table_go_on (dv 0) hr passD)))), M, F.binds (ps := ["self", "number", "stands"]) fun _ _ _ _ _ _ us hl => match us, hl with | [_, _, _], _ => rfl⟩, T.cl_Table⟩
theorem sc_Table_back : FnScope ["self", "hand", "mine", "number", "deed"] ["self", "hand"] (defScope s_Table_back) := ⟨rfl, rfl, rfl, by decide +kernel, rfl, by decide +kernel, by decide +kernel⟩
theorem ok_Table_back {m_Table_need_hand m_Table_turn : FV} {f : Addr} {fd : FuncData} (F : Fun W.K "back" "Table.back" s_Table_back f fd) (M : Meth W.K (W.cls 16) "back" f) (T : Txt W mg) (c_Table_need_hand : Mt P w W mg base 16 "need_hand" 2 2 m_Table_need_hand) (c_Table_turn : Mt P w W mg base 16 "turn" 5 3 m_Table_turn) : Mt P w W mg base 16 "back" (6) 2 (funD 5 (d_Table_back m_Table_need_hand m_Table_turn)) :=
  ⟨⟨f, fd, ["self", "hand"], fnE F sc_Table_back rfl rfl fun cdv A outer sh H E hr => db_cons (ds_expr (dmeth c_Table_need_hand (dv 0) hr passD (da_cons (dv 1) (da_nil)))) (db_cons (ds_setLc false rfl sc_Table_back.nd rfl rfl (sw_true rfl rfl rfl (by decide +kernel)) (di_enum (by rfl) T.b_enumerate (da_cons (de_fld rfl (dv 0) T.cl_Table T.na_Table_deeds) (da_nil))) (by exact blkOk_by (N := ["self", "hand", "mine", "number", "deed"]) (sc := defScope s_Table_back) (own := [("number", 3), ("deed", 4)]) (by decide +kernel)) rfl (by decide) (fun _ _ _ _ _ => tg_two rfl (pg_name sc_Table_back.nd rfl (by first | exact Or.inl rfl | exact Or.inr rfl)) (pg_name sc_Table_back.nd rfl (by first | exact Or.inl rfl | exact Or.inr rfl))) (fun _ _ _ _ _ => dts_one (dt_w (dw_and (dt_cmp (dop_eq rfl hr.units) (de_ix rfl (dv 4) (de_int) (fun _ _ => rfl)) (dv 1) (nomark _)) (dw_and1 (dt_val (de_ix rfl (de_fld rfl (dv 0) T.cl_Table T.na_Table_lasting) (dv 3) (fun _ _ => rfl))))))) (fun _ _ _ _ _ => dv 3)) (db_cons (ds_if (dt_cmp (dop_eq rfl hr.units) (dv 2) (de_lst false (da_nil)) (nomark _)) (db_one (ds_ret (de_bl))) (db_nil)) (db_cons (ds_expr (dmeth c_Table_turn (dv 0) hr passD (da_cons (de_ix rfl (dv 2) (de_neg (de_int)) (fun _ _ => rfl)) (da_cons (de_bl) (da_nil))))) (db_cons (ds_expr (de_mt PySem.F.plainAttrs_list PySem.F.slot_list_append PySem.F.type_list_append (dm_append) (de_ix rfl (de_fld rfl (dv 0) T.cl_Table T.na_Table_undone) (dv 1) (fun _ _ => rfl)) (da_cons (de_ix rfl (dv 2) (de_neg (de_int)) (fun _ _ => rfl)) (da_nil)) (fun a b c => pe_bm PySem.F.plainAttrs_list PySem.F.slot_list_append PySem.F.type_list_append a b c))) (db_one (ds_ret (de_bl))))))), M, F.binds (ps := ["self", "hand"]) fun _ _ _ _ _ _ us hl => match us, hl with | [_, _], _ => rfl⟩, T.cl_Table⟩
theorem sc_Table_again : FnScope ["self", "hand"] ["self", "hand"] (defScope s_Table_again) := ⟨rfl, rfl, rfl, by decide +kernel, rfl, by decide +kernel, by decide +kernel⟩
theorem ok_Table_again {m_Table_need_hand m_Table_turn : FV} {f : Addr} {fd : FuncData} (F : Fun W.K "again" "Table.again" s_Table_again f fd) (M : Meth W.K (W.cls 16) "again" f) (T : Txt W mg) (c_Table_need_hand : Mt P w W mg base 16 "need_hand" 2 2 m_Table_need_hand) (c_Table_turn : Mt P w W mg base 16 "turn" 5 3 m_Table_turn) : Mt P w W mg base 16 "again" (6) 2 (funD 2 (d_Table_again_k32 m_Table_need_hand m_Table_turn)) :=
  ⟨⟨f, fd, ["self", "hand"], fnE F sc_Table_again rfl rfl fun cdv A outer sh H E hr => db_cons (ds_expr (dmeth c_Table_need_hand (dv 0) hr passD (da_cons (dv 1) (da_nil)))) (db_cons (ds_if (dt_cmp (dop_eq rfl hr.units) (de_ix rfl (de_fld rfl (dv 0) T.cl_Table T.na_Table_undone) (dv 1) (fun _ _ => rfl)) (de_lst false (da_nil)) (nomark _)) (db_one (ds_ret (de_bl))) (db_nil)) (db_cons (ds_expr (dmeth c_Table_turn (dv 0) hr passD (da_cons (de_ix rfl (de_ix rfl (de_fld rfl (dv 0) T.cl_Table T.na_Table_undone) (dv 1) (fun _ _ => rfl)) (de_neg (de_int)) (fun _ _ => rfl)) (da_cons (de_bl) (da_nil))))) (db_cons (ds_expr (de_mt0 PySem.F.plainAttrs_list PySem.F.slot_list_pop PySem.F.type_list_pop (dm_pop) (de_ix rfl (de_fld rfl (dv 0) T.cl_Table T.na_Table_undone) (dv 1) (fun _ _ => rfl)) (fun a b => pe_bm0 PySem.F.plainAttrs_list PySem.F.slot_list_pop PySem.F.type_list_pop a b))) (db_one (ds_ret (de_bl)))))), M, F.binds (ps := ["self", "hand"]) fun _ _ _ _ _ _ us hl => match us, hl with | [_, _], _ => rfl⟩, T.cl_Table⟩
theorem sc_law_alike : FnScope ["_law_found", "_law_due_here", "_law_k"] ["_law_found", "_law_due_here"] (defScope s_law_alike) := ⟨rfl, rfl, rfl, by decide +kernel, rfl, by decide +kernel, by decide +kernel⟩
theorem ok_law_alike {j : Nat} {rec_ : FV} {f : Addr} {fd : FuncData} (F : Fun W.K "_law_alike" "_law_alike" s_law_alike f fd) (m : mg "_law_alike" = some (.ref f)) (T : Txt W mg) (c_law_alike : Fn P w W mg base "_law_alike" j 2 rec_) : Fn P w W mg base "_law_alike" (j + 1) 2 (funD 3 (d_law_alike rec_)) :=
  ⟨f, fd, ["_law_found", "_law_due_here"], fnE F sc_law_alike rfl rfl fun cdv A outer sh H E hr => db_cons (ds_if (dt_cmp dop_is (dv 1) (de_non) (nomark _)) (db_one (ds_ret (de_cmp dop_is (dv 0) (de_non) (nomark _)))) (db_nil)) (db_cons (ds_if (dt_val (de_isinst (by simp) (dv 1) (pe_bltn (by rfl) T.b_bool (by decide +kernel) rfl) (fun a b => pe_callB a (by rfl) T.b_isinstance (by decide +kernel) b) (fun p => pa_cons p (pa_cons (pe_bltn (by rfl) T.b_bool (by decide +kernel) rfl) pa_nil)))) (db_one (ds_ret (de_and (de_isinst (by simp) (dv 0) (pe_bltn (by rfl) T.b_bool (by decide +kernel) rfl) (fun a b => pe_callB a (by rfl) T.b_isinstance (by decide +kernel) b) (fun p => pa_cons p (pa_cons (pe_bltn (by rfl) T.b_bool (by decide +kernel) rfl) pa_nil))) (de_one (de_cmp (dop_eq rfl hr.units) (dv 0) (dv 1) (nomark _)))))) (db_nil)) (db_cons (ds_if (dt_val (de_isinst (by simp) (dv 1) (pe_bltn (by rfl) T.b_int (by decide +kernel) rfl) (fun a b => pe_callB a (by rfl) T.b_isinstance (by decide +kernel) b) (fun p => pa_cons p (pa_cons (pe_bltn (by rfl) T.b_int (by decide +kernel) rfl) pa_nil)))) (db_one (ds_ret (de_and (de_isinst (by simp) (dv 0) (pe_bltn (by rfl) T.b_int (by decide +kernel) rfl) (fun a b => pe_callB a (by rfl) T.b_isinstance (by decide +kernel) b) (fun p => pa_cons p (pa_cons (pe_bltn (by rfl) T.b_int (by decide +kernel) rfl) pa_nil))) (de_and (de_not (de_isinst (by simp) (dv 0) (pe_bltn (by rfl) T.b_bool (by decide +kernel) rfl) (fun a b => pe_callB a (by rfl) T.b_isinstance (by decide +kernel) b) (fun p => pa_cons p (pa_cons (pe_bltn (by rfl) T.b_bool (by decide +kernel) rfl) pa_nil)))) (de_one (de_cmp (dop_eq rfl hr.units) (dv 0) (dv 1) (nomark _))))))) (db_nil)) (db_cons (ds_if (dt_val (de_isinst (by simp) (dv 1) (pe_bltn (by rfl) T.b_str (by decide +kernel) rfl) (fun a b => pe_callB a (by rfl) T.b_isinstance (by decide +kernel) b) (fun p => pa_cons p (pa_cons (pe_bltn (by rfl) T.b_str (by decide +kernel) rfl) pa_nil)))) (db_one (ds_ret (de_and (de_isinst (by simp) (dv 0) (pe_bltn (by rfl) T.b_str (by decide +kernel) rfl) (fun a b => pe_callB a (by rfl) T.b_isinstance (by decide +kernel) b) (fun p => pa_cons p (pa_cons (pe_bltn (by rfl) T.b_str (by decide +kernel) rfl) pa_nil))) (de_one (de_cmp (dop_eq rfl hr.units) (dv 0) (dv 1) (nomark _)))))) (db_nil)) (db_cons (ds_if (dt_w (dw_or (dt_cmp (dop_ne rfl hr.units) (de_isinst (by simp) (dv 1) (pe_bltn (by rfl) T.b_tuple (by decide +kernel) rfl) (fun a b => pe_callB a (by rfl) T.b_isinstance (by decide +kernel) b) (fun p => pa_cons p (pa_cons (pe_bltn (by rfl) T.b_tuple (by decide +kernel) rfl) pa_nil))) (de_isinst (by simp) (dv 0) (pe_bltn (by rfl) T.b_tuple (by decide +kernel) rfl) (fun a b => pe_callB a (by rfl) T.b_isinstance (by decide +kernel) b) (fun p => pa_cons p (pa_cons (pe_bltn (by rfl) T.b_tuple (by decide +kernel) rfl) pa_nil))) (nomark _)) (dw_or1 (dt_cmp (dop_ne rfl hr.units) (de_isinst (by simp) (dv 1) (pe_bltn (by rfl) T.b_list (by decide +kernel) rfl) (fun a b => pe_callB a (by rfl) T.b_isinstance (by decide +kernel) b) (fun p => pa_cons p (pa_cons (pe_bltn (by rfl) T.b_list (by decide +kernel) rfl) pa_nil))) (de_isinst (by simp) (dv 0) (pe_bltn (by rfl) T.b_list (by decide +kernel) rfl) (fun a b => pe_callB a (by rfl) T.b_isinstance (by decide +kernel) b) (fun p => pa_cons p (pa_cons (pe_bltn (by rfl) T.b_list (by decide +kernel) rfl) pa_nil))) (nomark _))))) (db_one (ds_ret (de_bl))) (db_nil)) (db_cons (ds_if (dt_cmp (dop_ne rfl hr.units) (de_callB dc_len (by rfl) T.b_len (by decide +kernel) (da_cons (dv 0) (da_nil)) (fun a b => pe_callB a (by rfl) T.b_len (by decide +kernel) b)) (de_callB dc_len (by rfl) T.b_len (by decide +kernel) (da_cons (dv 1) (da_nil)) (fun a b => pe_callB a (by rfl) T.b_len (by decide +kernel) b)) (nomark _)) (db_one (ds_ret (de_bl))) (db_nil)) (db_cons (ds_for passF rfl (di_r1 (by rfl) T.b_range (da_cons (de_callB dc_len (by rfl) T.b_len (by decide +kernel) (da_cons (dv 1) (da_nil)) (fun a b => pe_callB a (by rfl) T.b_len (by decide +kernel) b)) (da_nil))) (dg_name sc_law_alike.nd rfl (by first | exact Or.inl rfl | exact Or.inr rfl)) (db_one (ds_if (dt_not (dt_val (dcallR c_law_alike hr passD (da_cons (de_ix rfl (dv 0) (dv 2) (fun _ _ => rfl)) (da_cons (de_ix rfl (dv 1) (dv 2) (fun _ _ => rfl)) (da_nil)))))) (db_one (ds_ret (de_bl))) (db_nil)))) (db_one (ds_ret (de_bl))))))))), m, F.kp, F.binds (ps := ["_law_found", "_law_due_here"]) fun _ _ _ _ _ _ us hl => match us, hl with | [_, _], _ => rfl⟩
theorem rec_law_alike {f : Addr} {fd : FuncData} (F : Fun W.K "_law_alike" "_law_alike" s_law_alike f fd) (m : mg "_law_alike" = some (.ref f)) (T : Txt W mg) : ∀ n, Fn P w W mg base "_law_alike" n 2 (l_law_alike n)
  | 0 => fn_bad m F.kp (F.binds (ps := ["_law_found", "_law_due_here"]) fun _ _ _ _ _ _ us hl => match us, hl with | [_, _], _ => rfl)
  | n + 1 => ok_law_alike F m T (rec_law_alike F m T n)
theorem sc_law_due : FnScope ["_law_t", "_law_hand", "_law_way", "_law_mine", "_law_is_there", "_law_some", "_law_later", "_law_k", "_law_rub"] ["_law_t", "_law_hand", "_law_way"] (defScope s_law_due) := ⟨rfl, rfl, rfl, by decide +kernel, rfl, by decide +kernel, by decide +kernel⟩
theorem ok_law_due {f : Addr} {fd : FuncData} (F : Fun W.K "_law_due" "_law_due" s_law_due f fd) (m : mg "_law_due" = some (.ref f)) (T : Txt W mg)  : Fn P w W mg base "_law_due" (1) 3 (funD 9 d_law_due_k37) :=
  ⟨f, fd, ["_law_t", "_law_hand", "_law_way"], fnE F sc_law_due rfl rfl fun cdv A outer sh H E hr => db_cons (ds_setLc false rfl sc_law_due.nd rfl rfl (sw_true rfl rfl rfl (by decide +kernel)) (di_r1 (by rfl) T.b_range (da_cons (de_callB dc_len (by rfl) T.b_len (by decide +kernel) (da_cons (de_dget (Dl.hu_of hr) (dv 0) (de_str (by decide +kernel) (by decide +kernel)) (fun _ _ => rfl)) (da_nil)) (fun a b => pe_callB a (by rfl) T.b_len (by decide +kernel) b)) (da_nil))) (by exact blkOk_by (N := ["_law_t", "_law_hand", "_law_way", "_law_mine", "_law_is_there", "_law_some", "_law_later", "_law_k", "_law_rub"]) (sc := defScope s_law_due) (own := [("_law_k", 7)]) (by decide +kernel)) rfl (by decide) (fun _ _ _ _ _ => tg_one sc_law_due.nd rfl (by first | exact Or.inl rfl | exact Or.inr rfl)) (fun _ _ _ _ _ => dts_one (dt_cmp (dop_eq rfl hr.units) (de_ix rfl (de_dget (Dl.hu_of hr) (dv 0) (de_str (by decide +kernel) (by decide +kernel)) (fun _ _ => rfl)) (dv 7) (fun _ _ => rfl)) (de_lst false (da_cons (dv 1) (da_cons (de_bl) (da_nil)))) (nomark _))) (fun _ _ _ _ _ => dv 7)) (db_cons (ds_set sc_law_due.nd rfl (by first | exact Or.inl rfl | exact Or.inr rfl) (de_cmp (dop_eqNil rfl hr.units) (de_lc false rfl sc_law_due.nd (di_seq (de_dget (Dl.hu_of hr) (dv 0) (de_str (by decide +kernel) (by decide +kernel)) (fun _ _ => rfl))) (by exact blkOk_by (N := ["_law_t", "_law_hand", "_law_way", "_law_mine", "_law_is_there", "_law_some", "_law_later", "_law_k", "_law_rub"]) (sc := defScope s_law_due) (own := [("_law_rub", 8)]) (by decide +kernel)) rfl (by decide) (fun _ _ _ _ _ => tg_one sc_law_due.nd rfl (by first | exact Or.inl rfl | exact Or.inr rfl)) (fun _ _ _ _ _ => dts_one (dt_val (de_ix rfl (dv 8) (de_int) (fun _ _ => rfl)))) (fun _ _ _ _ _ => dv 8)) (de_lst false (da_nil)) (nomark _))) (db_cons (ds_if (dt_cmp (dop_eq rfl hr.units) (dv 2) (de_str (by decide +kernel) (by decide +kernel)) (nomark _)) (db_cons (ds_if (dt_not (dt_val (dv 4))) (db_one (ds_ret (de_str (by decide +kernel) (by decide +kernel)))) (db_nil)) (db_cons (ds_expr (de_mt PySem.F.plainAttrs_list PySem.F.slot_list_append PySem.F.type_list_append (dm_append) (de_dget (Dl.hu_of hr) (dv 0) (de_str (by decide +kernel) (by decide +kernel)) (fun _ _ => rfl)) (da_cons (de_lst true (da_cons (dv 1) (da_cons (de_bl) (da_nil)))) (da_nil)) (fun a b c => pe_bm PySem.F.plainAttrs_list PySem.F.slot_list_append PySem.F.type_list_append a b c))) (db_cons (ds_asg (de_lst false (da_nil)) (dg_sub (de_dget (Dl.hu_of hr) (dv 0) (de_str (by decide +kernel) (by decide +kernel)) (fun _ _ => rfl)) (dv 1) dset_list)) (db_one (ds_ret (de_non)))))) (db_nil)) (db_cons (ds_set sc_law_due.nd rfl (by first | exact Or.inl rfl | exact Or.inr rfl) (de_if (dt_cmp (dop_eq rfl hr.units) (dv 2) (de_str (by decide +kernel) (by decide +kernel)) (nomark _)) (dv 3) (de_ix rfl (de_dget (Dl.hu_of hr) (dv 0) (de_str (by decide +kernel) (by decide +kernel)) (fun _ _ => rfl)) (dv 1) (fun _ _ => rfl)))) (db_cons (ds_if (dt_cmp (dop_eqNil rfl hr.units) (dv 5) (de_lst false (da_nil)) (nomark _)) (db_one (ds_ret (de_bl))) (db_nil)) (db_cons (ds_asg (de_cmp (dop_eq rfl hr.units) (dv 2) (de_str (by decide +kernel) (by decide +kernel)) (nomark _)) (dg_sub (de_ix rfl (de_dget (Dl.hu_of hr) (dv 0) (de_str (by decide +kernel) (by decide +kernel)) (fun _ _ => rfl)) (de_ix rfl (dv 5) (de_neg (de_int)) (fun _ _ => rfl)) (fun _ _ => rfl)) (de_int) dset_list)) (db_cons (ds_set sc_law_due.nd rfl (by first | exact Or.inl rfl | exact Or.inr rfl) (de_sl false rfl (dv 5) (dp_none) (dp_some (de_neg (de_int))))) (db_cons (ds_if (dt_cmp (dop_eq rfl hr.units) (dv 2) (de_str (by decide +kernel) (by decide +kernel)) (nomark _)) (db_one (ds_set sc_law_due.nd rfl (by first | exact Or.inl rfl | exact Or.inr rfl) (de_op (dop_add false) (de_ix rfl (de_dget (Dl.hu_of hr) (dv 0) (de_str (by decide +kernel) (by decide +kernel)) (fun _ _ => rfl)) (dv 1) (fun _ _ => rfl)) (de_lst false (da_cons (de_ix rfl (dv 5) (de_neg (de_int)) (fun _ _ => rfl)) (da_nil)))))) (db_nil)) (db_cons (ds_asg (dv 6) (dg_sub (de_dget (Dl.hu_of hr) (dv 0) (de_str (by decide +kernel) (by decide +kernel)) (fun _ _ => rfl)) (dv 1) dset_list)) (db_one (ds_ret (de_bl))))))))))), m, F.kp, F.binds (ps := ["_law_t", "_law_hand", "_law_way"]) fun _ _ _ _ _ _ us hl => match us, hl with | [_, _, _], _ => rfl⟩
theorem sc_Table_page : FnScope ["self"] ["self"] (defScope s_Table_page) := ⟨rfl, rfl, rfl, by decide +kernel, rfl, by decide +kernel, by decide +kernel⟩
theorem ok_Table_page {m_Table_lines : FV} {f : Addr} {fd : FuncData} (F : Fun W.K "page" "Table.page" s_Table_page f fd) (M : Meth W.K (W.cls 16) "page" f) (T : Txt W mg) (c_Table_lines : Mt P w W mg base 16 "lines" 2 1 m_Table_lines) : Mt P w W mg base 16 "page" (3) 1 (funD 1 (d_Table_page m_Table_lines)) :=
  ⟨⟨f, fd, ["self"], fnE F sc_Table_page rfl rfl fun cdv A outer sh H E hr => db_one (ds_ret (dmeth0 c_Table_lines (dv 0) hr passD)), M, F.binds (ps := ["self"]) fun _ _ _ _ _ _ us hl => match us, hl with | [_], _ => rfl⟩, T.cl_Table⟩
theorem sc_Table_at : FnScope ["self", "hand", "lines", "cells", "mark"] ["self", "hand"] (defScope s_Table_at) := ⟨rfl, rfl, rfl, by decide +kernel, rfl, by decide +kernel, by decide +kernel⟩
theorem ok_Table_at {m_Table_need_hand m_Table_ahead : FV} {f : Addr} {fd : FuncData} (F : Fun W.K "at" "Table.at" s_Table_at f fd) (M : Meth W.K (W.cls 16) "at" f) (T : Txt W mg) (c_Table_need_hand : Mt P w W mg base 16 "need_hand" 2 2 m_Table_need_hand) (c_Table_ahead : Mt P w W mg base 16 "ahead" 2 2 m_Table_ahead) : Mt P w W mg base 16 "at" (3) 2 (funD 5 (d_Table_at m_Table_need_hand m_Table_ahead)) :=
  ⟨⟨f, fd, ["self", "hand"], fnE F sc_Table_at rfl rfl fun cdv A outer sh H E hr => db_cons (ds_expr (dmeth c_Table_need_hand (dv 0) hr passD (da_cons (dv 1) (da_nil)))) (db_cons (ds_set sc_Table_at.nd rfl (by first | exact Or.inl rfl | exact Or.inr rfl) (de_mt PySem.F.plainAttrs_str PySem.F.slot_str_split PySem.F.type_str_split (dm_split false) (de_mt PySem.F.plainAttrs_str PySem.F.slot_str_join PySem.F.type_str_join (dm_join) (de_str (by decide +kernel) (by decide +kernel)) (da_cons (de_lc false rfl sc_Table_at.nd (di_seq (dmeth c_Table_ahead (dv 0) hr passD (da_cons (dv 1) (da_nil)))) (by exact blkOk_by (N := ["self", "hand", "lines", "cells", "mark"]) (sc := defScope s_Table_at) (own := [("mark", 4)]) (by decide +kernel)) rfl (by decide) (fun _ _ _ _ _ => tg_one sc_Table_at.nd rfl (by first | exact Or.inl rfl | exact Or.inr rfl)) (fun _ _ _ _ _ => dts_nil) (fun _ _ _ _ _ => de_fld rfl (dv 4) T.cl_Mark T.na_Mark_sign)) (da_nil)) (fun a b c => pe_bm PySem.F.plainAttrs_str PySem.F.slot_str_join PySem.F.type_str_join a b c)) (da_cons (de_globS rfl T.k_LINE.choose_spec (by decide +kernel) (by decide +kernel)) (da_nil)) (fun a b c => pe_bm PySem.F.plainAttrs_str PySem.F.slot_str_split PySem.F.type_str_split a b c))) (db_cons (ds_set sc_Table_at.nd rfl (by first | exact Or.inl rfl | exact Or.inr rfl) (de_mt PySem.F.plainAttrs_str PySem.F.slot_str_split PySem.F.type_str_split (dm_split false) (de_ix rfl (dv 2) (de_neg (de_int)) (fun _ _ => rfl)) (da_cons (de_globS rfl T.k_TAB.choose_spec (by decide +kernel) (by decide +kernel)) (da_nil)) (fun a b c => pe_bm PySem.F.plainAttrs_str PySem.F.slot_str_split PySem.F.type_str_split a b c))) (db_one (ds_ret (de_tup (da_cons (de_op dop_sub (de_callB dc_len (by rfl) T.b_len (by decide +kernel) (da_cons (dv 2) (da_nil)) (fun a b => pe_callB a (by rfl) T.b_len (by decide +kernel) b)) (de_int)) (da_cons (de_op dop_sub (de_callB dc_len (by rfl) T.b_len (by decide +kernel) (da_cons (dv 3) (da_nil)) (fun a b => pe_callB a (by rfl) T.b_len (by decide +kernel) b)) (de_int)) (da_cons (de_callB dc_len (by rfl) T.b_len (by decide +kernel) (da_cons (de_ix rfl (dv 3) (de_neg (de_int)) (fun _ _ => rfl)) (da_nil)) (fun a b => pe_callB a (by rfl) T.b_len (by decide +kernel) b)) (da_nil))))))))), M, F.binds (ps := ["self", "hand"]) fun _ _ _ _ _ _ us hl => match us, hl with | [_, _], _ => rfl⟩, T.cl_Table⟩
theorem sc_Table_told : FnScope ["self", "deed", "stands"] ["self"] (defScope s_Table_told) := ⟨rfl, rfl, rfl, by decide +kernel, rfl, by decide +kernel, by decide +kernel⟩
theorem ok_Table_told {f : Addr} {fd : FuncData} (F : Fun W.K "told" "Table.told" s_Table_told f fd) (M : Meth W.K (W.cls 16) "told" f) (T : Txt W mg)  : Mt P w W mg base 16 "told" (1) 1 (funD 3 d_Table_told) :=
  ⟨⟨f, fd, ["self"], fnE F sc_Table_told rfl rfl fun cdv A outer sh H E hr => db_one (ds_ret (de_lc true rfl sc_Table_told.nd (di_zip (by rfl) T.b_zip (da_cons (de_fld rfl (dv 0) T.cl_Table T.na_Table_deeds) (da_cons (de_fld rfl (dv 0) T.cl_Table T.na_Table_lasting) (da_nil)))) (by exact blkOk_by (N := ["self", "deed", "stands"]) (sc := defScope s_Table_told) (own := [("deed", 1), ("stands", 2)]) (by decide +kernel)) rfl (by decide) (fun _ _ _ _ _ => tg_two rfl (pg_name sc_Table_told.nd rfl (by first | exact Or.inl rfl | exact Or.inr rfl)) (pg_name sc_Table_told.nd rfl (by first | exact Or.inl rfl | exact Or.inr rfl))) (fun _ _ _ _ _ => dts_nil) (fun _ _ _ _ _ => de_op (dop_add false) (dv 1) (de_tup (da_cons (dv 2) (da_nil)))))), M, F.binds (ps := ["self"]) fun _ _ _ _ _ _ us hl => match us, hl with | [_], _ => rfl⟩, T.cl_Table⟩
theorem sc_need_page : FnScope ["page", "number", "row"] ["page"] (defScope s_need_page) := ⟨rfl, rfl, rfl, by decide +kernel, rfl, by decide +kernel, by decide +kernel⟩
theorem ok_need_page {m_is_row : FV} {f : Addr} {fd : FuncData} (F : Fun W.K "need_page" "need_page" s_need_page f fd) (m : mg "need_page" = some (.ref f)) (T : Txt W mg) (c_is_row : Fn P w W mg base "is_row" 3 1 m_is_row) : Fn P w W mg base "need_page" (4) 1 (funD 3 (d_need_page m_is_row)) :=
  ⟨f, fd, ["page"], fnE F sc_need_page rfl rfl fun cdv A outer sh H E hr => db_cons (ds_if (dt_w (dw_or (dt_not (dt_val (de_isinst (by simp) (dv 0) (pe_bltn (by rfl) T.b_list (by decide +kernel) rfl) (fun a b => pe_callB a (by rfl) T.b_isinstance (by decide +kernel) b) (fun p => pa_cons p (pa_cons (pe_bltn (by rfl) T.b_list (by decide +kernel) rfl) pa_nil))))) (dw_or1 (dt_cmp (dop_eq rfl hr.units) (dv 0) (de_lst false (da_nil)) (nomark _))))) (db_one (ds_bad)) (db_nil)) (db_one (ds_for passF rfl (di_enum (by rfl) T.b_enumerate (da_cons (dv 0) (da_nil))) (dg_tup rfl (dgs_cons (dg_name sc_need_page.nd rfl (by first | exact Or.inl rfl | exact Or.inr rfl)) (dgs_cons (dg_name sc_need_page.nd rfl (by first | exact Or.inl rfl | exact Or.inr rfl)) (dgs_nil)))) (db_one (ds_if (dt_w (dw_or (dt_cmp dop_ge (dv 1) (de_globI rfl T.k_MOST_ROWS.choose_spec) (nomark _)) (dw_or1 (dt_not (dt_val (dcall c_is_row hr passD (da_cons (dv 2) (da_nil)))))))) (db_one (ds_bad)) (db_nil))))), m, F.kp, F.binds (ps := ["page"]) fun _ _ _ _ _ _ us hl => match us, hl with | [_], _ => rfl⟩
theorem sc_need_style : FnScope ["style"] ["style"] (defScope s_need_style) := ⟨rfl, rfl, rfl, by decide +kernel, rfl, by decide +kernel, by decide +kernel⟩
theorem ok_need_style {m_is_number : FV} {f : Addr} {fd : FuncData} (F : Fun W.K "need_style" "need_style" s_need_style f fd) (m : mg "need_style" = some (.ref f)) (T : Txt W mg) (c_is_number : Fn P w W mg base "is_number" 1 3 m_is_number) : Fn P w W mg base "need_style" (2) 1 (funD 1 (d_need_style m_is_number)) :=
  ⟨f, fd, ["style"], fnE F sc_need_style rfl rfl fun cdv A outer sh H E hr => db_cons (ds_if (dt_w (dw_or (dt_not (dt_val (de_isinst (by simp) (dv 0) (pe_bltn (by rfl) T.b_tuple (by decide +kernel) rfl) (fun a b => pe_callB a (by rfl) T.b_isinstance (by decide +kernel) b) (fun p => pa_cons p (pa_cons (pe_bltn (by rfl) T.b_tuple (by decide +kernel) rfl) pa_nil))))) (dw_or1 (dt_cmp (dop_ne rfl hr.units) (de_callB dc_len (by rfl) T.b_len (by decide +kernel) (da_cons (dv 0) (da_nil)) (fun a b => pe_callB a (by rfl) T.b_len (by decide +kernel) b)) (de_int) (nomark _))))) (db_one (ds_bad)) (db_nil)) (db_one (ds_if (dt_w (dw_or (dt_not (dt_val (dcall c_is_number hr passD (da_cons (de_ix rfl (dv 0) (de_int) (fun _ _ => rfl)) (da_cons (de_int) (da_cons (de_globI rfl T.k_MOST_GAP.choose_spec) (da_nil))))))) (dw_or1 (dt_not (dt_val (dcall c_is_number hr passD (da_cons (de_ix rfl (dv 0) (de_int) (fun _ _ => rfl)) (da_cons (de_int) (da_cons (de_globI rfl T.k_MOST_LEAST.choose_spec) (da_nil)))))))))) (db_one (ds_bad)) (db_nil))), m, F.kp, F.binds (ps := ["style"]) fun _ _ _ _ _ _ us hl => match us, hl with | [_], _ => rfl⟩
theorem sc_written : FnScope ["page", "row"] ["page"] (defScope s_written) := ⟨rfl, rfl, rfl, by decide +kernel, rfl, by decide +kernel, by decide +kernel⟩
theorem ok_written {m_need_page : FV} {f : Addr} {fd : FuncData} (F : Fun W.K "written" "written" s_written f fd) (m : mg "written" = some (.ref f)) (T : Txt W mg) (c_need_page : Fn P w W mg base "need_page" 4 1 m_need_page) : Fn P w W mg base "written" (5) 1 (funD 2 (d_written m_need_page)) :=
  ⟨f, fd, ["page"], fnE F sc_written rfl rfl fun cdv A outer sh H E hr => db_cons (ds_expr (dcall c_need_page hr passD (da_cons (dv 0) (da_nil)))) (db_one (ds_ret (de_mt PySem.F.plainAttrs_str PySem.F.slot_str_join PySem.F.type_str_join (dm_join) (de_str (by decide +kernel) (by decide +kernel)) (da_cons (de_lc false rfl sc_written.nd (di_seq (dv 0)) (by exact blkOk_by (N := ["page", "row"]) (sc := defScope s_written) (own := [("row", 1)]) (by decide +kernel)) rfl (by decide) (fun _ _ _ _ _ => tg_one sc_written.nd rfl (by first | exact Or.inl rfl | exact Or.inr rfl)) (fun _ _ _ _ _ => dts_nil) (fun _ _ _ _ _ => de_mt PySem.F.plainAttrs_str PySem.F.slot_str_join PySem.F.type_str_join (dm_join) (de_globS rfl T.k_TAB.choose_spec (by decide +kernel) (by decide +kernel)) (da_cons (de_callTy (dc_list false) (by rfl) T.b_list (by decide +kernel) (da_cons (dv 1) (da_nil)) (fun a b => pe_callTy a (by rfl) T.b_list (by decide +kernel) b)) (da_nil)) (fun a b c => pe_bm PySem.F.plainAttrs_str PySem.F.slot_str_join PySem.F.type_str_join a b c))) (da_nil)) (fun a b c => pe_bm PySem.F.plainAttrs_str PySem.F.slot_str_join PySem.F.type_str_join a b c)))), m, F.kp, F.binds (ps := ["page"]) fun _ _ _ _ _ _ us hl => match us, hl with | [_], _ => rfl⟩
theorem sc_Mark_init : FnScope ["self", "name", "sign", "born"] ["self", "name", "sign", "born"] (defScope s_Mark_init) := ⟨rfl, rfl, rfl, by decide +kernel, rfl, by decide +kernel, by decide +kernel⟩
theorem ok_Mark_init {f : Addr} {fd : FuncData} (F : Fun W.K "__init__" "Mark.__init__" s_Mark_init f fd) (M : Mk W.K (W.cls 15) f) (m : mg "Mark" = some (.ref (W.cls 15))) (T : Txt W mg)  : Nw P w W mg base "Mark" 15 (1) 4 (funD 4 d_Mark_init) :=
  ⟨f, fd, ["self", "name", "sign", "born"], fnE F sc_Mark_init rfl rfl fun cdv A outer sh H E hr => db_cons (ds_fld rfl (dv 0) (dv 1) T.cl_Mark T.na_Mark_name) (db_cons (ds_fld rfl (dv 0) (dv 2) T.cl_Mark T.na_Mark_sign) (db_cons (ds_fld rfl (dv 0) (dv 3) T.cl_Mark T.na_Mark_born) (db_one (ds_fld rfl (dv 0) (de_lst true (da_nil)) T.cl_Mark T.na_Mark_cuts)))), M, m, F.binds (ps := ["self", "name", "sign", "born"]) fun _ _ _ _ _ _ us hl => match us, hl with | [_, _, _, _], _ => rfl⟩
theorem sc_Table_init : FnScope ["self", "page", "style", "hands", "name", "sign", "hand"] ["self", "page", "style", "hands"] (defScope s_Table_init) := ⟨rfl, rfl, rfl, by decide +kernel, rfl, by decide +kernel, by decide +kernel⟩
theorem ok_Table_init {m_need_page m_need_style m_is_number m_written m_Mark_init : FV} {f : Addr} {fd : FuncData} (F : Fun W.K "__init__" "Table.__init__" s_Table_init f fd) (M : Mk W.K (W.cls 16) f) (m : mg "Table" = some (.ref (W.cls 16))) (T : Txt W mg) (c_need_page : Fn P w W mg base "need_page" 4 1 m_need_page) (c_need_style : Fn P w W mg base "need_style" 2 1 m_need_style) (c_is_number : Fn P w W mg base "is_number" 1 3 m_is_number) (c_written : Fn P w W mg base "written" 5 1 m_written) (n_Mark : Nw P w W mg base "Mark" 15 1 4 m_Mark_init) : Nw P w W mg base "Table" 16 (6) 4 (funD 7 (d_Table_init m_need_page m_need_style m_is_number m_written m_Mark_init)) :=
  ⟨f, fd, ["self", "page", "style", "hands"], fnE F sc_Table_init rfl rfl fun cdv A outer sh H E hr => db_cons (ds_expr (dcall c_need_page hr passD (da_cons (dv 1) (da_nil)))) (db_cons (ds_expr (dcall c_need_style hr passD (da_cons (dv 2) (da_nil)))) (db_cons (ds_if (dt_not (dt_val (dcall c_is_number hr passD (da_cons (dv 3) (da_cons (de_int) (da_cons (de_globI rfl T.k_MOST_HANDS.choose_spec) (da_nil))))))) (db_one (ds_bad)) (db_nil)) (db_cons (ds_fld rfl (dv 0) (dv 2) T.cl_Table T.na_Table_style) (db_cons (ds_fld rfl (dv 0) (de_lc false rfl sc_Table_init.nd (di_enumS (by rfl) T.b_enumerate (da_cons (dcall c_written hr passD (da_cons (dv 1) (da_nil))) (da_nil))) (by exact blkOk_by (N := ["self", "page", "style", "hands", "name", "sign", "hand"]) (sc := defScope s_Table_init) (own := [("name", 4), ("sign", 5)]) (by decide +kernel)) rfl (by decide) (fun _ _ _ _ _ => tg_two rfl (pg_name sc_Table_init.nd rfl (by first | exact Or.inl rfl | exact Or.inr rfl)) (pg_name sc_Table_init.nd rfl (by first | exact Or.inl rfl | exact Or.inr rfl))) (fun _ _ _ _ _ => dts_nil) (fun _ _ _ _ _ => dmake n_Mark hr passL (da_cons (dv 4) (da_cons (dv 5) (da_cons (de_non) (da_nil)))))) T.cl_Table T.na_Table_marks) (db_cons (ds_fld rfl (dv 0) (de_callB dc_len (by rfl) T.b_len (by decide +kernel) (da_cons (de_fld rfl (dv 0) T.cl_Table T.na_Table_marks) (da_nil)) (fun a b => pe_callB a (by rfl) T.b_len (by decide +kernel) b)) T.cl_Table T.na_Table_many) (db_cons (ds_fld rfl (dv 0) (de_lc true rfl sc_Table_init.nd (di_r1 (by rfl) T.b_range (da_cons (dv 3) (da_nil))) (by exact blkOk_by (N := ["self", "page", "style", "hands", "name", "sign", "hand"]) (sc := defScope s_Table_init) (own := [("hand", 6)]) (by decide +kernel)) rfl (by decide) (fun _ _ _ _ _ => tg_one sc_Table_init.nd rfl (by first | exact Or.inl rfl | exact Or.inr rfl)) (fun _ _ _ _ _ => dts_nil) (fun _ _ _ _ _ => de_if (dt_cmp dop_gt (de_fld rfl (dv 0) T.cl_Table T.na_Table_many) (de_int) (nomark _)) (de_int) (de_non))) T.cl_Table T.na_Table_stood) (db_cons (ds_fld rfl (dv 0) (de_lst true (da_nil)) T.cl_Table T.na_Table_deeds) (db_cons (ds_fld rfl (dv 0) (de_lst true (da_nil)) T.cl_Table T.na_Table_lasting) (db_one (ds_fld rfl (dv 0) (de_lc true rfl sc_Table_init.nd (di_r1 (by rfl) T.b_range (da_cons (dv 3) (da_nil))) (by exact blkOk_by (N := ["self", "page", "style", "hands", "name", "sign", "hand"]) (sc := defScope s_Table_init) (own := [("hand", 6)]) (by decide +kernel)) rfl (by decide) (fun _ _ _ _ _ => tg_one sc_Table_init.nd rfl (by first | exact Or.inl rfl | exact Or.inr rfl)) (fun _ _ _ _ _ => dts_nil) (fun _ _ _ _ _ => de_lst true (da_nil))) T.cl_Table T.na_Table_undone)))))))))), M, m, F.binds (ps := ["self", "page", "style", "hands"]) fun _ _ _ _ _ _ us hl => match us, hl with | [_, _, _, _], _ => rfl⟩
theorem sc_law : FnScope ["_law_script", "_law_box", "_law_hands", "_law_sign_here", "_law_more", "_law_table", "_law_t", "_law_hand", "_law_turn", "_law_way", "_law_found", "_law_is_there", "_law_place", "_law_k", "_law_rub", "_law_one"] ["_law_script"] (defScope s_law) := ⟨rfl, rfl, rfl, by decide +kernel, rfl, by decide +kernel, by decide +kernel⟩
theorem ok_law {m_law_begun m_law_take m_law_sign m_Table_right m_Table_rub m_Table_back m_Table_again_k32 m_law_alike m_law_due_k37 m_Table_page m_Table_at m_Table_told m_Table_init : FV} {cL PL : Addr} {f : Addr} {fd : FuncData} (F : Fun W.K "law" "law" s_law f fd) (T : Txt W mg) (c_law_begun : Fn P w W mg base "_law_begun" 1 1 m_law_begun) (c_law_take : Fn P w W mg base "_law_take" 1 2 m_law_take) (c_law_sign : Fn P w W mg base "_law_sign" 2 1 m_law_sign) (c_Table_right : Mt P w W mg base 16 "right" 3 2 m_Table_right) (c_law_told : FnT P w W mg base "_law_told" 8 ["_law_work"] (spTold P w W mg base 6 [4, 7] (hmC2 [4] (.str [110, 111, 110, 101]) (.str [111, 116, 104, 101, 114])))) (c_Table_rub : Mt P w W mg base 16 "rub" 5 2 m_Table_rub) (c_Table_back : Mt P w W mg base 16 "back" 6 2 m_Table_back) (c_Table_again : Mt P w W mg base 16 "again" 6 2 m_Table_again_k32) (c_law_alike : Fn P w W mg base "_law_alike" 8 2 m_law_alike) (c_law_due : Fn P w W mg base "_law_due" 1 3 m_law_due_k37) (c_Table_page : Mt P w W mg base 16 "page" 3 1 m_Table_page) (c_Table_at : Mt P w W mg base 16 "at" 3 2 m_Table_at) (c_Table_told : Mt P w W mg base 16 "told" 1 1 m_Table_told) (n_Table : Nw P w W mg base "Table" 16 6 4 m_Table_init) (TB : LamX.TabB base mg cL PL) (hW : ((PL, ("law.<locals>.<lambda>" : Str)) ∈ W.tabs) ∧ (W.tabs.map (·.1)).Nodup) (hcd : fd.code = .ref cL) : FnOk P w W.K mg base (L2.CX P w) 9 f fd ["_law_script"] (spD W 1 (funD 16 (d_law_k37 m_law_begun m_law_take m_law_sign m_Table_right m_Table_rub m_Table_back m_Table_again_k32 m_law_alike m_law_due_k37 m_Table_page m_Table_at m_Table_told m_Table_init))) :=
  fnEC F hcd sc_law rfl rfl fun A outer sh H E hr => db_cons (ds_set sc_law.nd rfl (by first | exact Or.inl rfl | exact Or.inr rfl) (dcall c_law_begun hr passD (da_cons (dv 0) (da_nil)))) (db_cons (ds_par rfl sc_law.nd rfl rfl (by decide) rfl rfl (da_cons (de_op (dop_add false) (de_int) (dcall c_law_take hr passD (da_cons (dv 1) (da_cons (de_int) (da_nil))))) (da_cons (dcall c_law_sign hr passD (da_cons (dv 1) (da_nil))) (da_nil))) (by rfl)) (db_cons (ds_set sc_law.nd rfl (by first | exact Or.inl rfl | exact Or.inr rfl) (de_mt PySem.F.plainAttrs_str PySem.F.slot_str_join PySem.F.type_str_join (dm_join) (de_str (by decide +kernel) (by decide +kernel)) (da_cons (de_lc false rfl sc_law.nd (di_r1 (by rfl) T.b_range (da_cons (dcall c_law_take hr passD (da_cons (dv 1) (da_cons (de_int) (da_nil)))) (da_nil))) (by exact blkOk_by (N := ["_law_script", "_law_box", "_law_hands", "_law_sign_here", "_law_more", "_law_table", "_law_t", "_law_hand", "_law_turn", "_law_way", "_law_found", "_law_is_there", "_law_place", "_law_k", "_law_rub", "_law_one"]) (sc := defScope s_law) (own := [("_law_k", 13)]) (by decide +kernel)) rfl (by decide) (fun _ _ _ _ _ => tg_one sc_law.nd rfl (by first | exact Or.inl rfl | exact Or.inr rfl)) (fun _ _ _ _ _ => dts_nil) (fun _ _ _ _ _ => dcall c_law_sign hr passL (da_cons (dv 1) (da_nil)))) (da_nil)) (fun a b c => pe_bm PySem.F.plainAttrs_str PySem.F.slot_str_join PySem.F.type_str_join a b c))) (db_cons (ds_asg (de_tup (da_cons (dmake n_Table hr passD (da_cons (de_lst false (da_cons (de_tup (da_cons (de_op (dop_add false) (dv 3) (dv 4)) (da_nil))) (da_nil))) (da_cons (de_tup (da_cons (de_int) (da_cons (de_int) (da_nil)))) (da_cons (dv 2) (da_nil))))) (da_cons (de_dictL (dp_cons (de_str (by decide +kernel) (by decide +kernel)) (de_lst true (da_nil)) (dp_cons (de_str (by decide +kernel) (by decide +kernel)) (de_lc true rfl sc_law.nd (di_r1 (by rfl) T.b_range (da_cons (dv 2) (da_nil))) (by exact blkOk_by (N := ["_law_script", "_law_box", "_law_hands", "_law_sign_here", "_law_more", "_law_table", "_law_t", "_law_hand", "_law_turn", "_law_way", "_law_found", "_law_is_there", "_law_place", "_law_k", "_law_rub", "_law_one"]) (sc := defScope s_law) (own := [("_law_hand", 7)]) (by decide +kernel)) rfl (by decide) (fun _ _ _ _ _ => tg_one sc_law.nd rfl (by first | exact Or.inl rfl | exact Or.inr rfl)) (fun _ _ _ _ _ => dts_nil) (fun _ _ _ _ _ => de_lst false (da_nil))) (dp_nil)))) (da_nil)))) (dg_tup rfl (dgs_cons (dg_name sc_law.nd rfl (by first | exact Or.inl rfl | exact Or.inr rfl)) (dgs_cons (dg_name sc_law.nd rfl (by first | exact Or.inl rfl | exact Or.inr rfl)) (dgs_nil))))) (db_cons (ds_for passF rfl (di_r1 (by rfl) T.b_range (da_cons (dv 2) (da_nil))) (dg_name sc_law.nd rfl (by first | exact Or.inl rfl | exact Or.inr rfl)) (db_one (ds_expr (dmeth c_Table_right (dv 5) hr passD (da_cons (dv 7) (da_nil)))))) (db_cons (ds_for passF rfl (di_r1 (by rfl) T.b_range (da_cons (dcall c_law_take hr passD (da_cons (dv 1) (da_cons (de_int) (da_nil)))) (da_nil))) (dg_name sc_law.nd rfl (by first | exact Or.inl rfl | exact Or.inr rfl)) (db_cons (ds_asg (de_tup (da_cons (dcall c_law_take hr passD (da_cons (dv 1) (da_cons (dv 2) (da_nil)))) (da_cons (de_ix rfl (de_lst false (da_cons (de_str (by decide +kernel) (by decide +kernel)) (da_cons (de_str (by decide +kernel) (by decide +kernel)) (da_cons (de_str (by decide +kernel) (by decide +kernel)) (da_cons (de_str (by decide +kernel) (by decide +kernel)) (da_nil)))))) (dcall c_law_take hr passD (da_cons (dv 1) (da_cons (de_int) (da_nil)))) (fun _ _ => rfl)) (da_nil)))) (dg_tup rfl (dgs_cons (dg_name sc_law.nd rfl (by first | exact Or.inl rfl | exact Or.inr rfl)) (dgs_cons (dg_name sc_law.nd rfl (by first | exact Or.inl rfl | exact Or.inr rfl)) (dgs_nil))))) (db_cons (ds_if (dt_cmp (dop_eq rfl hr.units) (dv 9) (de_str (by decide +kernel) (by decide +kernel)) (nomark _)) (db_one (ds_set sc_law.nd rfl (by first | exact Or.inl rfl | exact Or.inr rfl) (dtold c_law_told hr (lamIn_by (sl := [5, 7]) (N := ["_law_table", "_law_hand"]) (XN := ["_law_script", "_law_box", "_law_hands", "_law_sign_here", "_law_more", "_law_table", "_law_t", "_law_hand", "_law_turn", "_law_way", "_law_found", "_law_is_there", "_law_place", "_law_k", "_law_rub", "_law_one"]) (xsc := defScope s_law) rfl rfl (fun A stack s H E f c2 cl hr => dmeth c_Table_rub (dv 0) hr passX (da_cons (dv 1) (da_nil))) (free0_no rfl fun _ _ _ _ _ => rfl) (by decide +kernel) (maker_in TB hW) rfl (.inl ⟨rfl, rfl⟩))))) (db_one (ds_set sc_law.nd rfl (by first | exact Or.inl rfl | exact Or.inr rfl) (dtold c_law_told hr (lamIn_by (sl := [9, 5, 7]) (N := ["_law_way", "_law_table", "_law_hand"]) (XN := ["_law_script", "_law_box", "_law_hands", "_law_sign_here", "_law_more", "_law_table", "_law_t", "_law_hand", "_law_turn", "_law_way", "_law_found", "_law_is_there", "_law_place", "_law_k", "_law_rub", "_law_one"]) (xsc := defScope s_law) rfl rfl (fun A stack s H E f c2 cl hr => de_if (dt_cmp (dop_eq rfl hr.units) (dv 0) (de_str (by decide +kernel) (by decide +kernel)) (nomark _)) (dmeth c_Table_back (dv 1) hr passX (da_cons (dv 2) (da_nil))) (dmeth c_Table_again (dv 1) hr passX (da_cons (dv 2) (da_nil)))) (free0_no rfl fun _ _ _ _ _ => rfl) (by decide +kernel) (maker_in TB hW) rfl (.inl ⟨rfl, rfl⟩)))))) (db_cons (ds_if (dt_not (dt_val (dcall c_law_alike hr passD (da_cons (dv 10) (da_cons (dcall c_law_due hr passD (da_cons (dv 6) (da_cons (dv 7) (da_cons (dv 9) (da_nil))))) (da_nil)))))) (db_one (ds_ret (de_bl))) (db_nil)) (db_cons (ds_set sc_law.nd rfl (by first | exact Or.inl rfl | exact Or.inr rfl) (de_cmp (dop_eqNil rfl hr.units) (de_lc false rfl sc_law.nd (di_seq (de_dget (Dl.hu_of hr) (dv 6) (de_str (by decide +kernel) (by decide +kernel)) (fun _ _ => rfl))) (by exact blkOk_by (N := ["_law_script", "_law_box", "_law_hands", "_law_sign_here", "_law_more", "_law_table", "_law_t", "_law_hand", "_law_turn", "_law_way", "_law_found", "_law_is_there", "_law_place", "_law_k", "_law_rub", "_law_one"]) (sc := defScope s_law) (own := [("_law_rub", 14)]) (by decide +kernel)) rfl (by decide) (fun _ _ _ _ _ => tg_one sc_law.nd rfl (by first | exact Or.inl rfl | exact Or.inr rfl)) (fun _ _ _ _ _ => dts_one (dt_val (de_ix rfl (dv 14) (de_int) (fun _ _ => rfl)))) (fun _ _ _ _ _ => dv 14)) (de_lst false (da_nil)) (nomark _))) (db_cons (ds_set sc_law.nd rfl (by first | exact Or.inl rfl | exact Or.inr rfl) (de_callTy dc_int (by rfl) T.b_int (by decide +kernel) (da_cons (dv 11) (da_nil)) (fun a b => pe_callTy a (by rfl) T.b_int (by decide +kernel) b))) (db_cons (ds_if (dt_not (dt_val (dcall c_law_alike hr passD (da_cons (dmeth0 c_Table_page (dv 5) hr passD) (da_cons (de_lst false (da_cons (de_tup (da_cons (de_op (dop_add false) (de_op (dop_mul false) (dv 3) (dv 12)) (dv 4)) (da_nil))) (da_nil))) (da_nil)))))) (db_one (ds_ret (de_bl))) (db_nil)) (db_cons (ds_if (dt_cmp (dop_ne rfl hr.units) (de_lc false rfl sc_law.nd (di_r1 (by rfl) T.b_range (da_cons (dv 2) (da_nil))) (by exact blkOk_by (N := ["_law_script", "_law_box", "_law_hands", "_law_sign_here", "_law_more", "_law_table", "_law_t", "_law_hand", "_law_turn", "_law_way", "_law_found", "_law_is_there", "_law_place", "_law_k", "_law_rub", "_law_one"]) (sc := defScope s_law) (own := [("_law_one", 15)]) (by decide +kernel)) rfl (by decide) (fun _ _ _ _ _ => tg_one sc_law.nd rfl (by first | exact Or.inl rfl | exact Or.inr rfl)) (fun _ _ _ _ _ => dts_one (dt_cmp (dop_ne rfl hr.units) (dmeth c_Table_at (dv 5) hr passL (da_cons (dv 15) (da_nil))) (de_tup (da_cons (de_int) (da_cons (de_int) (da_cons (dv 12) (da_nil))))) (nomark _))) (fun _ _ _ _ _ => dv 15)) (de_lst false (da_nil)) (nomark _)) (db_one (ds_ret (de_bl))) (db_nil)) (db_one (ds_if (dt_not (dt_val (dcall c_law_alike hr passD (da_cons (dmeth0 c_Table_told (dv 5) hr passD) (da_cons (de_lc false rfl sc_law.nd (di_seq (de_dget (Dl.hu_of hr) (dv 6) (de_str (by decide +kernel) (by decide +kernel)) (fun _ _ => rfl))) (by exact blkOk_by (N := ["_law_script", "_law_box", "_law_hands", "_law_sign_here", "_law_more", "_law_table", "_law_t", "_law_hand", "_law_turn", "_law_way", "_law_found", "_law_is_there", "_law_place", "_law_k", "_law_rub", "_law_one"]) (sc := defScope s_law) (own := [("_law_rub", 14)]) (by decide +kernel)) rfl (by decide) (fun _ _ _ _ _ => tg_one sc_law.nd rfl (by first | exact Or.inl rfl | exact Or.inr rfl)) (fun _ _ _ _ _ => dts_nil) (fun _ _ _ _ _ => de_tup (da_cons (de_ix rfl (dv 14) (de_int) (fun _ _ => rfl)) (da_cons (de_str (by decide +kernel) (by decide +kernel)) (da_cons (de_ix rfl (dv 14) (de_int) (fun _ _ => rfl)) (da_nil)))))) (da_nil)))))) (db_one (ds_ret (de_bl))) (db_nil))))))))))) (db_one (ds_ret (de_bl))))))))
end
theorem all_mk {l : PySem.W.OpenLaw} {w : World} {K : PySem.W.Frag} {h : Heap} {mg : Str → Option Value} {fa C1 C2 C3 C4 C5 C6 f1 f2 f3 f4 f5 f6 f7 f8 f9 f10 f11 f12 f13 f14 f15 f16 f17 f18 f19 f20 f21 f22 f23 f24 f25 f26 f27 f28 f29 f30 f31 f32 f33 : Addr} (HT : ∀ ns : List Int, ns.length ≤ 63 → ∃ st, m_law_k37 [.scr ns] [] = .ok (.bl true, st)) (X : K.In h) (G : h.Ns mainGlobals mg) (hfa : mg "law" = some (.ref fa)) (OT : (∀ nm ∈ (["law"] : List Str), ∀ f, mg nm = some (.ref f) → LamX.OwnTab K f h))
    {cL33 PL33 : Addr} {e_L33 : Value} {dd_L33 : Option Addr} {vs_L33 : Array Value} {sl_L33 : Array (Option Value)}
    {od1 od2 od3 od4 od5 od6 od7 od8 od9 od10 od11 od12 od13 od14 od15 od16 od17 od18 od19 od20 od21 od22 od23 od24 od25 od26 od27 od28 od29 od30 od31 od32 od33 an1 an2 an3 an4 an5 an6 an7 an8 an9 an10 an11 an12 an13 an14 an15 an16 an17 an18 an19 an20 an21 an22 an23 an24 an25 an26 an27 an28 an29 an30 an31 an32 an33 : Option Addr} {sl1 sl2 sl3 sl4 sl5 sl6 sl7 sl8 sl9 sl10 sl11 sl12 sl13 sl14 sl15 sl16 sl17 sl18 sl19 sl20 sl21 sl22 sl23 sl24 sl25 sl26 sl27 sl28 sl29 sl30 sl31 sl32 sl33 : Array (Option Value)} {oc1 oc2 oc3 oc4 oc5 oc6 oc7 oc8 oc9 oc10 oc11 oc12 oc13 oc14 oc15 oc16 oc17 oc18 oc19 oc20 oc21 oc22 oc23 oc24 oc25 oc26 oc27 oc28 oc29 oc30 oc31 oc32 oc33 kV1 kV2 kV3 kV4 kV5 kV6 kV7 kV8 kV9 kV10 kV11 kV12 kV13 kV14 kV15 kV16 kV17 kV18 kV19 kV20 kV21 kV22 kV23 kV24 kV25 kV26 kV27 kV28 kV29 kV30 kV31 kV32 kV33 dc1 dc2 dc3 dc4 dc5 dc6 dc7 dc8 dc9 dc10 dc11 dc12 dc13 dc14 dc15 dc16 dc17 dc18 dc19 dc20 dc21 dc22 dc23 dc24 dc25 dc26 dc27 dc28 dc29 dc30 dc31 dc32 dc33 pm1 pm2 pm3 pm4 pm5 pm6 pm7 pm8 pm9 pm10 pm11 pm12 pm13 pm14 pm15 pm16 pm17 pm18 pm19 pm20 pm21 pm22 pm23 pm24 pm25 pm26 pm27 pm28 pm29 pm30 pm31 pm32 pm33 cd1 cd2 cd3 cd4 cd5 cd6 cd7 cd8 cd9 cd10 cd11 cd12 cd13 cd14 cd15 cd16 cd17 cd18 cd19 cd20 cd21 cd22 cd23 cd24 cd25 cd26 cd27 cd28 cd29 cd30 cd31 cd32 ct1 ct2 ct3 ct4 ct5 ct6 ct7 ct8 ct9 ct10 ct11 ct12 ct13 ct14 ct15 ct16 ct17 ct18 ct19 ct20 ct21 ct22 ct23 ct24 ct25 ct26 ct27 ct28 ct29 ct30 ct31 ct32 ct33 : Value} {t_LINE t_TAB t_FIRST_SIGN t_LAST_SIGN t_BARRED t_MOST_SIGNS t_MOST_CELLS t_MOST_ROWS t_MOST_GAP t_MOST_LEAST t_MOST_HANDS : Tok}
    (zb_len : PySem.W.nsIn K mainGlobals "len" = some none)
    (zb_int : PySem.W.nsIn K mainGlobals "int" = some none)
    (zb_list : PySem.W.nsIn K mainGlobals "list" = some none)
    (zb_isinstance : PySem.W.nsIn K mainGlobals "isinstance" = some none)
    (zb_bool : PySem.W.nsIn K mainGlobals "bool" = some none)
    (zb_enumerate : PySem.W.nsIn K mainGlobals "enumerate" = some none)
    (zb_any : PySem.W.nsIn K mainGlobals "any" = some none)
    (zb_tuple : PySem.W.nsIn K mainGlobals "tuple" = some none)
    (zb_ord : PySem.W.nsIn K mainGlobals "ord" = some none)
    (zb_str : PySem.W.nsIn K mainGlobals "str" = some none)
    (zb_range : PySem.W.nsIn K mainGlobals "range" = some none)
    (zb_zip : PySem.W.nsIn K mainGlobals "zip" = some none)
    (zk_LINE : PySem.W.nsIn K mainGlobals "LINE" = some (some (.str "\n" t_LINE)))
    (zk_TAB : PySem.W.nsIn K mainGlobals "TAB" = some (some (.str "\t" t_TAB)))
    (zk_FIRST_SIGN : PySem.W.nsIn K mainGlobals "FIRST_SIGN" = some (some (.str " " t_FIRST_SIGN)))
    (zk_LAST_SIGN : PySem.W.nsIn K mainGlobals "LAST_SIGN" = some (some (.str "~" t_LAST_SIGN)))
    (zk_BARRED : PySem.W.nsIn K mainGlobals "BARRED" = some (some (.int (37) t_BARRED)))
    (zk_MOST_SIGNS : PySem.W.nsIn K mainGlobals "MOST_SIGNS" = some (some (.int (10) t_MOST_SIGNS)))
    (zk_MOST_CELLS : PySem.W.nsIn K mainGlobals "MOST_CELLS" = some (some (.int (6) t_MOST_CELLS)))
    (zk_MOST_ROWS : PySem.W.nsIn K mainGlobals "MOST_ROWS" = some (some (.int (30) t_MOST_ROWS)))
    (zk_MOST_GAP : PySem.W.nsIn K mainGlobals "MOST_GAP" = some (some (.int (4) t_MOST_GAP)))
    (zk_MOST_LEAST : PySem.W.nsIn K mainGlobals "MOST_LEAST" = some (some (.int (12) t_MOST_LEAST)))
    (zk_MOST_HANDS : PySem.W.nsIn K mainGlobals "MOST_HANDS" = some (some (.int (4) t_MOST_HANDS)))
    (aC_Table : PySem.W.nsIn K mainGlobals "Table" = some (some (.ref C1)))
    (pg_Table : PySem.W.plainGet K C1 Str.empty = true)
    (hd_Table : PySem.W.hasDictIn K C1 = true)
    (po_Table : PySem.W.plainOver K C1 = true)
    (sa_Table : PySem.W.findIn K (.ref C1) "__setattr__" = some (some (.builtin "object.__setattr__")))
    (mk_Table : PySem.W.makesIn K C1 = true)
    (kc_Table : PySem.W.keepIn K (.ref C1) = true)
    (aC_Mark : PySem.W.nsIn K mainGlobals "Mark" = some (some (.ref C2)))
    (pg_Mark : PySem.W.plainGet K C2 Str.empty = true)
    (hd_Mark : PySem.W.hasDictIn K C2 = true)
    (po_Mark : PySem.W.plainOver K C2 = true)
    (sa_Mark : PySem.W.findIn K (.ref C2) "__setattr__" = some (some (.builtin "object.__setattr__")))
    (mk_Mark : PySem.W.makesIn K C2 = true)
    (kc_Mark : PySem.W.keepIn K (.ref C2) = true)
    (aC_BadHand : PySem.W.nsIn K mainGlobals "BadHand" = some (some (.ref C3)))
    (aC_BadCell : PySem.W.nsIn K mainGlobals "BadCell" = some (some (.ref C4)))
    (aC_TooMuch : PySem.W.nsIn K mainGlobals "TooMuch" = some (some (.ref C5)))
    (aC_GrowError : PySem.W.nsIn K mainGlobals "GrowError" = some (some (.ref C6)))
    (xe_BadHand : PySem.W.excIn K C3 [.type "ValueError", .type "Exception", .type "BaseException", .type "object"] "ValueError.__new__" = true)
    (xk_BadHand : PySem.W.keepIn K (.ref C3) = true)
    (xs_BadHand : PySem.W.subIn K (.ref C3) (.type "BaseException") = some true)
    (xt_BadHand : PySem.W.typeIn K (.ref C3) = some (.type "type"))
    (xe_BadCell : PySem.W.excIn K C4 [.type "ValueError", .type "Exception", .type "BaseException", .type "object"] "ValueError.__new__" = true)
    (xk_BadCell : PySem.W.keepIn K (.ref C4) = true)
    (xs_BadCell : PySem.W.subIn K (.ref C4) (.type "BaseException") = some true)
    (xt_BadCell : PySem.W.typeIn K (.ref C4) = some (.type "type"))
    (xe_TooMuch : PySem.W.excIn K C5 [.type "ValueError", .type "Exception", .type "BaseException", .type "object"] "ValueError.__new__" = true)
    (xk_TooMuch : PySem.W.keepIn K (.ref C5) = true)
    (xs_TooMuch : PySem.W.subIn K (.ref C5) (.type "BaseException") = some true)
    (xt_TooMuch : PySem.W.typeIn K (.ref C5) = some (.type "type"))
    (zb_BadCell : PySem.W.subIn K (.ref C4) (.type "BaseException") = some true)
    (zh_BadCell : PySem.W.hasDictIn K C4 = true)
    (zt_BadCell : PySem.W.typeIn K (.ref C4) = some (.type "type"))
    (zc_BadCell_BadCell : PySem.W.subIn K (.ref C4) (.ref C4) = some true)
    (zb_GrowError : PySem.W.subIn K (.ref C6) (.type "BaseException") = some true)
    (zh_GrowError : PySem.W.hasDictIn K C6 = true)
    (zt_GrowError : PySem.W.typeIn K (.ref C6) = some (.type "type"))
    (zc_TooMuch_GrowError : PySem.W.subIn K (.ref C5) (.ref C6) = some true)
    (zc_n_TooMuch_BadCell : PySem.W.subIn K (.ref C5) (.ref C4) = some false)
    (nf_Table_stood : PySem.W.findIn K (.ref C1) "stood" = some none)
    (nf_Table_marks : PySem.W.findIn K (.ref C1) "marks" = some none)
    (nf_Mark_name : PySem.W.findIn K (.ref C2) "name" = some none)
    (nf_Mark_born : PySem.W.findIn K (.ref C2) "born" = some none)
    (nf_Table_lasting : PySem.W.findIn K (.ref C1) "lasting" = some none)
    (nf_Mark_cuts : PySem.W.findIn K (.ref C2) "cuts" = some none)
    (nf_Table_deeds : PySem.W.findIn K (.ref C1) "deeds" = some none)
    (nf_Mark_sign : PySem.W.findIn K (.ref C2) "sign" = some none)
    (nf_Table_undone : PySem.W.findIn K (.ref C1) "undone" = some none)
    (nf_Table_style : PySem.W.findIn K (.ref C1) "style" = some none)
    (nf_Table_many : PySem.W.findIn K (.ref C1) "many" = some none)
    (a1 : PySem.W.nsIn K mainGlobals "_law_begun" = some (some (.ref f1)))
    (l1 : K.lookup f1 = some ⟨oc1, od1, .func (PySem.W.fnOf "_law_begun" "_law_begun" (defArgs s_law_begun) (defBody s_law_begun) (defScope s_law_begun) .none kV1 dc1 pm1 an1 cd1 ct1), sl1⟩)
    (c1 : PySem.W.codeIn K cd1 "_law_begun" = true)
    (k1 : PySem.W.keepIn K (.ref f1) = true)
    (a2 : PySem.W.nsIn K mainGlobals "_law_take" = some (some (.ref f2)))
    (l2 : K.lookup f2 = some ⟨oc2, od2, .func (PySem.W.fnOf "_law_take" "_law_take" (defArgs s_law_take) (defBody s_law_take) (defScope s_law_take) .none kV2 dc2 pm2 an2 cd2 ct2), sl2⟩)
    (c2 : PySem.W.codeIn K cd2 "_law_take" = true)
    (k2 : PySem.W.keepIn K (.ref f2) = true)
    (a3 : PySem.W.nsIn K mainGlobals "_law_sign" = some (some (.ref f3)))
    (l3 : K.lookup f3 = some ⟨oc3, od3, .func (PySem.W.fnOf "_law_sign" "_law_sign" (defArgs s_law_sign) (defBody s_law_sign) (defScope s_law_sign) .none kV3 dc3 pm3 an3 cd3 ct3), sl3⟩)
    (c3 : PySem.W.codeIn K cd3 "_law_sign" = true)
    (k3 : PySem.W.keepIn K (.ref f3) = true)
    (a4 : PySem.W.nsIn K mainGlobals "is_number" = some (some (.ref f4)))
    (l4 : K.lookup f4 = some ⟨oc4, od4, .func (PySem.W.fnOf "is_number" "is_number" (defArgs s_is_number) (defBody s_is_number) (defScope s_is_number) .none kV4 dc4 pm4 an4 cd4 ct4), sl4⟩)
    (c4 : PySem.W.codeIn K cd4 "is_number" = true)
    (k4 : PySem.W.keepIn K (.ref f4) = true)
    (a5 : PySem.W.findIn K (.ref C1) "need_hand" = some (some (.ref f5)))
    (i5 : PySem.W.isFn K (.ref f5) = true)
    (l5 : K.lookup f5 = some ⟨oc5, od5, .func (PySem.W.fnOf "need_hand" "Table.need_hand" (defArgs s_Table_need_hand) (defBody s_Table_need_hand) (defScope s_Table_need_hand) .none kV5 dc5 pm5 an5 cd5 ct5), sl5⟩)
    (c5 : PySem.W.codeIn K cd5 "Table.need_hand" = true)
    (k5 : PySem.W.keepIn K (.ref f5) = true)
    (a6 : PySem.W.findIn K (.ref C1) "number_of" = some (some (.ref f6)))
    (i6 : PySem.W.isFn K (.ref f6) = true)
    (l6 : K.lookup f6 = some ⟨oc6, od6, .func (PySem.W.fnOf "number_of" "Table.number_of" (defArgs s_Table_number_of) (defBody s_Table_number_of) (defScope s_Table_number_of) .none kV6 dc6 pm6 an6 cd6 ct6), sl6⟩)
    (c6 : PySem.W.codeIn K cd6 "Table.number_of" = true)
    (k6 : PySem.W.keepIn K (.ref f6) = true)
    (a7 : PySem.W.findIn K (.ref C1) "is_there" = some (some (.ref f7)))
    (i7 : PySem.W.isFn K (.ref f7) = true)
    (l7 : K.lookup f7 = some ⟨oc7, od7, .func (PySem.W.fnOf "is_there" "Table.is_there" (defArgs s_Table_is_there) (defBody s_Table_is_there) (defScope s_Table_is_there) .none kV7 dc7 pm7 an7 cd7 ct7), sl7⟩)
    (c7 : PySem.W.codeIn K cd7 "Table.is_there" = true)
    (k7 : PySem.W.keepIn K (.ref f7) = true)
    (a8 : PySem.W.findIn K (.ref C1) "right" = some (some (.ref f8)))
    (i8 : PySem.W.isFn K (.ref f8) = true)
    (l8 : K.lookup f8 = some ⟨oc8, od8, .func (PySem.W.fnOf "right" "Table.right" (defArgs s_Table_right) (defBody s_Table_right) (defScope s_Table_right) .none kV8 dc8 pm8 an8 cd8 ct8), sl8⟩)
    (c8 : PySem.W.codeIn K cd8 "Table.right" = true)
    (k8 : PySem.W.keepIn K (.ref f8) = true)
    (a9 : PySem.W.nsIn K mainGlobals "_law_told" = some (some (.ref f9)))
    (l9 : K.lookup f9 = some ⟨oc9, od9, .func (PySem.W.fnOf "_law_told" "_law_told" (defArgs s_law_told) (defBody s_law_told) (defScope s_law_told) .none kV9 dc9 pm9 an9 cd9 ct9), sl9⟩)
    (c9 : PySem.W.codeIn K cd9 "_law_told" = true)
    (k9 : PySem.W.keepIn K (.ref f9) = true)
    (a10 : PySem.W.findIn K (.ref C1) "ahead" = some (some (.ref f10)))
    (i10 : PySem.W.isFn K (.ref f10) = true)
    (l10 : K.lookup f10 = some ⟨oc10, od10, .func (PySem.W.fnOf "ahead" "Table.ahead" (defArgs s_Table_ahead) (defBody s_Table_ahead) (defScope s_Table_ahead) .none kV10 dc10 pm10 an10 cd10 ct10), sl10⟩)
    (c10 : PySem.W.codeIn K cd10 "Table.ahead" = true)
    (k10 : PySem.W.keepIn K (.ref f10) = true)
    (a11 : PySem.W.findIn K (.ref C1) "note" = some (some (.ref f11)))
    (i11 : PySem.W.isFn K (.ref f11) = true)
    (l11 : K.lookup f11 = some ⟨oc11, od11, .func (PySem.W.fnOf "note" "Table.note" (defArgs s_Table_note) (defBody s_Table_note) (defScope s_Table_note) .none kV11 dc11 pm11 an11 cd11 ct11), sl11⟩)
    (c11 : PySem.W.codeIn K cd11 "Table.note" = true)
    (k11 : PySem.W.keepIn K (.ref f11) = true)
    (a12 : PySem.W.findIn K (.ref C1) "lines" = some (some (.ref f12)))
    (i12 : PySem.W.isFn K (.ref f12) = true)
    (l12 : K.lookup f12 = some ⟨oc12, od12, .func (PySem.W.fnOf "lines" "Table.lines" (defArgs s_Table_lines) (defBody s_Table_lines) (defScope s_Table_lines) .none kV12 dc12 pm12 an12 cd12 ct12), sl12⟩)
    (c12 : PySem.W.codeIn K cd12 "Table.lines" = true)
    (k12 : PySem.W.keepIn K (.ref f12) = true)
    (a13 : PySem.W.nsIn K mainGlobals "is_sign" = some (some (.ref f13)))
    (l13 : K.lookup f13 = some ⟨oc13, od13, .func (PySem.W.fnOf "is_sign" "is_sign" (defArgs s_is_sign) (defBody s_is_sign) (defScope s_is_sign) .none kV13 dc13 pm13 an13 cd13 ct13), sl13⟩)
    (c13 : PySem.W.codeIn K cd13 "is_sign" = true)
    (k13 : PySem.W.keepIn K (.ref f13) = true)
    (a14 : PySem.W.nsIn K mainGlobals "is_cell" = some (some (.ref f14)))
    (l14 : K.lookup f14 = some ⟨oc14, od14, .func (PySem.W.fnOf "is_cell" "is_cell" (defArgs s_is_cell) (defBody s_is_cell) (defScope s_is_cell) .none kV14 dc14 pm14 an14 cd14 ct14), sl14⟩)
    (c14 : PySem.W.codeIn K cd14 "is_cell" = true)
    (k14 : PySem.W.keepIn K (.ref f14) = true)
    (a15 : PySem.W.nsIn K mainGlobals "is_row" = some (some (.ref f15)))
    (l15 : K.lookup f15 = some ⟨oc15, od15, .func (PySem.W.fnOf "is_row" "is_row" (defArgs s_is_row) (defBody s_is_row) (defScope s_is_row) .none kV15 dc15 pm15 an15 cd15 ct15), sl15⟩)
    (c15 : PySem.W.codeIn K cd15 "is_row" = true)
    (k15 : PySem.W.keepIn K (.ref f15) = true)
    (a16 : PySem.W.findIn K (.ref C1) "is_page" = some (some (.ref f16)))
    (i16 : PySem.W.isFn K (.ref f16) = true)
    (l16 : K.lookup f16 = some ⟨oc16, od16, .func (PySem.W.fnOf "is_page" "Table.is_page" (defArgs s_Table_is_page) (defBody s_Table_is_page) (defScope s_Table_is_page) .none kV16 dc16 pm16 an16 cd16 ct16), sl16⟩)
    (c16 : PySem.W.codeIn K cd16 "Table.is_page" = true)
    (k16 : PySem.W.keepIn K (.ref f16) = true)
    (a17 : PySem.W.findIn K (.ref C1) "forget" = some (some (.ref f17)))
    (i17 : PySem.W.isFn K (.ref f17) = true)
    (l17 : K.lookup f17 = some ⟨oc17, od17, .func (PySem.W.fnOf "forget" "Table.forget" (defArgs s_Table_forget) (defBody s_Table_forget) (defScope s_Table_forget) .none kV17 dc17 pm17 an17 cd17 ct17), sl17⟩)
    (c17 : PySem.W.codeIn K cd17 "Table.forget" = true)
    (k17 : PySem.W.keepIn K (.ref f17) = true)
    (a18 : PySem.W.findIn K (.ref C1) "go_on" = some (some (.ref f18)))
    (i18 : PySem.W.isFn K (.ref f18) = true)
    (l18 : K.lookup f18 = some ⟨oc18, od18, .func (PySem.W.fnOf "go_on" "Table.go_on" (defArgs s_Table_go_on) (defBody s_Table_go_on) (defScope s_Table_go_on) .none kV18 dc18 pm18 an18 cd18 ct18), sl18⟩)
    (c18 : PySem.W.codeIn K cd18 "Table.go_on" = true)
    (k18 : PySem.W.keepIn K (.ref f18) = true)
    (a19 : PySem.W.findIn K (.ref C1) "rub" = some (some (.ref f19)))
    (i19 : PySem.W.isFn K (.ref f19) = true)
    (l19 : K.lookup f19 = some ⟨oc19, od19, .func (PySem.W.fnOf "rub" "Table.rub" (defArgs s_Table_rub) (defBody s_Table_rub) (defScope s_Table_rub) .none kV19 dc19 pm19 an19 cd19 ct19), sl19⟩)
    (c19 : PySem.W.codeIn K cd19 "Table.rub" = true)
    (k19 : PySem.W.keepIn K (.ref f19) = true)
    (a20 : PySem.W.findIn K (.ref C1) "turn" = some (some (.ref f20)))
    (i20 : PySem.W.isFn K (.ref f20) = true)
    (l20 : K.lookup f20 = some ⟨oc20, od20, .func (PySem.W.fnOf "turn" "Table.turn" (defArgs s_Table_turn) (defBody s_Table_turn) (defScope s_Table_turn) .none kV20 dc20 pm20 an20 cd20 ct20), sl20⟩)
    (c20 : PySem.W.codeIn K cd20 "Table.turn" = true)
    (k20 : PySem.W.keepIn K (.ref f20) = true)
    (a21 : PySem.W.findIn K (.ref C1) "back" = some (some (.ref f21)))
    (i21 : PySem.W.isFn K (.ref f21) = true)
    (l21 : K.lookup f21 = some ⟨oc21, od21, .func (PySem.W.fnOf "back" "Table.back" (defArgs s_Table_back) (defBody s_Table_back) (defScope s_Table_back) .none kV21 dc21 pm21 an21 cd21 ct21), sl21⟩)
    (c21 : PySem.W.codeIn K cd21 "Table.back" = true)
    (k21 : PySem.W.keepIn K (.ref f21) = true)
    (a22 : PySem.W.findIn K (.ref C1) "again" = some (some (.ref f22)))
    (i22 : PySem.W.isFn K (.ref f22) = true)
    (l22 : K.lookup f22 = some ⟨oc22, od22, .func (PySem.W.fnOf "again" "Table.again" (defArgs s_Table_again) (defBody s_Table_again) (defScope s_Table_again) .none kV22 dc22 pm22 an22 cd22 ct22), sl22⟩)
    (c22 : PySem.W.codeIn K cd22 "Table.again" = true)
    (k22 : PySem.W.keepIn K (.ref f22) = true)
    (a23 : PySem.W.nsIn K mainGlobals "_law_alike" = some (some (.ref f23)))
    (l23 : K.lookup f23 = some ⟨oc23, od23, .func (PySem.W.fnOf "_law_alike" "_law_alike" (defArgs s_law_alike) (defBody s_law_alike) (defScope s_law_alike) .none kV23 dc23 pm23 an23 cd23 ct23), sl23⟩)
    (c23 : PySem.W.codeIn K cd23 "_law_alike" = true)
    (k23 : PySem.W.keepIn K (.ref f23) = true)
    (a24 : PySem.W.nsIn K mainGlobals "_law_due" = some (some (.ref f24)))
    (l24 : K.lookup f24 = some ⟨oc24, od24, .func (PySem.W.fnOf "_law_due" "_law_due" (defArgs s_law_due) (defBody s_law_due) (defScope s_law_due) .none kV24 dc24 pm24 an24 cd24 ct24), sl24⟩)
    (c24 : PySem.W.codeIn K cd24 "_law_due" = true)
    (k24 : PySem.W.keepIn K (.ref f24) = true)
    (a25 : PySem.W.findIn K (.ref C1) "page" = some (some (.ref f25)))
    (i25 : PySem.W.isFn K (.ref f25) = true)
    (l25 : K.lookup f25 = some ⟨oc25, od25, .func (PySem.W.fnOf "page" "Table.page" (defArgs s_Table_page) (defBody s_Table_page) (defScope s_Table_page) .none kV25 dc25 pm25 an25 cd25 ct25), sl25⟩)
    (c25 : PySem.W.codeIn K cd25 "Table.page" = true)
    (k25 : PySem.W.keepIn K (.ref f25) = true)
    (a26 : PySem.W.findIn K (.ref C1) "at" = some (some (.ref f26)))
    (i26 : PySem.W.isFn K (.ref f26) = true)
    (l26 : K.lookup f26 = some ⟨oc26, od26, .func (PySem.W.fnOf "at" "Table.at" (defArgs s_Table_at) (defBody s_Table_at) (defScope s_Table_at) .none kV26 dc26 pm26 an26 cd26 ct26), sl26⟩)
    (c26 : PySem.W.codeIn K cd26 "Table.at" = true)
    (k26 : PySem.W.keepIn K (.ref f26) = true)
    (a27 : PySem.W.findIn K (.ref C1) "told" = some (some (.ref f27)))
    (i27 : PySem.W.isFn K (.ref f27) = true)
    (l27 : K.lookup f27 = some ⟨oc27, od27, .func (PySem.W.fnOf "told" "Table.told" (defArgs s_Table_told) (defBody s_Table_told) (defScope s_Table_told) .none kV27 dc27 pm27 an27 cd27 ct27), sl27⟩)
    (c27 : PySem.W.codeIn K cd27 "Table.told" = true)
    (k27 : PySem.W.keepIn K (.ref f27) = true)
    (a28 : PySem.W.nsIn K mainGlobals "need_page" = some (some (.ref f28)))
    (l28 : K.lookup f28 = some ⟨oc28, od28, .func (PySem.W.fnOf "need_page" "need_page" (defArgs s_need_page) (defBody s_need_page) (defScope s_need_page) .none kV28 dc28 pm28 an28 cd28 ct28), sl28⟩)
    (c28 : PySem.W.codeIn K cd28 "need_page" = true)
    (k28 : PySem.W.keepIn K (.ref f28) = true)
    (a29 : PySem.W.nsIn K mainGlobals "need_style" = some (some (.ref f29)))
    (l29 : K.lookup f29 = some ⟨oc29, od29, .func (PySem.W.fnOf "need_style" "need_style" (defArgs s_need_style) (defBody s_need_style) (defScope s_need_style) .none kV29 dc29 pm29 an29 cd29 ct29), sl29⟩)
    (c29 : PySem.W.codeIn K cd29 "need_style" = true)
    (k29 : PySem.W.keepIn K (.ref f29) = true)
    (a30 : PySem.W.nsIn K mainGlobals "written" = some (some (.ref f30)))
    (l30 : K.lookup f30 = some ⟨oc30, od30, .func (PySem.W.fnOf "written" "written" (defArgs s_written) (defBody s_written) (defScope s_written) .none kV30 dc30 pm30 an30 cd30 ct30), sl30⟩)
    (c30 : PySem.W.codeIn K cd30 "written" = true)
    (k30 : PySem.W.keepIn K (.ref f30) = true)
    (a31 : PySem.W.findIn K (.ref C2) "__init__" = some (some (.ref f31)))
    (i31 : PySem.W.isFn K (.ref f31) = true)
    (l31 : K.lookup f31 = some ⟨oc31, od31, .func (PySem.W.fnOf "__init__" "Mark.__init__" (defArgs s_Mark_init) (defBody s_Mark_init) (defScope s_Mark_init) .none kV31 dc31 pm31 an31 cd31 ct31), sl31⟩)
    (c31 : PySem.W.codeIn K cd31 "Mark.__init__" = true)
    (k31 : PySem.W.keepIn K (.ref f31) = true)
    (a32 : PySem.W.findIn K (.ref C1) "__init__" = some (some (.ref f32)))
    (i32 : PySem.W.isFn K (.ref f32) = true)
    (l32 : K.lookup f32 = some ⟨oc32, od32, .func (PySem.W.fnOf "__init__" "Table.__init__" (defArgs s_Table_init) (defBody s_Table_init) (defScope s_Table_init) .none kV32 dc32 pm32 an32 cd32 ct32), sl32⟩)
    (c32 : PySem.W.codeIn K cd32 "Table.__init__" = true)
    (k32 : PySem.W.keepIn K (.ref f32) = true)
    (a33 : PySem.W.nsIn K mainGlobals "law" = some (some (.ref f33)))
    (l33 : K.lookup f33 = some ⟨oc33, od33, .func (PySem.W.fnOf "law" "law" (defArgs s_law) (defBody s_law) (defScope s_law) .none kV33 dc33 pm33 an33 (.ref cL33) ct33), sl33⟩)
    (lcL33 : K.lookup cL33 = some ⟨e_L33, dd_L33, .fields vs_L33, sl_L33⟩)
    (v11_33 : vs_L33[11]? = some (.ref PL33))
    (lPL33 : K.lookup PL33 = none)
    (chL33 : PySem.W.codeHdIn K cL33 PL33 = true)
    (c33 : PySem.W.codeIn K (.ref cL33) "law" = true)
    (k33 : PySem.W.keepIn K (.ref f33) = true)
    : ∃ (fd : FuncData) (cs : List (Addr × Addr)), (∀ p ∈ cs, h.get? p.2 = some { cls := .none, data := .fields #[] }) ∧ (∀ p ∈ cs, K.lookup p.2 = none) ∧ (∀ p ∈ cs, PySem.W.CodeHd h p.1 p.2) ∧ (∀ (s : Shared) (u : Value), BindsTo s fd ⟨[u], []⟩ [("_law_script", u)]) ∧ ∀ base : Heap, K.In base → base.Ns mainGlobals mg → (∀ p ∈ cs, LamX.TabB base mg p.1 p.2) → FnOk l.prog w K mg base (L2.CX l.prog w) 9 fa fd ["_law_script"] (spLawT (cs.map (·.2)) 63) := by
  have e := hfa.symm.trans (PySem.W.mg_of X G a33)
  cases e
  let W : Wd := ⟨K, fun n => match n with | 16 => C1 | 15 => C2 | 6 => C3 | 4 => C4 | 7 => C5 | 0 => C6 | _ => 0, payOf, [(PL33, ("law.<locals>.<lambda>" : Str))]⟩
  have T : Txt W mg := ⟨PySem.W.mg_none_of X G zb_len, PySem.W.mg_none_of X G zb_int, PySem.W.mg_none_of X G zb_list, PySem.W.mg_none_of X G zb_isinstance, PySem.W.mg_none_of X G zb_bool, PySem.W.mg_none_of X G zb_enumerate, PySem.W.mg_none_of X G zb_any, PySem.W.mg_none_of X G zb_tuple, PySem.W.mg_none_of X G zb_ord, PySem.W.mg_none_of X G zb_str, PySem.W.mg_none_of X G zb_range, PySem.W.mg_none_of X G zb_zip, ⟨_, PySem.W.mg_of X G zk_LINE⟩, ⟨_, PySem.W.mg_of X G zk_TAB⟩, ⟨_, PySem.W.mg_of X G zk_FIRST_SIGN⟩, ⟨_, PySem.W.mg_of X G zk_LAST_SIGN⟩, ⟨_, PySem.W.mg_of X G zk_BARRED⟩, ⟨_, PySem.W.mg_of X G zk_MOST_SIGNS⟩, ⟨_, PySem.W.mg_of X G zk_MOST_CELLS⟩, ⟨_, PySem.W.mg_of X G zk_MOST_ROWS⟩, ⟨_, PySem.W.mg_of X G zk_MOST_GAP⟩, ⟨_, PySem.W.mg_of X G zk_MOST_LEAST⟩, ⟨_, PySem.W.mg_of X G zk_MOST_HANDS⟩, ⟨pg_Table, hd_Table, po_Table, sa_Table⟩, ⟨pg_Mark, hd_Mark, po_Mark, sa_Mark⟩, nf_Table_stood, nf_Table_marks, nf_Mark_name, nf_Mark_born, nf_Table_lasting, nf_Mark_cuts, nf_Table_deeds, nf_Mark_sign, nf_Table_undone, nf_Table_style, nf_Table_many, ⟨xe_BadHand, PySem.W.mg_of X G aC_BadHand, xk_BadHand, xs_BadHand, xt_BadHand⟩, ⟨xe_BadCell, PySem.W.mg_of X G aC_BadCell, xk_BadCell, xs_BadCell, xt_BadCell⟩, ⟨xe_TooMuch, PySem.W.mg_of X G aC_TooMuch, xk_TooMuch, xs_TooMuch, xt_TooMuch⟩, PySem.W.mg_of X G aC_BadCell, PySem.W.mg_of X G aC_GrowError, (fun c hc => by rcases List.mem_cons.mp hc with rfl | hc; exact PySem.W.exm_ref zb_BadCell zh_BadCell zt_BadCell zc_BadCell_BadCell; cases hc), (fun c hc => by rcases List.mem_cons.mp hc with rfl | hc; exact PySem.W.exm_ref zb_GrowError zh_GrowError zt_GrowError zc_TooMuch_GrowError; cases hc), (fun c hc => by rcases List.mem_cons.mp hc with rfl | hc; exact PySem.W.exm_ref zb_BadCell zh_BadCell zt_BadCell zc_n_TooMuch_BadCell; cases hc)⟩
  refine ⟨PySem.W.fnOf "law" "law" (defArgs s_law) (defBody s_law) (defScope s_law) .none kV33 dc33 pm33 an33 (.ref cL33) ct33, [(cL33, PL33)], (fun p hp => by rcases List.mem_cons.mp hp with rfl | hp; exact OT _ (List.mem_cons_self) _ (PySem.W.mg_of X G a33) _ _ _ _ _ _ _ _ l33 rfl rfl lcL33 v11_33; cases hp), (fun p hp => by rcases List.mem_cons.mp hp with rfl | hp; exact lPL33; cases hp), (fun p hp => by rcases List.mem_cons.mp hp with rfl | hp; exact PySem.W.codeHd_of_K X chL33; cases hp), fun s v => .of_eq rfl, fun base _ _ hTB => ?_⟩
  have hnd : (W.tabs.map (·.1)).Nodup := List.nodup_cons.mpr ⟨(by intro z; cases z), List.nodup_nil⟩
  have TB33 := hTB (cL33, PL33) (List.mem_cons_self)
  have hW33 : ((PL33, ("law.<locals>.<lambda>" : Str)) ∈ W.tabs) ∧ (W.tabs.map (·.1)).Nodup := ⟨(List.mem_cons_self), hnd⟩
  have F1 : Fun W.K "_law_begun" "_law_begun" s_law_begun f1 _ := fun_mk (st := s_law_begun) l1 c1 k1
  have c_law_begun := (ok_law_begun (P := l.prog) (w := w) (base := base) F1 (PySem.W.mg_of X G a1) T )
  have F2 : Fun W.K "_law_take" "_law_take" s_law_take f2 _ := fun_mk (st := s_law_take) l2 c2 k2
  have c_law_take := (ok_law_take (P := l.prog) (w := w) (base := base) F2 (PySem.W.mg_of X G a2) T )
  have F3 : Fun W.K "_law_sign" "_law_sign" s_law_sign f3 _ := fun_mk (st := s_law_sign) l3 c3 k3
  have c_law_sign := (ok_law_sign (P := l.prog) (w := w) (base := base) F3 (PySem.W.mg_of X G a3) T c_law_take)
  have F4 : Fun W.K "is_number" "is_number" s_is_number f4 _ := fun_mk (st := s_is_number) l4 c4 k4
  have c_is_number := (ok_is_number (P := l.prog) (w := w) (base := base) F4 (PySem.W.mg_of X G a4) T )
  have F5 : Fun W.K "need_hand" "Table.need_hand" s_Table_need_hand f5 _ := fun_mk (st := s_Table_need_hand) l5 c5 k5
  have c_Table_need_hand := (ok_Table_need_hand (P := l.prog) (w := w) (base := base) F5 ⟨a5, i5, k5⟩ T c_is_number)
  have F6 : Fun W.K "number_of" "Table.number_of" s_Table_number_of f6 _ := fun_mk (st := s_Table_number_of) l6 c6 k6
  have c_Table_number_of := (ok_Table_number_of (P := l.prog) (w := w) (base := base) F6 ⟨a6, i6, k6⟩ T )
  have F7 : Fun W.K "is_there" "Table.is_there" s_Table_is_there f7 _ := fun_mk (st := s_Table_is_there) l7 c7 k7
  have c_Table_is_there := (ok_Table_is_there (P := l.prog) (w := w) (base := base) F7 ⟨a7, i7, k7⟩ T )
  have F8 : Fun W.K "right" "Table.right" s_Table_right f8 _ := fun_mk (st := s_Table_right) l8 c8 k8
  have c_Table_right := (ok_Table_right (P := l.prog) (w := w) (base := base) F8 ⟨a8, i8, k8⟩ T c_Table_need_hand c_Table_number_of c_Table_is_there)
  have F9 : Fun W.K "_law_told" "_law_told" s_law_told f9 _ := fun_mk (st := s_law_told) l9 c9 k9
  have c_law_told := ok_law_told (P := l.prog) (w := w) (base := base) (k := 6) F9 (PySem.W.mg_of X G a9) T
  have F10 : Fun W.K "ahead" "Table.ahead" s_Table_ahead f10 _ := fun_mk (st := s_Table_ahead) l10 c10 k10
  have c_Table_ahead := (ok_Table_ahead (P := l.prog) (w := w) (base := base) F10 ⟨a10, i10, k10⟩ T c_Table_number_of c_Table_is_there)
  have F11 : Fun W.K "note" "Table.note" s_Table_note f11 _ := fun_mk (st := s_Table_note) l11 c11 k11
  have c_Table_note := (ok_Table_note (P := l.prog) (w := w) (base := base) F11 ⟨a11, i11, k11⟩ T )
  have F12 : Fun W.K "lines" "Table.lines" s_Table_lines f12 _ := fun_mk (st := s_Table_lines) l12 c12 k12
  have c_Table_lines := (ok_Table_lines (P := l.prog) (w := w) (base := base) F12 ⟨a12, i12, k12⟩ T c_Table_is_there)
  have F13 : Fun W.K "is_sign" "is_sign" s_is_sign f13 _ := fun_mk (st := s_is_sign) l13 c13 k13
  have c_is_sign := (ok_is_sign (P := l.prog) (w := w) (base := base) F13 (PySem.W.mg_of X G a13) T )
  have F14 : Fun W.K "is_cell" "is_cell" s_is_cell f14 _ := fun_mk (st := s_is_cell) l14 c14 k14
  have c_is_cell := (ok_is_cell (P := l.prog) (w := w) (base := base) F14 (PySem.W.mg_of X G a14) T c_is_sign)
  have F15 : Fun W.K "is_row" "is_row" s_is_row f15 _ := fun_mk (st := s_is_row) l15 c15 k15
  have c_is_row := (ok_is_row (P := l.prog) (w := w) (base := base) F15 (PySem.W.mg_of X G a15) T c_is_cell)
  have F16 : Fun W.K "is_page" "Table.is_page" s_Table_is_page f16 _ := fun_mk (st := s_Table_is_page) l16 c16 k16
  have c_Table_is_page := (ok_Table_is_page (P := l.prog) (w := w) (base := base) F16 ⟨a16, i16, k16⟩ T c_Table_lines c_is_row)
  have F17 : Fun W.K "forget" "Table.forget" s_Table_forget f17 _ := fun_mk (st := s_Table_forget) l17 c17 k17
  have c_Table_forget := (ok_Table_forget (P := l.prog) (w := w) (base := base) F17 ⟨a17, i17, k17⟩ T )
  have F18 : Fun W.K "go_on" "Table.go_on" s_Table_go_on f18 _ := fun_mk (st := s_Table_go_on) l18 c18 k18
  have c_Table_go_on := (ok_Table_go_on (P := l.prog) (w := w) (base := base) F18 ⟨a18, i18, k18⟩ T c_Table_number_of c_Table_is_there)
  have F19 : Fun W.K "rub" "Table.rub" s_Table_rub f19 _ := fun_mk (st := s_Table_rub) l19 c19 k19
  have c_Table_rub := (ok_Table_rub (P := l.prog) (w := w) (base := base) F19 ⟨a19, i19, k19⟩ T c_Table_need_hand c_Table_ahead c_Table_note c_Table_is_page c_Table_forget c_Table_go_on)
  have F20 : Fun W.K "turn" "Table.turn" s_Table_turn f20 _ := fun_mk (st := s_Table_turn) l20 c20 k20
  have c_Table_turn := (ok_Table_turn (P := l.prog) (w := w) (base := base) F20 ⟨a20, i20, k20⟩ T c_Table_is_page c_Table_go_on)
  have F21 : Fun W.K "back" "Table.back" s_Table_back f21 _ := fun_mk (st := s_Table_back) l21 c21 k21
  have c_Table_back := (ok_Table_back (P := l.prog) (w := w) (base := base) F21 ⟨a21, i21, k21⟩ T c_Table_need_hand c_Table_turn)
  have F22 : Fun W.K "again" "Table.again" s_Table_again f22 _ := fun_mk (st := s_Table_again) l22 c22 k22
  have c_Table_again := (ok_Table_again (P := l.prog) (w := w) (base := base) F22 ⟨a22, i22, k22⟩ T c_Table_need_hand c_Table_turn)
  have F23 : Fun W.K "_law_alike" "_law_alike" s_law_alike f23 _ := fun_mk (st := s_law_alike) l23 c23 k23
  have c_law_alike := rec_law_alike (P := l.prog) (w := w) (base := base) F23 (PySem.W.mg_of X G a23) T 8
  have F24 : Fun W.K "_law_due" "_law_due" s_law_due f24 _ := fun_mk (st := s_law_due) l24 c24 k24
  have c_law_due := (ok_law_due (P := l.prog) (w := w) (base := base) F24 (PySem.W.mg_of X G a24) T )
  have F25 : Fun W.K "page" "Table.page" s_Table_page f25 _ := fun_mk (st := s_Table_page) l25 c25 k25
  have c_Table_page := (ok_Table_page (P := l.prog) (w := w) (base := base) F25 ⟨a25, i25, k25⟩ T c_Table_lines)
  have F26 : Fun W.K "at" "Table.at" s_Table_at f26 _ := fun_mk (st := s_Table_at) l26 c26 k26
  have c_Table_at := (ok_Table_at (P := l.prog) (w := w) (base := base) F26 ⟨a26, i26, k26⟩ T c_Table_need_hand c_Table_ahead)
  have F27 : Fun W.K "told" "Table.told" s_Table_told f27 _ := fun_mk (st := s_Table_told) l27 c27 k27
  have c_Table_told := (ok_Table_told (P := l.prog) (w := w) (base := base) F27 ⟨a27, i27, k27⟩ T )
  have F28 : Fun W.K "need_page" "need_page" s_need_page f28 _ := fun_mk (st := s_need_page) l28 c28 k28
  have c_need_page := (ok_need_page (P := l.prog) (w := w) (base := base) F28 (PySem.W.mg_of X G a28) T c_is_row)
  have F29 : Fun W.K "need_style" "need_style" s_need_style f29 _ := fun_mk (st := s_need_style) l29 c29 k29
  have c_need_style := (ok_need_style (P := l.prog) (w := w) (base := base) F29 (PySem.W.mg_of X G a29) T c_is_number)
  have F30 : Fun W.K "written" "written" s_written f30 _ := fun_mk (st := s_written) l30 c30 k30
  have c_written := (ok_written (P := l.prog) (w := w) (base := base) F30 (PySem.W.mg_of X G a30) T c_need_page)
  have F31 : Fun W.K "__init__" "Mark.__init__" s_Mark_init f31 _ := fun_mk (st := s_Mark_init) l31 c31 k31
  have n_Mark := (ok_Mark_init (P := l.prog) (w := w) (base := base) F31 ⟨mk_Mark, a31, i31, kc_Mark⟩ (PySem.W.mg_of X G aC_Mark) T )
  have F32 : Fun W.K "__init__" "Table.__init__" s_Table_init f32 _ := fun_mk (st := s_Table_init) l32 c32 k32
  have n_Table := (ok_Table_init (P := l.prog) (w := w) (base := base) F32 ⟨mk_Table, a32, i32, kc_Table⟩ (PySem.W.mg_of X G aC_Table) T c_need_page c_need_style c_is_number c_written n_Mark)
  have F33 : Fun W.K "law" "law" s_law fa _ := fun_mk (st := s_law) l33 c33 k33
  exact law_ofT (T := [PL33]) (ok_law (P := l.prog) (w := w) (base := base) F33 T c_law_begun c_law_take c_law_sign c_Table_right c_law_told c_Table_rub c_Table_back c_Table_again c_law_alike c_law_due c_Table_page c_Table_at c_Table_told n_Table TB33 hW33 rfl) HT (fun p hp => by rcases List.mem_cons.mp hp with rfl | hp; exact (List.mem_cons_self); cases hp)
theorem walk {l : PySem.W.OpenLaw} {q : Program} {loose : List Str} {XP : (Str → Option Value) → Heap → Prop} {YP : World → Heap → Prop} {d : DefRec} {K : Params → PySem.W.Frag} (hn : l.most = some 63) (hdf : d.params.defaults = []) (hL : ∀ w : World, noList (K w.params))
    (hY : ∀ (w : World) (h : Heap), YP w h → (K w.params).In h)
    (hrec : ∀ nm ∈ (["law"] : List Str), ((PyProof.Rows.recsOf q).any fun e => e.name == nm) = true)
    (F : ∀ (w : World) (mg : Str → Option Value) (fa : Addr) (h : Heap), (K w.params).In h → h.Ns mainGlobals mg → mg d.name = some (.ref fa) → (∀ nm ∈ (["law"] : List Str), ∀ f, mg nm = some (.ref f) → LamX.OwnTab (K w.params) f h) → ∃ (fd : FuncData) (cs : List (Addr × Addr)), (∀ p ∈ cs, h.get? p.2 = some { cls := .none, data := .fields #[] }) ∧ (∀ p ∈ cs, (K w.params).lookup p.2 = none) ∧ (∀ p ∈ cs, PySem.W.CodeHd h p.1 p.2) ∧ (∀ (s : Shared) (u : Value), BindsTo s fd ⟨[u], []⟩ [("_law_script", u)]) ∧ ∀ base : Heap, (K w.params).In base → base.Ns mainGlobals mg → (∀ p ∈ cs, LamX.TabB base mg p.1 p.2) → FnOk l.prog w (K w.params) mg base (L2.CX l.prog w) 9 fa fd ["_law_script"] (spLawT (cs.map (·.2)) 63)) :
    PySem.W.WalkO q loose XP YP l.row.toRowW d [] (fun f vs => PySem.call f vs) := law_walkTs (n := 63) (k := 9) (x := "_law_script") (["law"] : List Str) hn (by decide) hdf ⟨rfl, by decide, by decide⟩ hrec hL hY F
end W37
open PySem PySem.W PyProof.Rows in
set_option maxRecDepth 100000 in
set_option maxHeartbeats 0 in
theorem PySem.Challenge.cw_tabgrow_k37_whole_one_sign_many_rubs_holds : PySem.Challenge.rw_tabgrow_k37_whole_one_sign_many_rubs.Holds := by
  w_on; o_law; k_head; (case hw => w_witness2)
  k_fill
  refine W37.walk (l := PySem.Challenge.rw_tabgrow_k37_whole_one_sign_many_rubs) rfl rfl ?L (fun w h Y => by first | exact PySem.W.km_in_of Y | exact PySem.W.kIn_of Y) ?R ?F
  case R => (intro nm hn; rcases List.mem_cons.mp hn with rfl | hn; (first | rfl | decide +kernel); cases hn)
  case L => exact fun w => Dl.noList_of rfl
  case F =>
    intro w mg fa h KX G hmg OT
    refine' W37.all_mk Dl.law_k37_true KX G hmg OT ?zb_len ?zb_int ?zb_list ?zb_isinstance ?zb_bool ?zb_enumerate ?zb_any ?zb_tuple ?zb_ord ?zb_str ?zb_range ?zb_zip ?zk_LINE ?zk_TAB ?zk_FIRST_SIGN ?zk_LAST_SIGN ?zk_BARRED ?zk_MOST_SIGNS ?zk_MOST_CELLS ?zk_MOST_ROWS ?zk_MOST_GAP ?zk_MOST_LEAST ?zk_MOST_HANDS ?aC_Table ?pg_Table ?hd_Table ?po_Table ?sa_Table ?mk_Table ?kc_Table ?aC_Mark ?pg_Mark ?hd_Mark ?po_Mark ?sa_Mark ?mk_Mark ?kc_Mark ?aC_BadHand ?aC_BadCell ?aC_TooMuch ?aC_GrowError ?xe_BadHand ?xk_BadHand ?xs_BadHand ?xt_BadHand ?xe_BadCell ?xk_BadCell ?xs_BadCell ?xt_BadCell ?xe_TooMuch ?xk_TooMuch ?xs_TooMuch ?xt_TooMuch ?zb_BadCell ?zh_BadCell ?zt_BadCell ?zc_BadCell_BadCell ?zb_GrowError ?zh_GrowError ?zt_GrowError ?zc_TooMuch_GrowError ?zc_n_TooMuch_BadCell ?nf_Table_stood ?nf_Table_marks ?nf_Mark_name ?nf_Mark_born ?nf_Table_lasting ?nf_Mark_cuts ?nf_Table_deeds ?nf_Mark_sign ?nf_Table_undone ?nf_Table_style ?nf_Table_many ?a1 ?l1 ?c1 ?k1 ?a2 ?l2 ?c2 ?k2 ?a3 ?l3 ?c3 ?k3 ?a4 ?l4 ?c4 ?k4 ?a5 ?i5 ?l5 ?c5 ?k5 ?a6 ?i6 ?l6 ?c6 ?k6 ?a7 ?i7 ?l7 ?c7 ?k7 ?a8 ?i8 ?l8 ?c8 ?k8 ?a9 ?l9 ?c9 ?k9 ?a10 ?i10 ?l10 ?c10 ?k10 ?a11 ?i11 ?l11 ?c11 ?k11 ?a12 ?i12 ?l12 ?c12 ?k12 ?a13 ?l13 ?c13 ?k13 ?a14 ?l14 ?c14 ?k14 ?a15 ?l15 ?c15 ?k15 ?a16 ?i16 ?l16 ?c16 ?k16 ?a17 ?i17 ?l17 ?c17 ?k17 ?a18 ?i18 ?l18 ?c18 ?k18 ?a19 ?i19 ?l19 ?c19 ?k19 ?a20 ?i20 ?l20 ?c20 ?k20 ?a21 ?i21 ?l21 ?c21 ?k21 ?a22 ?i22 ?l22 ?c22 ?k22 ?a23 ?l23 ?c23 ?k23 ?a24 ?l24 ?c24 ?k24 ?a25 ?i25 ?l25 ?c25 ?k25 ?a26 ?i26 ?l26 ?c26 ?k26 ?a27 ?i27 ?l27 ?c27 ?k27 ?a28 ?l28 ?c28 ?k28 ?a29 ?l29 ?c29 ?k29 ?a30 ?l30 ?c30 ?k30 ?a31 ?i31 ?l31 ?c31 ?k31 ?a32 ?i32 ?l32 ?c32 ?k32 ?a33 ?l33 ?lcL33 ?v11_33 ?lPL33 ?chL33 ?c33 ?k33
    (case zb_len => k_is)
    (case zb_int => k_is)
    (case zb_list => k_is)
    (case zb_isinstance => k_is)
    (case zb_bool => k_is)
    (case zb_enumerate => k_is)
    (case zb_any => k_is)
    (case zb_tuple => k_is)
    (case zb_ord => k_is)
    (case zb_str => k_is)
    (case zb_range => k_is)
    (case zb_zip => k_is)
    (case zk_LINE => k_is)
    (case zk_TAB => k_is)
    (case zk_FIRST_SIGN => k_is)
    (case zk_LAST_SIGN => k_is)
    (case zk_BARRED => k_is)
    (case zk_MOST_SIGNS => k_is)
    (case zk_MOST_CELLS => k_is)
    (case zk_MOST_ROWS => k_is)
    (case zk_MOST_GAP => k_is)
    (case zk_MOST_LEAST => k_is)
    (case zk_MOST_HANDS => k_is)
    (case aC_Table => k_is)
    (case pg_Table => k_is)
    (case hd_Table => k_is)
    (case po_Table => k_is)
    (case sa_Table => k_is)
    (case mk_Table => k_is)
    (case kc_Table => k_is)
    (case aC_Mark => k_is)
    (case pg_Mark => k_is)
    (case hd_Mark => k_is)
    (case po_Mark => k_is)
    (case sa_Mark => k_is)
    (case mk_Mark => k_is)
    (case kc_Mark => k_is)
    (case aC_BadHand => k_is)
    (case aC_BadCell => k_is)
    (case aC_TooMuch => k_is)
    (case aC_GrowError => k_is)
    (case xe_BadHand => k_exc)
    (case xk_BadHand => k_is)
    (case xs_BadHand => k_is)
    (case xt_BadHand => k_is)
    (case xe_BadCell => k_exc)
    (case xk_BadCell => k_is)
    (case xs_BadCell => k_is)
    (case xt_BadCell => k_is)
    (case xe_TooMuch => k_exc)
    (case xk_TooMuch => k_is)
    (case xs_TooMuch => k_is)
    (case xt_TooMuch => k_is)
    (case zb_BadCell => k_is)
    (case zh_BadCell => k_is)
    (case zt_BadCell => k_is)
    (case zc_BadCell_BadCell => first | k_is | rfl)
    (case zb_GrowError => k_is)
    (case zh_GrowError => k_is)
    (case zt_GrowError => k_is)
    (case zc_TooMuch_GrowError => first | k_is | rfl)
    (case zc_n_TooMuch_BadCell => first | k_is | rfl)
    (case nf_Table_stood => k_is)
    (case nf_Table_marks => k_is)
    (case nf_Mark_name => k_is)
    (case nf_Mark_born => k_is)
    (case nf_Table_lasting => k_is)
    (case nf_Mark_cuts => k_is)
    (case nf_Table_deeds => k_is)
    (case nf_Mark_sign => k_is)
    (case nf_Table_undone => k_is)
    (case nf_Table_style => k_is)
    (case nf_Table_many => k_is)
    (case a1 => k_is)
    (case l1 => k_is)
    (case c1 => k_is)
    (case k1 => k_is)
    (case a2 => k_is)
    (case l2 => k_is)
    (case c2 => k_is)
    (case k2 => k_is)
    (case a3 => k_is)
    (case l3 => k_is)
    (case c3 => k_is)
    (case k3 => k_is)
    (case a4 => k_is)
    (case l4 => k_is)
    (case c4 => k_is)
    (case k4 => k_is)
    (case a5 => k_is)
    (case i5 => k_is)
    (case l5 => k_is)
    (case c5 => k_is)
    (case k5 => k_is)
    (case a6 => k_is)
    (case i6 => k_is)
    (case l6 => k_is)
    (case c6 => k_is)
    (case k6 => k_is)
    (case a7 => k_is)
    (case i7 => k_is)
    (case l7 => k_is)
    (case c7 => k_is)
    (case k7 => k_is)
    (case a8 => k_is)
    (case i8 => k_is)
    (case l8 => k_is)
    (case c8 => k_is)
    (case k8 => k_is)
    (case a9 => k_is)
    (case l9 => k_is)
    (case c9 => k_is)
    (case k9 => k_is)
    (case a10 => k_is)
    (case i10 => k_is)
    (case l10 => k_is)
    (case c10 => k_is)
    (case k10 => k_is)
    (case a11 => k_is)
    (case i11 => k_is)
    (case l11 => k_is)
    (case c11 => k_is)
    (case k11 => k_is)
    (case a12 => k_is)
    (case i12 => k_is)
    (case l12 => k_is)
    (case c12 => k_is)
    (case k12 => k_is)
    (case a13 => k_is)
    (case l13 => k_is)
    (case c13 => k_is)
    (case k13 => k_is)
    (case a14 => k_is)
    (case l14 => k_is)
    (case c14 => k_is)
    (case k14 => k_is)
    (case a15 => k_is)
    (case l15 => k_is)
    (case c15 => k_is)
    (case k15 => k_is)
    (case a16 => k_is)
    (case i16 => k_is)
    (case l16 => k_is)
    (case c16 => k_is)
    (case k16 => k_is)
    (case a17 => k_is)
    (case i17 => k_is)
    (case l17 => k_is)
    (case c17 => k_is)
    (case k17 => k_is)
    (case a18 => k_is)
    (case i18 => k_is)
    (case l18 => k_is)
    (case c18 => k_is)
    (case k18 => k_is)
    (case a19 => k_is)
    (case i19 => k_is)
    (case l19 => k_is)
    (case c19 => k_is)
    (case k19 => k_is)
    (case a20 => k_is)
    (case i20 => k_is)
    (case l20 => k_is)
    (case c20 => k_is)
    (case k20 => k_is)
    (case a21 => k_is)
    (case i21 => k_is)
    (case l21 => k_is)
    (case c21 => k_is)
    (case k21 => k_is)
    (case a22 => k_is)
    (case i22 => k_is)
    (case l22 => k_is)
    (case c22 => k_is)
    (case k22 => k_is)
    (case a23 => k_is)
    (case l23 => k_is)
    (case c23 => k_is)
    (case k23 => k_is)
    (case a24 => k_is)
    (case l24 => k_is)
    (case c24 => k_is)
    (case k24 => k_is)
    (case a25 => k_is)
    (case i25 => k_is)
    (case l25 => k_is)
    (case c25 => k_is)
    (case k25 => k_is)
    (case a26 => k_is)
    (case i26 => k_is)
    (case l26 => k_is)
    (case c26 => k_is)
    (case k26 => k_is)
    (case a27 => k_is)
    (case i27 => k_is)
    (case l27 => k_is)
    (case c27 => k_is)
    (case k27 => k_is)
    (case a28 => k_is)
    (case l28 => k_is)
    (case c28 => k_is)
    (case k28 => k_is)
    (case a29 => k_is)
    (case l29 => k_is)
    (case c29 => k_is)
    (case k29 => k_is)
    (case a30 => k_is)
    (case l30 => k_is)
    (case c30 => k_is)
    (case k30 => k_is)
    (case a31 => k_is)
    (case i31 => k_is)
    (case l31 => k_is)
    (case c31 => k_is)
    (case k31 => k_is)
    (case a32 => k_is)
    (case i32 => k_is)
    (case l32 => k_is)
    (case c32 => k_is)
    (case k32 => k_is)
    (case a33 => k_is)
    (case l33 => k_is)
    (case lcL33 => k_is)
    (case v11_33 => first | rfl | decide +kernel)
    (case lPL33 => first | rfl | decide +kernel)
    (case chL33 => first | rfl | decide +kernel)
    (case c33 => k_is)
    (case k33 => k_is)
#print axioms PySem.Challenge.cw_tabgrow_k37_whole_one_sign_many_rubs_holds
