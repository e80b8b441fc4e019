import PyProof.Rows.All
import Wide.All
import OpenK.AllK
import Wide.FinOn
import HandS.ForMost
import HandS.ForExc
import HandS.Lambda
import HandS.TupAny
import HandS.TupMul
import HandS.Style
import HandS.Wide
import HandS.IsInst
import HandS.Zip
import HandS.ExcOwn
import HandS.ExcIs
import HandS.TryOnly
import HandS.Conv
import KE.KDflt
import HandS.ExcInit
import OpenK.KCls
import HandS.ExcField
import HandS.EndOwn
import KE.KNestM
import HandS.Deep
import HandS.StrMore
import PyProof.Rows.StrCut
import HandS.ReplaceList
import HandS.More
import PyProof.ListStr
import KE.GoesZip
import KE.GoesMore
import KE.GoesEnum
import PySem.Challenge.RW_tabgrow_k22_whole_drawn_anew_where_it_di
set_option Elab.async false
set_option linter.all false
set_option maxRecDepth 100000
namespace Dl
open PySem L2
/-- data: plain values, frozen tuples and lists, and references into the store -/
inductive D where
  | non | bl (b : Bool) | int (i : Int) | str (s : List Nat) | tup (ds : List D) | lst (ds : List D) | ref (n : Nat) | scr (ns : List Int)
  /-- an exception as an except suite holds it: where it stands, its dict, its field, its number -/
  | exn (a : Nat) (o : Option (Nat × Str × Int))
  deriving Inhabited
mutual
def D.beq : D → D → Bool
  | .non, .non => true
  | .bl a, .bl b => a == b
  | .int a, .int b => a == b
  | .str a, .str b => a == b
  | .tup a, .tup b => D.beqs a b
  | .lst a, .lst b => D.beqs a b
  | .ref a, .ref b => a == b
  | .scr a, .scr b => a == b
  | .exn a o, .exn b u => decide (a = b ∧ o = u)
  | _, _ => false
def D.beqs : List D → List D → Bool
  | [], [] => true
  | x :: xs, y :: ys => D.beq x y && D.beqs xs ys
  | _, _ => false
end
mutual
theorem D.beq_refl : ∀ d : D, D.beq d d = true
  | .non => rfl
  | .bl a => by simp [D.beq]
  | .int a => by simp [D.beq]
  | .str a => by simp [D.beq]
  | .tup a => by unfold D.beq; exact D.beqs_refl a
  | .lst a => by unfold D.beq; exact D.beqs_refl a
  | .ref a => by simp [D.beq]
  | .scr a => by simp [D.beq]
  | .exn a o => by simp [D.beq]
theorem D.beqs_refl : ∀ ds : List D, D.beqs ds ds = true
  | [] => rfl
  | x :: xs => by unfold D.beqs; rw [D.beq_refl x, D.beqs_refl xs]; rfl
end
mutual
theorem D.eq_of_beq : ∀ (d e : D), D.beq d e = true → d = e
  | .non, e, h => by cases e <;> simp_all [D.beq]
  | .bl a, e, h => by cases e <;> simp_all [D.beq]
  | .int a, e, h => by cases e <;> simp_all [D.beq]
  | .str a, e, h => by cases e <;> simp_all [D.beq]
  | .ref a, e, h => by cases e <;> simp_all [D.beq]
  | .scr a, e, h => by cases e <;> simp_all [D.beq]
  | .exn a o, e, h => by cases e <;> simp_all [D.beq]
  | .tup a, e, h => by
    cases e with
    | tup b => unfold D.beq at h; rw [D.eqs_of_beqs a b h]
    | _ => simp [D.beq] at h
  | .lst a, e, h => by
    cases e with
    | lst b => unfold D.beq at h; rw [D.eqs_of_beqs a b h]
    | _ => simp [D.beq] at h
theorem D.eqs_of_beqs : ∀ (ds es : List D), D.beqs ds es = true → ds = es
  | [], es, h => by cases es <;> simp_all [D.beqs]
  | x :: xs, es, h => by
    cases es with
    | nil => simp [D.beqs] at h
    | cons y ys =>
      unfold D.beqs at h
      rw [Bool.and_eq_true] at h
      rw [D.eq_of_beq x y h.1, D.eqs_of_beqs xs ys h.2]
end
/-- what stands in the store -/
inductive Ob where
  | lst (ds : List D)
  | ins (C : Nat) (fs : List (Str × D))
  | dK (kvs : List (Key × D))
  | dT (kvs : List (List Key × D))
  | dead
abbrev Store := List Ob
abbrev Env := List (Option D)
/-- the longest text, list -/
def LIM : Nat := 1000000
/-- how an end came: a value, an exception (its class, what it bears), or no word is said -/
inductive R (A : Type) where
  | ok (a : A)
  | exc (c : Nat) (p : Option D) (st : Store)
  | bad
def R.bind {A B : Type} (r : R A) (f : A → R B) : R B := match r with
  | .ok a => f a
  | .exc c p st => .exc c p st
  | .bad => .bad
@[simp] theorem R.bind_ok {A B : Type} (a : A) (f : A → R B) : (R.ok a).bind f = f a := rfl
@[simp] theorem R.bind_exc {A B : Type} (c : Nat) (p : Option D) (st : Store) (f : A → R B) : (R.exc c p st).bind f = .exc c p st := rfl
@[simp] theorem R.bind_bad {A B : Type} (f : A → R B) : (R.bad).bind f = R.bad := rfl
/-- a value that may lack -/
def R.of {A : Type} : Option A → R A
  | some a => .ok a
  | none => .bad
@[simp] theorem R.of_some {A : Type} (a : A) : R.of (some a) = .ok a := rfl
@[simp] theorem R.of_none {A : Type} : R.of (none : Option A) = .bad := rfl
/-- the world: the written part, the classes by number, the one field of an exception's class -/
structure Wd where
  K : PySem.W.Frag
  cls : Nat → Addr
  pay : Nat → Option Str
  /-- the tables of the defs that make lambdas, the lambdas' names -/
  tabs : List (Addr × Str)
/-- the script's list -/
def ScrAt (F : Hp) (a : Addr) (ns : List Int) : Prop := (∃ o, F a = some (.frz o (.lst (ns.map V.int)))) ∨ F a = some (.lst (ns.map V.int))
theorem ScrAt.mono {F F' : Hp} {a : Addr} {ns : List Int} (s : Same F F') : ScrAt F a ns → ScrAt F' a ns
  | .inl ⟨o, h⟩ => .inl ⟨o, s _ _ h⟩
  | .inr h => .inr (s _ _ h)
theorem ScrAt.sq {F H : Hp} {a : Addr} {ns : List Int} {K : PySem.W.Frag} (s : Same F H) : ScrAt F a ns → SqL K H a (ns.map V.int)
  | .inl ⟨o, h⟩ => .inl (.inr ⟨o, s _ _ h⟩)
  | .inr h => .of (s _ _ h)
mutual
inductive Rep (F : Hp) (rho : List Addr) : V → D → Prop
  | non : Rep F rho .non .non
  | bl (b : Bool) : Rep F rho (.bl b) (.bl b)
  | int (i : Int) : Rep F rho (.int i) (.int i)
  | str (s : List Nat) : s.all (fun c => decide (c < 128)) = true → s.length ≤ LIM → Rep F rho (.str ⟨s.toArray⟩) (.str s)
  | tup {a : Addr} {vs : List V} {ds : List D} : F a = some (.tup vs) → Reps F rho vs ds → Rep F rho (.ref a) (.tup ds)
  | lst {a : Addr} {vs : List V} {ds : List D} : F a = some (.lst vs) → Reps F rho vs ds → Rep F rho (.ref a) (.lst ds)
  | ref {a : Addr} {n : Nat} : rho[n]? = some a → Rep F rho (.ref a) (.ref n)
  | scr {a : Addr} {ns : List Int} : ScrAt F a ns → Rep F rho (.ref a) (.scr ns)
  | exn0 (a : Addr) : Rep F rho (.ref a) (.exn a none)
  | exn1 {a dd : Addr} {f : Str} {i : Int} : F dd = some (.xd [(f, .int i)]) → Rep F rho (.ref a) (.exn a (some (dd, f, i)))
inductive Reps (F : Hp) (rho : List Addr) : List V → List D → Prop
  | nil : Reps F rho [] []
  | cons {v : V} {vs : List V} {d : D} {ds : List D} : Rep F rho v d → Reps F rho vs ds → Reps F rho (v :: vs) (d :: ds)
end
def Ext (r r' : List Addr) : Prop := ∀ (i : Nat) (a : Addr), r[i]? = some a → r'[i]? = some a
theorem Ext.refl (r : List Addr) : Ext r r := fun _ _ h => h
theorem Ext.trans {a b c : List Addr} (h : Ext a b) (k : Ext b c) : Ext a c := fun i x e => k i x (h i x e)
theorem Ext.snoc (r : List Addr) (a : Addr) : Ext r (r ++ [a]) := fun i x e => by
  have h := (List.getElem?_eq_some_iff.mp e).1
  rw [List.getElem?_append_left h]; exact e
section
variable {F F' : Hp} {r r' : List Addr}
mutual
theorem Rep.mono (s : Same F F') (x : Ext r r') : ∀ {d : D} {v : V}, Rep F r v d → Rep F' r' v d
  | _, _, .non => .non
  | _, _, .bl b => .bl b
  | _, _, .int i => .int i
  | _, _, .str t h1 h2 => .str t h1 h2
  | _, _, .tup h k => .tup (s _ _ h) (Reps.mono s x k)
  | _, _, .lst h k => .lst (s _ _ h) (Reps.mono s x k)
  | _, _, .ref h => .ref (x _ _ h)
  | _, _, .scr h => .scr (h.mono s)
  | _, _, .exn0 a => .exn0 a
  | _, _, .exn1 h => .exn1 (s _ _ h)
theorem Reps.mono (s : Same F F') (x : Ext r r') : ∀ {ds : List D} {vs : List V}, Reps F r vs ds → Reps F' r' vs ds
  | _, _, .nil => .nil
  | _, _, .cons h k => .cons (Rep.mono s x h) (Reps.mono s x k)
end
end
section
variable {F : Hp} {r : List Addr}
theorem Reps.length : ∀ {vs : List V} {ds : List D}, Reps F r vs ds → vs.length = ds.length
  | _, _, .nil => rfl
  | _, _, .cons _ k => by simp [Reps.length k]
theorem Reps.get : ∀ {vs : List V} {ds : List D} {i : Nat} {d : D}, Reps F r vs ds → ds[i]? = some d → ∃ v, vs[i]? = some v ∧ Rep F r v d
  | _, _, _, _, .nil, e => by simp at e
  | _, _, 0, _, .cons h _, e => by simp at e; subst e; exact ⟨_, rfl, h⟩
  | _, _, i + 1, d, .cons _ k, e => by
    obtain ⟨v, h1, h2⟩ := Reps.get (i := i) k (by simpa using e)
    exact ⟨v, by simpa using h1, h2⟩
theorem Reps.append : ∀ {vs ws : List V} {ds es : List D}, Reps F r vs ds → Reps F r ws es → Reps F r (vs ++ ws) (ds ++ es)
  | _, _, _, _, .nil, k => k
  | _, _, _, _, .cons h t, k => .cons h (Reps.append t k)
theorem Reps.take : ∀ {vs : List V} {ds : List D} (n : Nat), Reps F r vs ds → Reps F r (vs.take n) (ds.take n)
  | _, _, 0, _ => .nil
  | _, _, _ + 1, .nil => .nil
  | _, _, n + 1, .cons h t => .cons h (Reps.take n t)
theorem Reps.drop : ∀ {vs : List V} {ds : List D} (n : Nat), Reps F r vs ds → Reps F r (vs.drop n) (ds.drop n)
  | _, _, 0, h => h
  | _, _, _ + 1, .nil => .nil
  | _, _, n + 1, .cons _ t => Reps.drop n t
theorem Reps.set {v : V} {d : D} (h : Rep F r v d) : ∀ {vs : List V} {ds : List D} (i : Nat), Reps F r vs ds → Reps F r (vs.set i v) (ds.set i d)
  | _, _, _, .nil => .nil
  | _, _, 0, .cons _ t => .cons h t
  | _, _, i + 1, .cons q t => .cons q (Reps.set h i t)
theorem Reps.eraseIdx : ∀ {vs : List V} {ds : List D} (i : Nat), Reps F r vs ds → Reps F r (vs.eraseIdx i) (ds.eraseIdx i)
  | _, _, _, .nil => .nil
  | _, _, 0, .cons _ t => t
  | _, _, i + 1, .cons q t => .cons q (Reps.eraseIdx i t)
theorem Reps.reverse : ∀ {vs : List V} {ds : List D}, Reps F r vs ds → Reps F r vs.reverse ds.reverse
  | _, _, .nil => .nil
  | _, _, .cons h t => by rw [List.reverse_cons, List.reverse_cons]; exact Reps.append (Reps.reverse t) (.cons h .nil)
theorem Reps.flat {vs : List V} {ds : List D} (h : Reps F r vs ds) : ∀ k : Nat, Reps F r (List.replicate k vs).flatten (List.replicate k ds).flatten
  | 0 => .nil
  | k + 1 => by rw [List.replicate_succ, List.replicate_succ, List.flatten_cons, List.flatten_cons]; exact Reps.append h (Reps.flat h k)
theorem Reps.snoc {vs : List V} {ds : List D} {v : V} {d : D} (h : Reps F r vs ds) (k : Rep F r v d) : Reps F r (vs ++ [v]) (ds ++ [d]) := Reps.append h (.cons k .nil)
end
/-- the fields of an instance -/
def Flds (F : Hp) (r : List Addr) : List (Str × V) → List (Str × D) → Prop
  | [], [] => True
  | (f, v) :: vs, (g, d) :: ds => f = g ∧ Rep F r v d ∧ Flds F r vs ds
  | _, _ => False
theorem Flds.mono {F F' : Hp} {r r' : List Addr} (s : Same F F') (x : Ext r r') : ∀ {vs : List (Str × V)} {ds : List (Str × D)}, Flds F r vs ds → Flds F' r' vs ds
  | [], [], _ => trivial
  | (f, v) :: vs, (g, d) :: ds, ⟨e, h, k⟩ => ⟨e, h.mono s x, Flds.mono s x k⟩
  | [], _ :: _, h => h.elim
  | _ :: _, [], h => h.elim
theorem Flds.look {F : Hp} {r : List Addr} {f : Str} : ∀ {vs : List (Str × V)} {ds : List (Str × D)} {d : D}, Flds F r vs ds → ds.lookup f = some d → ∃ v, vs.lookup f = some v ∧ Rep F r v d
  | [], [], _, _, e => by simp at e
  | (g, v) :: vs, (g', d') :: ds, d, ⟨e, h, k⟩, q => by
    subst e
    rw [List.lookup_cons] at q ⊢
    cases hb : f == g with
    | true => rw [hb] at q; cases q; exact ⟨v, rfl, h⟩
    | false => rw [hb] at q; exact Flds.look k q
  | [], _ :: _, _, h, _ => h.elim
  | _ :: _, [], _, h, _ => h.elim
theorem Flds.lookN {F : Hp} {r : List Addr} {f : Str} : ∀ {vs : List (Str × V)} {ds : List (Str × D)}, Flds F r vs ds → ds.lookup f = none → vs.lookup f = none
  | [], [], _, _ => rfl
  | (g, v) :: vs, (g', d') :: ds, ⟨e, h, k⟩, q => by
    subst e
    rw [List.lookup_cons] at q ⊢
    cases hb : f == g with
    | true => rw [hb] at q; cases q
    | false => rw [hb] at q; exact Flds.lookN k q
  | [], _ :: _, h, _ => h.elim
  | _ :: _, [], h, _ => h.elim
def putD (f : Str) (v : D) : List (Str × D) → List (Str × D)
  | [] => [(f, v)]
  | (g, u) :: r => if g = f then (g, v) :: r else (g, u) :: putD f v r
theorem Flds.put {F : Hp} {r : List Addr} {f : Str} {v : V} {d : D} (h : Rep F r v d) : ∀ {vs : List (Str × V)} {ds : List (Str × D)}, Flds F r vs ds → Flds F r (putF f v vs) (putD f d ds)
  | [], [], _ => ⟨rfl, h, trivial⟩
  | (g, v') :: vs, (g', d') :: ds, ⟨e, q, k⟩ => by
    subst e
    unfold putF putD
    split
    · exact ⟨rfl, h, k⟩
    · exact ⟨rfl, q, Flds.put h k⟩
  | [], _ :: _, h => h.elim
  | _ :: _, [], h => h.elim
theorem Flds.length {F : Hp} {r : List Addr} : ∀ {vs : List (Str × V)} {ds : List (Str × D)}, Flds F r vs ds → vs.length = ds.length
  | [], [], _ => rfl
  | (g, v) :: vs, (g', d) :: ds, ⟨_, _, k⟩ => by simp [Flds.length k]
  | [], _ :: _, h => h.elim
  | _ :: _, [], h => h.elim
def KVr {k : Type} (F : Hp) (r : List Addr) : List (k × V) → List (k × D) → Prop
  | [], [] => True
  | (f, v) :: vs, (g, d) :: ds => f = g ∧ Rep F r v d ∧ KVr F r vs ds
  | _, _ => False
theorem KVr.mono {k : Type} {F F' : Hp} {r r' : List Addr} (s : Same F F') (x : Ext r r') : ∀ {vs : List (k × V)} {ds : List (k × D)}, KVr F r vs ds → KVr F' r' vs ds
  | [], [], _ => trivial
  | (f, v) :: vs, (g, d) :: ds, ⟨e, h, k⟩ => ⟨e, h.mono s x, KVr.mono s x k⟩
  | [], _ :: _, h => h.elim
  | _ :: _, [], h => h.elim
/-- the object at a is the store's o -/
def ObOk (W : Wd) (F : Hp) (r : List Addr) (H : Hp) (a : Addr) : Ob → Prop
  | .lst ds => ∃ vs, H a = some (.lst vs) ∧ Reps F r vs ds
  | .ins C fs => ∃ dx vfs, H a = some (.ins (W.cls C) dx vfs) ∧ Flds F r vfs fs
  | .dK kvs => ∃ vs, H a = some (.dK vs) ∧ KVr F r vs kvs
  | .dT kvs => ∃ vs, H a = some (.dT vs) ∧ KVr F r vs kvs
  | .dead => ∃ o, H a = some o ∧ (∀ ps, o ≠ .tbl ps) ∧ ∀ φ, o ≠ .ext φ
theorem ObOk.mono {W : Wd} {F F' H H' : Hp} {r r' : List Addr} {a : Addr} (s : Same F F') (x : Ext r r') (h : H' a = H a) : ∀ {o : Ob}, ObOk W F r H a o → ObOk W F' r' H' a o
  | .lst _, ⟨vs, e, k⟩ => ⟨vs, h.trans e, k.mono s x⟩
  | .ins _ _, ⟨dx, vs, e, k⟩ => ⟨dx, vs, h.trans e, k.mono s x⟩
  | .dK _, ⟨vs, e, k⟩ => ⟨vs, h.trans e, k.mono s x⟩
  | .dT _, ⟨vs, e, k⟩ => ⟨vs, h.trans e, k.mono s x⟩
  | .dead, ⟨o, e, k⟩ => ⟨o, h.trans e, k⟩
theorem ObOk.ne {W : Wd} {F H : Hp} {r : List Addr} {a : Addr} : ∀ {o : Ob}, ObOk W F r H a o → H a ≠ none
  | .lst _, ⟨vs, e, k⟩ => by rw [e]; simp
  | .ins _ _, ⟨dx, vs, e, k⟩ => by rw [e]; simp
  | .dK _, ⟨vs, e, k⟩ => by rw [e]; simp
  | .dT _, ⟨vs, e, k⟩ => by rw [e]; simp
  | .dead, ⟨o, e, k⟩ => by rw [e]; simp
theorem ObOk.kind {W : Wd} {F H : Hp} {r : List Addr} {a : Addr} : ∀ {o : Ob}, ObOk W F r H a o → ∃ u, H a = some u ∧ (∀ ps, u ≠ .tbl ps) ∧ ∀ φ, u ≠ .ext φ
  | .lst _, ⟨vs, e, k⟩ => ⟨_, e, (fun _ z => by cases z), fun _ z => by cases z⟩
  | .ins _ _, ⟨dx, vs, e, k⟩ => ⟨_, e, (fun _ z => by cases z), fun _ z => by cases z⟩
  | .dK _, ⟨vs, e, k⟩ => ⟨_, e, (fun _ z => by cases z), fun _ z => by cases z⟩
  | .dT _, ⟨vs, e, k⟩ => ⟨_, e, (fun _ z => by cases z), fun _ z => by cases z⟩
  | .dead, h => h
/-- the tables are whole, and none of the rest -/
structure TabsOk (T : List (Addr × Str)) (F Rs H : Hp) (r : List Addr) : Prop where
  at_ : ∀ p ∈ T, LamX.TabS H p.1 p.2 ∧ F p.1 = none ∧ Rs p.1 = none ∧ p.1 ∉ r
  nF : ∀ a ps, F a ≠ some (.tbl ps)
  nR : ∀ a ps, Rs a ≠ some (.tbl ps)
theorem tabs_keep {H H' : Hp} {P : Addr} {q : Str} (t : LamX.TabS H P q) (k : ∀ a o, H a = some o → ((∃ ps, o = .tbl ps) ∨ ∃ φ, o = .ext φ) → H' a = some o) : LamX.TabS H' P q := by
  obtain ⟨ps, h1, h2, h3⟩ := t
  refine ⟨ps, k _ _ h1 (.inl ⟨ps, rfl⟩), h2, fun pos cv hc => ?_⟩
  obtain ⟨c, e1, e2⟩ := h3 pos cv hc
  exact ⟨c, e1, k _ _ e2 (.inr ⟨_, rfl⟩)⟩
theorem tabs_here {H : Hp} {P : Addr} {q : Str} (t : LamX.TabS H P q) : H P ≠ none := by
  obtain ⟨ps, h1, _⟩ := t
  rw [h1]; simp
/-- the heap H is the frozen part F, the store's objects at r, a part Rs that is none of ours, and waste -/
structure Holds (W : Wd) (Rs F H : Hp) (r : List Addr) (st : Store) : Prop where
  sF : Same F H
  sR : Same Rs H
  dj : ∀ a, F a ≠ none → Rs a = none
  len : r.length = st.length
  nd : r.Nodup
  own : ∀ a ∈ r, F a = none ∧ Rs a = none
  ob : ∀ (i : Nat) (a : Addr) (o : Ob), r[i]? = some a → st[i]? = some o → ObOk W F r H a o
  tb : TabsOk W.tabs F Rs H r
section
variable {W : Wd} {Rs F H : Hp} {r : List Addr} {st : Store}
theorem Holds.freeF (h : Holds W Rs F H r st) {p : Addr} (e : H p = none) : F p = none := h.sF.free e
theorem Holds.freeR (h : Holds W Rs F H r st) {p : Addr} (e : H p = none) : Rs p = none := h.sR.free e
theorem Holds.there (h : Holds W Rs F H r st) {a : Addr} (e : a ∈ r) : H a ≠ none := by
  obtain ⟨i, hi, rfl⟩ := List.mem_iff_getElem.mp e
  have hs : i < st.length := by rw [← h.len]; exact hi
  exact (h.ob i r[i] st[i] (by simp [hi]) (by simp [hs])).ne
theorem Holds.notin (h : Holds W Rs F H r st) {p : Addr} (e : H p = none) : p ∉ r := fun m => h.there m e
/-- a new frozen object -/
theorem Holds.kindOf (h : Holds W Rs F H r st) {a : Addr} (e : a ∈ r) : ∃ u, H a = some u ∧ (∀ ps, u ≠ .tbl ps) ∧ ∀ φ, u ≠ .ext φ := by
  obtain ⟨i, hi, rfl⟩ := List.mem_iff_getElem.mp e
  have hs : i < st.length := by rw [← h.len]; exact hi
  exact (h.ob i r[i] st[i] (by simp [hi]) (by simp [hs])).kind
theorem Holds.frozen (h : Holds W Rs F H r st) {p : Addr} {o : HO} (e : H p = none) (hn : ∀ ps, o ≠ .tbl ps := by intro _ z; cases z) : Same F (upd F p o) ∧ Holds W Rs (upd F p o) (upd H p o) r st := by
  have sF : Same F (upd F p o) := fun b u q => by rw [upd_ne (ne_of_none q (h.freeF e))]; exact q
  refine ⟨sF, ⟨fun b u q => ?_, fun b u q => ?_, fun b q => ?_, h.len, h.nd, fun b m => ?_, fun i a o' e1 e2 => ?_, ⟨fun t ht => ?_, fun b ps => ?_, h.tb.nR⟩⟩⟩
  · by_cases hb : b = p
    · subst hb; rw [upd_same] at q ⊢; exact q
    · rw [upd_ne hb] at q ⊢; exact h.sF _ _ q
  · rw [upd_ne (ne_of_none q (h.freeR e))]; exact h.sR _ _ q
  · by_cases hb : b = p
    · rw [hb]; exact h.freeR e
    · rw [upd_ne hb] at q; exact h.dj b q
  · have hb : b ≠ p := fun z => h.notin e (z ▸ m)
    rw [upd_ne hb]; exact h.own b m
  · have hb : a ≠ p := fun z => h.notin e (z ▸ List.mem_of_getElem? e1)
    exact (h.ob i a o' e1 e2).mono sF (Ext.refl _) (upd_ne hb)
  · obtain ⟨t1, t2, t3, t4⟩ := h.tb.at_ t ht
    exact ⟨t1.ext fun b u q => by rw [upd_ne (ne_of_none q e)]; exact q, by rw [upd_ne (fun (z : t.1 = p) => tabs_here t1 (by rw [z]; exact e))]; exact t2, t3, t4⟩
  · by_cases hb : b = p
    · rw [hb, upd_same]; exact fun z => hn ps (Option.some.inj z)
    · rw [upd_ne hb]; exact h.tb.nF b ps
/-- a new object of the store -/
theorem Holds.fresh (h : Holds W Rs F H r st) {p : Addr} {o : HO} {b : Ob} (e : H p = none) (k : ObOk W F (r ++ [p]) (upd H p o) p b) : Holds W Rs F (upd H p o) (r ++ [p]) (st ++ [b]) := by
  refine ⟨fun c u q => ?_, fun c u q => ?_, h.dj, by simp [h.len], ?_, fun c m => ?_, fun i a o' e1 e2 => ?_, ⟨fun t ht => ?_, h.tb.nF, h.tb.nR⟩⟩
  · rw [upd_ne (ne_of_none q (h.freeF e))]; exact h.sF _ _ q
  · rw [upd_ne (ne_of_none q (h.freeR e))]; exact h.sR _ _ q
  · rw [List.nodup_append]
    refine ⟨h.nd, by simp, fun a ha b hb => ?_⟩
    have : b = p := by simpa using hb
    subst this
    exact fun z => h.notin e (z ▸ ha)
  · rcases List.mem_append.mp m with m | m
    · exact h.own c m
    · have : c = p := by simpa using m
      subst this
      exact ⟨h.freeF e, h.freeR e⟩
  · by_cases hi : i < r.length
    · rw [List.getElem?_append_left hi] at e1
      rw [List.getElem?_append_left (by rw [← h.len]; exact hi)] at e2
      have hb : a ≠ p := fun z => h.notin e (z ▸ List.mem_of_getElem? e1)
      exact (h.ob i a o' e1 e2).mono (Same.refl _) (Ext.snoc _ _) (upd_ne hb)
    · have hl : i = r.length := by
        have := (List.getElem?_eq_some_iff.mp e1).1
        simp at this; omega
      subst hl
      rw [List.getElem?_append_right (Nat.le_refl _)] at e1
      rw [List.getElem?_append_right (by rw [h.len]; exact Nat.le_refl _)] at e2
      simp at e1
      rw [h.len] at e2
      simp at e2
      subst e1; subst e2
      exact k
  · obtain ⟨t1, t2, t3, t4⟩ := h.tb.at_ t ht
    refine ⟨t1.ext fun b u q => by rw [upd_ne (ne_of_none q e)]; exact q, t2, t3, fun m => ?_⟩
    rcases List.mem_append.mp m with m | m
    · exact t4 m
    · exact tabs_here t1 (by rw [List.mem_singleton.mp m]; exact e)
/-- an object of the store is changed -/
theorem Holds.write (h : Holds W Rs F H r st) {n : Nat} {p : Addr} {o : HO} {b : Ob} (e : r[n]? = some p) (k : ObOk W F r (upd H p o) p b) : Holds W Rs F (upd H p o) r (st.set n b) := by
  have mp : p ∈ r := List.mem_of_getElem? e
  obtain ⟨o1, o2⟩ := h.own p mp
  refine ⟨fun c u q => ?_, fun c u q => ?_, h.dj, by simp [h.len], h.nd, h.own, fun i a o' e1 e2 => ?_, ⟨fun t ht => ?_, h.tb.nF, h.tb.nR⟩⟩
  · rw [upd_ne (fun z => by rw [z, o1] at q; cases q)]; exact h.sF _ _ q
  · rw [upd_ne (fun z => by rw [z, o2] at q; cases q)]; exact h.sR _ _ q
  · by_cases hi : i = n
    · subst hi
      rw [e] at e1; cases e1
      have hl : i < st.length := by rw [← h.len]; exact (List.getElem?_eq_some_iff.mp e).1
      rw [List.getElem?_set_self hl] at e2; cases e2
      exact k
    · rw [List.getElem?_set_ne (Ne.symm hi)] at e2
      have hb : a ≠ p := fun z => by
        subst z
        obtain ⟨h1, q1⟩ := List.getElem?_eq_some_iff.mp e
        obtain ⟨h2, q2⟩ := List.getElem?_eq_some_iff.mp e1
        exact hi ((List.getElem_inj h.nd).mp (q2.trans q1.symm))
      exact (h.ob i a o' e1 e2).mono (Same.refl _) (Ext.refl _) (upd_ne hb)
  · obtain ⟨t1, t2, t3, t4⟩ := h.tb.at_ t ht
    obtain ⟨u, hu, k1, k2⟩ := h.kindOf mp
    refine ⟨tabs_keep t1 fun a v q z => ?_, t2, t3, t4⟩
    rw [upd_ne fun w => ?_]
    · exact q
    · rw [w, hu] at q
      cases q
      rcases z with ⟨ps, z⟩ | ⟨φ, z⟩
      · exact k1 ps z
      · exact k2 φ z
theorem Holds.get (h : Holds W Rs F H r st) {n : Nat} {o : Ob} (e : st[n]? = some o) : ∃ a, r[n]? = some a ∧ ObOk W F r H a o := by
  have hl : n < r.length := by rw [h.len]; exact (List.getElem?_eq_some_iff.mp e).1
  exact ⟨r[n], by simp [hl], h.ob n _ o (by simp [hl]) e⟩
/-- all else is put aside -/
def isTbl : Option HO → Bool
  | some (.tbl _) => true
  | _ => false
end
/-- the slots hold what the environment says -/
structure EnvOk (F : Hp) (r : List Addr) (sg : St) (env : Env) : Prop where
  len : sg.length = env.length
  at_ : ∀ (i : Nat) (d : D), env[i]? = some (some d) → ∃ v, sg[i]? = some (some v) ∧ Rep F r v d
theorem EnvOk.mono {F F' : Hp} {r r' : List Addr} {sg : St} {env : Env} (s : Same F F') (x : Ext r r') (h : EnvOk F r sg env) : EnvOk F' r' sg env :=
  ⟨h.len, fun i d e => let ⟨v, q, k⟩ := h.at_ i d e; ⟨v, q, k.mono s x⟩⟩
theorem EnvOk.set {F : Hp} {r : List Addr} {sg : St} {env : Env} {v : V} {d : D} (h : EnvOk F r sg env) (k : Rep F r v d) (i : Nat) : EnvOk F r (sg.set i (some v)) (env.set i (some d)) := by
  refine ⟨by simp [h.len], fun j e q => ?_⟩
  by_cases hj : i = j
  · subst hj
    by_cases hl : i < env.length
    · rw [List.getElem?_set_self hl] at q; cases q
      exact ⟨v, by rw [List.getElem?_set_self (by rw [h.len]; exact hl)], k⟩
    · rw [List.getElem?_eq_none (by simp; omega)] at q; cases q
  · rw [List.getElem?_set_ne hj] at q ⊢
    exact h.at_ j e q
theorem EnvOk.start {F : Hp} {r : List Addr} {vs : List V} {ds : List D} {n : Nat} (h : Reps F r vs ds) : EnvOk F r (vs.map some ++ List.replicate (n - vs.length) none) (ds.map some ++ List.replicate (n - ds.length) none) := by
  have hl := h.length
  refine ⟨by simp [hl], fun i d e => ?_⟩
  by_cases hi : i < ds.length
  · rw [List.getElem?_append_left (by simpa using hi), List.getElem?_map] at e
    cases q : ds[i]? with
    | none => rw [q] at e; simp at e
    | some d' =>
      rw [q] at e; simp at e; subst e
      obtain ⟨v, h1, h2⟩ := h.get q
      exact ⟨v, by rw [List.getElem?_append_left (by simp; omega), List.getElem?_map, h1]; rfl, h2⟩
  · rw [List.getElem?_append_right (by simpa using hi), List.getElem?_replicate] at e
    split at e <;> simp at e
def PayOk (W : Wd) (F : Hp) (r : List Addr) (H : Hp) (c : Nat) (od : Option Addr) : Option D → Prop
  | none => od = none
  | some d => ∃ f a i, W.pay c = some f ∧ od = some a ∧ F a = some (.xd [(f, .int i)]) ∧ d = .int i
def ExcPost (W : Wd) (Rs F : Hp) (r : List Addr) (c : Nat) (p : Option D) (st' : Store) (E : XK) : Prop :=
  ∀ F' H' r' od, Same F F' → Ext r r' → Holds W Rs F' H' r' st' → PayOk W F' r' H' c od p → E (.ref (W.cls c)) od H'
def PostX {A : Type} (W : Wd) (Rs F : Hp) (r : List Addr) (res : R A) (K : A → Prop) (E : XK) : Prop := match res with
  | .ok a => K a
  | .exc c p st' => ExcPost W Rs F r c p st' E
  | .bad => False
def onE (W : Wd) (Rs F : Hp) (r : List Addr) (Q : VK) : D × Store → Prop := fun a => ∀ F' H' r' v, Same F F' → Ext r r' → Holds W Rs F' H' r' a.2 → Rep F' r' v a.1 → Q v H'
def onA (W : Wd) (Rs F : Hp) (r : List Addr) (Q : List V → Hp → Prop) : List D × Store → Prop := fun a => ∀ F' H' r' vs, Same F F' → Ext r r' → Holds W Rs F' H' r' a.2 → Reps F' r' vs a.1 → Q vs H'
def onT (W : Wd) (Rs F : Hp) (r : List Addr) (Q : Bool → Hp → Prop) : Bool × Store → Prop := fun a => ∀ F' H' r', Same F F' → Ext r r' → Holds W Rs F' H' r' a.2 → Q a.1 H'
abbrev Post (W : Wd) (Rs F : Hp) (r : List Addr) (res : R (D × Store)) (Q : VK) (E : XK) : Prop := PostX W Rs F r res (onE W Rs F r Q) E
abbrev PostA (W : Wd) (Rs F : Hp) (r : List Addr) (res : R (List D × Store)) (Q : List V → Hp → Prop) (E : XK) : Prop := PostX W Rs F r res (onA W Rs F r Q) E
abbrev PostT (W : Wd) (Rs F : Hp) (r : List Addr) (res : R (Bool × Store)) (Q : Bool → Hp → Prop) (E : XK) : Prop := PostX W Rs F r res (onT W Rs F r Q) E
theorem ExcPost.later {W : Wd} {Rs F F1 : Hp} {r r1 : List Addr} {c : Nat} {p : Option D} {st' : Store} {E : XK} (s : Same F F1) (x : Ext r r1) (h : ExcPost W Rs F r c p st' E) : ExcPost W Rs F1 r1 c p st' E :=
  fun F' H' r' od s' x' => h F' H' r' od (s.trans s') (x.trans x')
section
variable {W : Wd} {Rs F F1 : Hp} {r r1 : List Addr} {E : XK}
theorem bindX {A B : Type} {res : R A} {f : A → R B} {K : B → Prop} {K' : A → Prop} (h : PostX W Rs F r (res.bind f) K E) (k : ∀ a, res = .ok a → PostX W Rs F r (f a) K E → K' a) : PostX W Rs F r res K' E := by
  cases res with
  | ok a => exact k a rfl h
  | exc c p st' => exact h
  | bad => exact h
theorem PostX.imp {A : Type} {res : R A} {K K' : A → Prop} (s : Same F F1) (x : Ext r r1) (h : PostX W Rs F r res K E) (k : ∀ a, K a → K' a) : PostX W Rs F1 r1 res K' E := by
  cases res with
  | ok a => exact k a h
  | exc c p st' => exact ExcPost.later s x h
  | bad => exact h
theorem Post.later {res : R (D × Store)} {Q : VK} (s : Same F F1) (x : Ext r r1) (h : Post W Rs F r res Q E) : Post W Rs F1 r1 res Q E :=
  PostX.imp s x h fun _ q F' H' r' v s' x' => q F' H' r' v (s.trans s') (x.trans x')
theorem PostA.later {res : R (List D × Store)} {Q : List V → Hp → Prop} (s : Same F F1) (x : Ext r r1) (h : PostA W Rs F r res Q E) : PostA W Rs F1 r1 res Q E :=
  PostX.imp s x h fun _ q F' H' r' v s' x' => q F' H' r' v (s.trans s') (x.trans x')
theorem PostT.later {res : R (Bool × Store)} {Q : Bool → Hp → Prop} (s : Same F F1) (x : Ext r r1) (h : PostT W Rs F r res Q E) : PostT W Rs F1 r1 res Q E :=
  PostX.imp s x h fun _ q F' H' r' s' x' => q F' H' r' (s.trans s') (x.trans x')
end
abbrev EV := Env → Store → R (D × Store)
abbrev TV := Env → Store → R (Bool × Store)
abbrev AV := Env → Store → R (List D × Store)
/-- e means f -/
def tDE (W : Wd) (E : XK) (f : EV) : TE := fun sg H Q => ∃ Rs F r env st, Holds W Rs F H r st ∧ EnvOk F r sg env ∧ Post W Rs F r (f env st) Q E
def DE (W : Wd) (X : Cx) (E : XK) (e : Expr) (f : EV) : Prop := PE X e (tDE W E f)
theorem DE.mk {W : Wd} {X : Cx} {E : XK} {e : Expr} {f : EV} {t : TE} (p : PE X e t) (q : ∀ Rs F H r sg env st Q, Holds W Rs F H r st → EnvOk F r sg env → Post W Rs F r (f env st) Q E → t sg H Q) : DE W X E e f :=
  ⟨fun pins s sg H Q I ⟨Rs, F, r, env, st, a, b, c⟩ => p.run pins s sg H Q I (q Rs F H r sg env st Q a b c)⟩
theorem DE.ex {W : Wd} {X : Cx} {E : XK} {e : Expr} {f : EV} (h : DE W X E e f) : ∃ t, PE X e t ∧ ∀ Rs F H r sg env st Q, Holds W Rs F H r st → EnvOk F r sg env → Post W Rs F r (f env st) Q E → t sg H Q :=
  ⟨_, h, fun Rs F H r sg env st Q a b c => ⟨Rs, F, r, env, st, a, b, c⟩⟩
def tDT (W : Wd) (E : XK) (f : TV) : TT := fun sg H Q => ∃ Rs F r env st, Holds W Rs F H r st ∧ EnvOk F r sg env ∧ PostT W Rs F r (f env st) Q E
def DT (W : Wd) (X : Cx) (E : XK) (e : Expr) (f : TV) : Prop := PT X e (tDT W E f)
theorem DT.mk {W : Wd} {X : Cx} {E : XK} {e : Expr} {f : TV} {t : TT} (p : PT X e t) (q : ∀ Rs F H r sg env st Q, Holds W Rs F H r st → EnvOk F r sg env → PostT W Rs F r (f env st) Q E → t sg H Q) : DT W X E e f :=
  ⟨fun pins s sg H Q I ⟨Rs, F, r, env, st, a, b, c⟩ => p.run pins s sg H Q I (q Rs F H r sg env st Q a b c)⟩
theorem DT.ex {W : Wd} {X : Cx} {E : XK} {e : Expr} {f : TV} (h : DT W X E e f) : ∃ t, PT X e t ∧ ∀ Rs F H r sg env st Q, Holds W Rs F H r st → EnvOk F r sg env → PostT W Rs F r (f env st) Q E → t sg H Q :=
  ⟨_, h, fun Rs F H r sg env st Q a b c => ⟨Rs, F, r, env, st, a, b, c⟩⟩
def tDW (W : Wd) (E : XK) (f : TV) : TT := fun sg H Q => ∃ Rs F r env st, Holds W Rs F H r st ∧ EnvOk F r sg env ∧ PostT W Rs F r (f env st) Q E
def DW (W : Wd) (X : Cx) (E : XK) (e : Expr) (f : TV) : Prop := PW X e (tDW W E f)
theorem DW.mk {W : Wd} {X : Cx} {E : XK} {e : Expr} {f : TV} {t : TT} (p : PW X e t) (q : ∀ Rs F H r sg env st Q, Holds W Rs F H r st → EnvOk F r sg env → PostT W Rs F r (f env st) Q E → t sg H Q) : DW W X E e f :=
  ⟨fun wh pins s sg H Q I ⟨Rs, F, r, env, st, a, b, c⟩ => p.run wh pins s sg H Q I (q Rs F H r sg env st Q a b c)⟩
theorem DW.ex {W : Wd} {X : Cx} {E : XK} {e : Expr} {f : TV} (h : DW W X E e f) : ∃ t, PW X e t ∧ ∀ Rs F H r sg env st Q, Holds W Rs F H r st → EnvOk F r sg env → PostT W Rs F r (f env st) Q E → t sg H Q :=
  ⟨_, h, fun Rs F H r sg env st Q a b c => ⟨Rs, F, r, env, st, a, b, c⟩⟩
def tDA (W : Wd) (E : XK) (f : AV) : TA := fun sg H Q => ∃ Rs F r env st, Holds W Rs F H r st ∧ EnvOk F r sg env ∧ PostA W Rs F r (f env st) Q E
def DA (W : Wd) (X : Cx) (E : XK) (e : List Expr) (f : AV) : Prop := PA X e (tDA W E f)
theorem DA.mk {W : Wd} {X : Cx} {E : XK} {e : List Expr} {f : AV} {t : TA} (p : PA X e t) (q : ∀ Rs F H r sg env st Q, Holds W Rs F H r st → EnvOk F r sg env → PostA W Rs F r (f env st) Q E → t sg H Q) : DA W X E e f :=
  ⟨fun pos pins s sg H Q I ⟨Rs, F, r, env, st, a, b, c⟩ => p.run pos pins s sg H Q I (q Rs F H r sg env st Q a b c)⟩
theorem DA.ex {W : Wd} {X : Cx} {E : XK} {e : List Expr} {f : AV} (h : DA W X E e f) : ∃ t, PA X e t ∧ ∀ Rs F H r sg env st Q, Holds W Rs F H r st → EnvOk F r sg env → PostA W Rs F r (f env st) Q E → t sg H Q :=
  ⟨_, h, fun Rs F H r sg env st Q a b c => ⟨Rs, F, r, env, st, a, b, c⟩⟩
/-- the ends of a statement -/
inductive SR where
  | nx (env : Env) (st : Store)
  | rt (d : D) (st : Store)
  | bk (env : Env) (st : Store)
  | ct (env : Env) (st : Store)
  | exc (c : Nat) (p : Option D) (st : Store)
  | bad
abbrev SV := Env → Store → SR
def PostF (W : Wd) (Rs F : Hp) (r : List Addr) (env' : Env) (st' : Store) (N : St → Hp → Prop) : Prop :=
  ∀ F' H' r' sg', Same F F' → Ext r r' → Holds W Rs F' H' r' st' → EnvOk F' r' sg' env' → N sg' H'
theorem PostF.later {W : Wd} {Rs F F1 : Hp} {r r1 : List Addr} {env' : Env} {st' : Store} {N : St → Hp → Prop} (s : Same F F1) (x : Ext r r1) (h : PostF W Rs F r env' st' N) : PostF W Rs F1 r1 env' st' N :=
  fun F' H' r' sg' s' x' => h F' H' r' sg' (s.trans s') (x.trans x')
def PostS (W : Wd) (Rs F : Hp) (r : List Addr) (res : SR) (D : Ends) (E : XK) : Prop := match res with
  | .nx env' st' => PostF W Rs F r env' st' D.nx
  | .rt d st' => ∀ F' H' r' v, Same F F' → Ext r r' → Holds W Rs F' H' r' st' → Rep F' r' v d → D.rt v H'
  | .bk env' st' => PostF W Rs F r env' st' D.bk
  | .ct env' st' => PostF W Rs F r env' st' D.ct
  | .exc c p st' => ExcPost W Rs F r c p st' E
  | .bad => False
theorem PostS.later {W : Wd} {Rs F F1 : Hp} {r r1 : List Addr} {res : SR} {D : Ends} {E : XK} (s : Same F F1) (x : Ext r r1) (h : PostS W Rs F r res D E) : PostS W Rs F1 r1 res D E := by
  cases res with
  | nx e t => exact PostF.later s x h
  | rt d t => exact fun F' H' r' v s' x' => h F' H' r' v (s.trans s') (x.trans x')
  | bk e t => exact PostF.later s x h
  | ct e t => exact PostF.later s x h
  | exc c p st' => exact ExcPost.later s x h
  | bad => exact h
def tDS (W : Wd) (E : XK) (f : SV) : TS := fun D sg H => ∃ Rs F r env st, Holds W Rs F H r st ∧ EnvOk F r sg env ∧ PostS W Rs F r (f env st) D E
def DS (W : Wd) (X : Cx) (E : XK) (e : Stmt) (f : SV) : Prop := PS X e (tDS W E f)
theorem DS.mk {W : Wd} {X : Cx} {E : XK} {e : Stmt} {f : SV} {t : TS} (p : PS X e t) (q : ∀ Rs F H r sg env st D, Holds W Rs F H r st → EnvOk F r sg env → PostS W Rs F r (f env st) D E → t D sg H) : DS W X E e f :=
  ⟨fun pins s sg H D I ⟨Rs, F, r, env, st, a, b, c⟩ => p.run pins s sg H D I (q Rs F H r sg env st D a b c)⟩
theorem DS.ex {W : Wd} {X : Cx} {E : XK} {e : Stmt} {f : SV} (h : DS W X E e f) : ∃ t, PS X e t ∧ ∀ Rs F H r sg env st D, Holds W Rs F H r st → EnvOk F r sg env → PostS W Rs F r (f env st) D E → t D sg H :=
  ⟨_, h, fun Rs F H r sg env st D a b c => ⟨Rs, F, r, env, st, a, b, c⟩⟩
def tDB (W : Wd) (E : XK) (f : SV) : TS := fun D sg H => ∃ Rs F r env st, Holds W Rs F H r st ∧ EnvOk F r sg env ∧ PostS W Rs F r (f env st) D E
def DB (W : Wd) (X : Cx) (E : XK) (e : List Stmt) (f : SV) : Prop := PSs X e (tDB W E f)
theorem DB.mk {W : Wd} {X : Cx} {E : XK} {e : List Stmt} {f : SV} {t : TS} (p : PSs X e t) (q : ∀ Rs F H r sg env st D, Holds W Rs F H r st → EnvOk F r sg env → PostS W Rs F r (f env st) D E → t D sg H) : DB W X E e f :=
  ⟨fun pins s sg H D I ⟨Rs, F, r, env, st, a, b, c⟩ => p.run pins s sg H D I (q Rs F H r sg env st D a b c)⟩
theorem DB.ex {W : Wd} {X : Cx} {E : XK} {e : List Stmt} {f : SV} (h : DB W X E e f) : ∃ t, PSs X e t ∧ ∀ Rs F H r sg env st D, Holds W Rs F H r st → EnvOk F r sg env → PostS W Rs F r (f env st) D E → t D sg H :=
  ⟨_, h, fun Rs F H r sg env st D a b c => ⟨Rs, F, r, env, st, a, b, c⟩⟩
/-- a def's meaning -/
abbrev FV := List D → Store → R (D × Store)
/-- a def's promise: it means g, for n arguments -/
def spD (W : Wd) (n : Nat) (g : FV) : Sp := fun vs H Q E => ∃ Rs F r st ds, Holds W Rs F H r st ∧ Reps F r vs ds ∧ ds.length = n ∧ Post W Rs F r (g ds st) Q E
def funD (n : Nat) (b : SV) : FV := fun ds st => match b (ds.map some ++ List.replicate (n - ds.length) none) st with
  | .nx _ st' => .ok (.non, st')
  | .rt d st' => .ok (d, st')
  | .exc c p st' => .exc c p st'
  | _ => .bad
end Dl
namespace Dl
open PySem L2
section
variable {W : Wd} {X : Cx} {E : XK}
def eV (i : Nat) : EV := fun env st => match env[i]? with
  | some (some d) => .ok (d, st)
  | _ => .bad
def eC (d : D) : EV := fun _ st => .ok (d, st)
theorem onE_here {Rs F H : Hp} {r : List Addr} {st : Store} {Q : VK} {v : V} {d : D} (h : Holds W Rs F H r st) (k : Rep F r v d) (q : onE W Rs F r Q (d, st)) : Q v H := q F H r v (Same.refl _) (Ext.refl _) h k
theorem de_var {i : Nat} {x : Str} {pos : Pos} (hN : X.N[i]? = some x) (hv : Vis X.env.scope x) (hd : (x == ("__debug__" : Str)) = false := by decide) (hcd : (x == ("__classdict__" : Str)) = false := by decide) : DE W X E (.Name x pos) (eV i) := by
  refine .mk (pe_var hN hv hd hcd) fun Rs F H r sg env st Q hH hE hP => ?_
  unfold eV at hP
  split at hP
  · rename_i d e
    obtain ⟨v, h1, h2⟩ := hE.at_ i d e
    exact ⟨v, h1, onE_here hH h2 hP⟩
  · exact hP.elim
theorem de_c {e : Expr} {v : V} {d : D} (h : PE X e (tC v)) (k : ∀ F r, Rep F r v d) : DE W X E e (eC d) :=
  .mk h fun Rs F H r sg env st Q hH hE hP => onE_here hH (k F r) hP
theorem de_int {i j pos} : DE W X E (.Constant (.int i) j pos) (eC (.int i)) := de_c pe_int fun _ _ => .int i
theorem de_bl {b j pos} : DE W X E (.Constant (.bool b) j pos) (eC (.bl b)) := de_c pe_bl fun _ _ => .bl b
theorem de_non {j pos} : DE W X E (.Constant .none j pos) (eC .non) := de_c pe_non fun _ _ => .non
theorem rep_str {x : Str} {s : List Nat} (h : x.cps.toList = s) (a : (s.all (fun c => decide (c < 128)) && decide (s.length ≤ LIM)) = true) (F : Hp) (r : List Addr) : Rep F r (.str x) (.str s) := by
  have e : x = ⟨s.toArray⟩ := by subst h; cases x; rfl
  rw [Bool.and_eq_true] at a
  rw [e]
  exact .str s a.1 (of_decide_eq_true a.2)
theorem de_str {x : Str} {s : List Nat} {j pos} (h : x.cps.toList = s) (a : (s.all (fun c => decide (c < 128)) && decide (s.length ≤ LIM)) = true) : DE W X E (.Constant (.str x) j pos) (eC (.str s)) := de_c pe_str (rep_str h a)
/-- a constant of the module -/
theorem de_globI {x : Str} {i : Int} {t : Tok} {pos : Pos} (hg : Gl X x) (hm : X.mg x = some (.int i t)) (hd : (x == ("__debug__" : Str)) = false := by decide) : DE W X E (.Name x pos) (eC (.int i)) := de_c (pe_glob hg hm (v := .int i) ⟨_, rfl⟩ hd) fun _ _ => .int i
theorem de_globS {x y : Str} {s : List Nat} {t : Tok} {pos : Pos} (hg : Gl X x) (hm : X.mg x = some (.str y t)) (h : y.cps.toList = s) (a : (s.all (fun c => decide (c < 128)) && decide (s.length ≤ LIM)) = true) (hd : (x == ("__debug__" : Str)) = false := by decide) : DE W X E (.Name x pos) (eC (.str s)) :=
  de_c (pe_glob hg hm (v := .str y) ⟨_, rfl⟩ hd) (rep_str h a)
abbrev G2 := Store → D → D → R (D × Store)
def eOp (g : G2) (fa fb : EV) : EV := fun env st => (fa env st).bind fun a => (fb env a.2).bind fun b => g b.2 a.1 b.1
/-- an operation of two values means g -/
def DOp (W : Wd) (X : Cx) (f : Value → Value → Sem Value) (g : G2) : Prop :=
  ∃ r, OpR X f r ∧ ∀ Rs F H rr st x y dx dy Q E, Holds W Rs F H rr st → Rep F rr x dx → Rep F rr y dy → Post W Rs F rr (g st dx dy) Q E → r x y H Q
theorem eOp_post {ta tb : TE} {rd : R2} {fa fb : EV} {g : G2}
    (qa : ∀ Rs F H r sg env st Q, Holds W Rs F H r st → EnvOk F r sg env → Post W Rs F r (fa env st) Q E → ta sg H Q)
    (qb : ∀ Rs F H r sg env st Q, Holds W Rs F H r st → EnvOk F r sg env → Post W Rs F r (fb env st) Q E → tb sg H Q)
    (qr : ∀ Rs F H rr st x y dx dy Q E, Holds W Rs F H rr st → Rep F rr x dx → Rep F rr y dy → Post W Rs F rr (g st dx dy) Q E → rd x y H Q)
    {Rs F H r sg env st Q} (hH : Holds W Rs F H r st) (hE : EnvOk F r sg env) (hP : Post W Rs F r (eOp g fa fb env st) Q E) : tOp rd ta tb sg H Q := by
  refine qa Rs F H r sg env st _ hH hE (bindX hP fun a ea q F1 H1 r1 v1 s1 x1 h1 k1 => ?_)
  refine qb Rs F1 H1 r1 sg env a.2 _ h1 (hE.mono s1 x1) (bindX (Post.later s1 x1 (res := (fb env a.2).bind _) q) fun b eb q2 F2 H2 r2 v2 s2 x2 h2 k2 => ?_)
  exact qr Rs F2 H2 r2 b.2 v1 v2 a.1 b.1 Q E h2 (k1.mono s2 x2) k2 (Post.later s2 x2 q2)
variable {a b : Expr} {fa fb : EV} {pos : Pos}
theorem de_op {op : Operator} {g : G2} (ho : DOp W X (binaryOp op) g) (ha : DE W X E a fa) (hb : DE W X E b fb) : DE W X E (.BinOp a op b pos) (eOp g fa fb) := by
  obtain ⟨r, hr, qr⟩ := ho
  obtain ⟨ta, pa, qa⟩ := ha.ex
  obtain ⟨tb, pb, qb⟩ := hb.ex
  exact .mk (pe_op hr pa pb) fun Rs F H rr sg env st Q hH hE hP => eOp_post qa qb qr hH hE hP
theorem de_cmp {op : CmpOp} {g : G2} (ho : DOp W X (compareOp op) g) (ha : DE W X E a fa) (hb : DE W X E b fb) (hm : behindInMarks op b = false) : DE W X E (.Compare a [op] [b] pos) (eOp g fa fb) := by
  obtain ⟨r, hr, qr⟩ := ho
  obtain ⟨ta, pa, qa⟩ := ha.ex
  obtain ⟨tb, pb, qb⟩ := hb.ex
  exact .mk (pe_cmpR hr pa pb hm) fun Rs F H rr sg env st Q hH hE hP => eOp_post qa qb qr hH hE hP
/-- a value that is a bool, as a test -/
def tv (f : EV) : TV := fun env st => (f env st).bind fun a => match a.1 with
  | .bl b => .ok (b, a.2)
  | _ => .bad
theorem tv_post {ta : TE} {f : EV} (qa : ∀ Rs F H r sg env st Q, Holds W Rs F H r st → EnvOk F r sg env → Post W Rs F r (f env st) Q E → ta sg H Q)
    {Rs F H r sg env st} {Q : Bool → Hp → Prop} (hH : Holds W Rs F H r st) (hE : EnvOk F r sg env) (hP : PostT W Rs F r (tv f env st) Q E) : ta sg H fun x H1 => ∃ k, x = .bl k ∧ Q k H1 := by
  refine qa Rs F H r sg env st _ hH hE (bindX hP fun a ea q F1 H1 r1 v1 s1 x1 h1 k1 => ?_)
  obtain ⟨d, st1⟩ := a
  cases d with
  | bl c => cases k1; exact ⟨c, rfl, q F1 H1 r1 s1 x1 h1⟩
  | _ => exact q.elim
theorem dt_cmp {op : CmpOp} {g : G2} (ho : DOp W X (compareOp op) g) (ha : DE W X E a fa) (hb : DE W X E b fb) (hm : behindInMarks op b = false) : DT W X E (.Compare a [op] [b] pos) (tv (eOp g fa fb)) := by
  obtain ⟨r, hr, qr⟩ := ho
  obtain ⟨ta, pa, qa⟩ := ha.ex
  obtain ⟨tb, pb, qb⟩ := hb.ex
  exact .mk (pt_cmpR hr pa pb hm) fun Rs F H rr sg env st Q hH hE hP => tv_post (fun Rs F H r sg env st Q hH hE hP => eOp_post qa qb qr hH hE hP) hH hE hP
theorem dt_val {e : Expr} {f : EV} (h : DE W X E e f) (he : ∀ whole, isTrue e X.env whole = (do let v ← whole; standAt e.pos; holding [v] (truthy v)) := by intro _; rfl) : DT W X E e (tv f) := by
  obtain ⟨t, p, q⟩ := h.ex
  exact .mk (pt_val p he) fun Rs F H rr sg env st Q hH hE hP => tv_post q hH hE hP
/-- a < b < c -/
def eChain (g g' : G2) (fa fb fc : EV) : EV := fun env st => (fa env st).bind fun a => (fb env a.2).bind fun b => (g b.2 a.1 b.1).bind fun z => match z.1 with
  | .bl true => (fc env z.2).bind fun c => g' c.2 b.1 c.1
  | .bl false => .ok (.bl false, z.2)
  | _ => .bad
theorem chain_post {c : Expr} {ta tb tc : TE} {rd rd' : R2} {fa fb fc : EV} {g g' : G2}
    (qa : ∀ Rs F H r sg env st Q, Holds W Rs F H r st → EnvOk F r sg env → Post W Rs F r (fa env st) Q E → ta sg H Q)
    (qb : ∀ Rs F H r sg env st Q, Holds W Rs F H r st → EnvOk F r sg env → Post W Rs F r (fb env st) Q E → tb sg H Q)
    (qc : ∀ Rs F H r sg env st Q, Holds W Rs F H r st → EnvOk F r sg env → Post W Rs F r (fc env st) Q E → tc sg H Q)
    (qr : ∀ Rs F H rr st x y dx dy Q E, Holds W Rs F H rr st → Rep F rr x dx → Rep F rr y dy → Post W Rs F rr (g st dx dy) Q E → rd x y H Q)
    (qr' : ∀ Rs F H rr st x y dx dy Q E, Holds W Rs F H rr st → Rep F rr x dx → Rep F rr y dy → Post W Rs F rr (g' st dx dy) Q E → rd' x y H Q)
    {Rs F H r sg env st Q} (hH : Holds W Rs F H r st) (hE : EnvOk F r sg env) (hP : Post W Rs F r (eChain g g' fa fb fc env st) Q E) : tChain rd rd' ta tb tc sg H Q := by
  refine qa Rs F H r sg env st _ hH hE (bindX hP fun a ea q F1 H1 r1 v1 s1 x1 h1 k1 => ?_)
  refine qb Rs F1 H1 r1 sg env a.2 _ h1 (hE.mono s1 x1) (bindX (Post.later s1 x1 (res := (fb env a.2).bind _) q) fun b eb q2 F2 H2 r2 v2 s2 x2 h2 k2 => ?_)
  refine qr Rs F2 H2 r2 b.2 v1 v2 a.1 b.1 _ E h2 (k1.mono s2 x2) k2 (bindX (Post.later s2 x2 (res := (g b.2 a.1 b.1).bind _) q2) fun z ez q3 F3 H3 r3 v3 s3 x3 h3 k3 => ?_)
  obtain ⟨dz, st3⟩ := z
  cases dz with
  | bl k =>
    cases k3
    refine ⟨k, rfl, ?_⟩
    cases k with
    | true =>
      show tc sg H3 fun u H4 => rd' v2 u H4 Q
      refine qc Rs F3 H3 r3 sg env st3 _ h3 (hE.mono ((s1.trans s2).trans s3) ((x1.trans x2).trans x3)) (bindX (Post.later s3 x3 (res := (fc env st3).bind _) q3) fun c ec q4 F4 H4 r4 v4 s4 x4 h4 k4 => ?_)
      exact qr' Rs F4 H4 r4 c.2 v2 v4 b.1 c.1 Q E h4 (k2.mono (s3.trans s4) (x3.trans x4)) k4 (Post.later s4 x4 q4)
    | false => exact q3 F3 H3 r3 (.bl false) s3 x3 h3 (.bl false)
  | _ => exact q3.elim
theorem de_chain {c : Expr} {fc : EV} {op op' : CmpOp} {g g' : G2} (ho : DOp W X (compareOp op) g) (ho' : DOp W X (compareOp op') g') (ha : DE W X E a fa) (hb : DE W X E b fb) (hc : DE W X E c fc)
    (hm : lastMarks [op, op'] [b, c] = false) : DE W X E (.Compare a [op, op'] [b, c] pos) (eChain g g' fa fb fc) := by
  obtain ⟨r, hr, qr⟩ := ho
  obtain ⟨r', hr', qr'⟩ := ho'
  obtain ⟨ta, pa, qa⟩ := ha.ex
  obtain ⟨tb, pb, qb⟩ := hb.ex
  obtain ⟨tc, pc, qc⟩ := hc.ex
  exact .mk (pe_chain hr hr' pa pb pc hm) fun Rs F H rr sg env st Q hH hE hP => chain_post (c := c) qa qb qc qr qr' hH hE hP
theorem dt_chain {c : Expr} {fc : EV} {op op' : CmpOp} {g g' : G2} (ho : DOp W X (compareOp op) g) (ho' : DOp W X (compareOp op') g') (ha : DE W X E a fa) (hb : DE W X E b fb) (hc : DE W X E c fc)
    (hm : lastMarks [op, op'] [b, c] = false) : DT W X E (.Compare a [op, op'] [b, c] pos) (tv (eChain g g' fa fb fc)) := by
  obtain ⟨r, hr, qr⟩ := ho
  obtain ⟨r', hr', qr'⟩ := ho'
  obtain ⟨ta, pa, qa⟩ := ha.ex
  obtain ⟨tb, pb, qb⟩ := hb.ex
  obtain ⟨tc, pc, qc⟩ := hc.ex
  exact .mk (pt_chain hr hr' pa pb pc hm) fun Rs F H rr sg env st Q hH hE hP => tv_post (fun Rs F H r sg env st Q hH hE hP => chain_post (c := c) qa qb qc qr qr' hH hE hP) hH hE hP
def tAndD (f g : TV) : TV := fun env st => (f env st).bind fun a => if a.1 = true then g env a.2 else .ok (false, a.2)
def tOrD (f g : TV) : TV := fun env st => (f env st).bind fun a => if a.1 = true then .ok (true, a.2) else g env a.2
def tNotD (f : TV) : TV := fun env st => (f env st).bind fun a => .ok (!a.1, a.2)
variable {rest : List Expr} {ga gb : TV}
theorem onT_here {Rs F H : Hp} {r : List Addr} {st : Store} {Q : Bool → Hp → Prop} {b : Bool} (h : Holds W Rs F H r st) (q : onT W Rs F r Q (b, st)) : Q b H := q F H r (Same.refl _) (Ext.refl _) h
theorem dw_and1 (h : DT W X E a ga) : DW W X E (.BoolOp .And [a] pos) ga := let ⟨t, p, q⟩ := h.ex; .mk (pw_and1 p) q
theorem dw_or1 (h : DT W X E a ga) : DW W X E (.BoolOp .Or [a] pos) ga := let ⟨t, p, q⟩ := h.ex; .mk (pw_or1 p) q
theorem dw_and (ha : DT W X E a ga) (hb : DW W X E (.BoolOp .And (b :: rest) pos) gb) : DW W X E (.BoolOp .And (a :: b :: rest) pos) (tAndD ga gb) := by
  obtain ⟨ta, pa, qa⟩ := ha.ex
  obtain ⟨tb, pb, qb⟩ := hb.ex
  refine .mk (pw_and pa pb) fun Rs F H rr sg env st Q hH hE hP => ?_
  refine qa Rs F H rr sg env st _ hH hE (bindX hP fun a ea q F1 H1 r1 s1 x1 h1 => ?_)
  obtain ⟨c, st1⟩ := a
  cases c with
  | true => exact qb Rs F1 H1 r1 sg env st1 Q h1 (hE.mono s1 x1) (PostT.later s1 x1 q)
  | false => exact q F1 H1 r1 s1 x1 h1
theorem dw_or (ha : DT W X E a ga) (hb : DW W X E (.BoolOp .Or (b :: rest) pos) gb) : DW W X E (.BoolOp .Or (a :: b :: rest) pos) (tOrD ga gb) := by
  obtain ⟨ta, pa, qa⟩ := ha.ex
  obtain ⟨tb, pb, qb⟩ := hb.ex
  refine .mk (pw_or pa pb) fun Rs F H rr sg env st Q hH hE hP => ?_
  refine qa Rs F H rr sg env st _ hH hE (bindX hP fun a ea q F1 H1 r1 s1 x1 h1 => ?_)
  obtain ⟨c, st1⟩ := a
  cases c with
  | true => exact q F1 H1 r1 s1 x1 h1
  | false => exact qb Rs F1 H1 r1 sg env st1 Q h1 (hE.mono s1 x1) (PostT.later s1 x1 q)
theorem dt_w (h : DW W X E a ga) : DT W X E a ga := let ⟨t, p, q⟩ := h.ex; .mk (p.pt) q
theorem dt_not (h : DT W X E a ga) : DT W X E (.UnaryOp .Not a pos) (tNotD ga) := by
  obtain ⟨ta, pa, qa⟩ := h.ex
  refine .mk (pt_not pa) fun Rs F H rr sg env st Q hH hE hP => ?_
  exact qa Rs F H rr sg env st _ hH hE (bindX hP fun a ea q F1 H1 r1 s1 x1 h1 => q F1 H1 r1 s1 x1 h1)
def eAnd (f g : EV) : EV := fun env st => (f env st).bind fun a => match a.1 with
  | .bl true => g env a.2
  | .bl false => .ok (.bl false, a.2)
  | _ => .bad
def eOr (f g : EV) : EV := fun env st => (f env st).bind fun a => match a.1 with
  | .bl true => .ok (.bl true, a.2)
  | .bl false => g env a.2
  | _ => .bad
def eNot (f : EV) : EV := fun env st => (f env st).bind fun a => match a.1 with
  | .bl b => .ok (.bl (!b), a.2)
  | _ => .bad
theorem de_one {op} {f : EV} (h : DE W X E a f) : DE W X E (.BoolOp op [a] pos) f := let ⟨t, p, q⟩ := h.ex; .mk (pe_one p) q
theorem de_and (ha : DE W X E a fa) (hb : DE W X E (.BoolOp .And (b :: rest) pos) fb) : DE W X E (.BoolOp .And (a :: b :: rest) pos) (eAnd fa fb) := by
  obtain ⟨ta, pa, qa⟩ := ha.ex
  obtain ⟨tb, pb, qb⟩ := hb.ex
  refine .mk (pe_and pa pb) fun Rs F H rr sg env st Q hH hE hP => ?_
  refine qa Rs F H rr sg env st _ hH hE (bindX hP fun a ea q F1 H1 r1 v1 s1 x1 h1 k1 => ?_)
  obtain ⟨d, st1⟩ := a
  cases d with
  | bl c =>
    cases k1
    refine ⟨c, rfl, ?_⟩
    cases c with
    | true => exact qb Rs F1 H1 r1 sg env st1 Q h1 (hE.mono s1 x1) (Post.later s1 x1 q)
    | false => exact q F1 H1 r1 _ s1 x1 h1 (.bl false)
  | _ => exact q.elim
theorem de_not (h : DE W X E a fa) : DE W X E (.UnaryOp .Not a pos) (eNot fa) := by
  obtain ⟨ta, pa, qa⟩ := h.ex
  refine .mk (pe_not pa) fun Rs F H rr sg env st Q hH hE hP => ?_
  refine qa Rs F H rr sg env st _ hH hE (bindX hP fun a ea q F1 H1 r1 v1 s1 x1 h1 k1 => ?_)
  obtain ⟨d, st1⟩ := a
  cases d with
  | bl c => cases k1; exact ⟨c, rfl, q F1 H1 r1 _ s1 x1 h1 (.bl _)⟩
  | _ => exact q.elim
def eIf (t : TV) (f g : EV) : EV := fun env st => (t env st).bind fun a => if a.1 = true then f env a.2 else g env a.2
theorem de_if {c : Expr} (hc : DT W X E c ga) (ha : DE W X E a fa) (hb : DE W X E b fb) : DE W X E (.IfExp c a b pos) (eIf ga fa fb) := by
  obtain ⟨tc, pc, qc⟩ := hc.ex
  obtain ⟨ta, pa, qa⟩ := ha.ex
  obtain ⟨tb, pb, qb⟩ := hb.ex
  refine .mk (pe_ifExp pc pa pb) fun Rs F H rr sg env st Q hH hE hP => ?_
  refine qc Rs F H rr sg env st _ hH hE (bindX hP fun a ea q F1 H1 r1 s1 x1 h1 => ?_)
  obtain ⟨c, st1⟩ := a
  cases c with
  | true => exact qa Rs F1 H1 r1 sg env st1 Q h1 (hE.mono s1 x1) (Post.later s1 x1 q)
  | false => exact qb Rs F1 H1 r1 sg env st1 Q h1 (hE.mono s1 x1) (Post.later s1 x1 q)
def aNil : AV := fun _ st => .ok ([], st)
def aCons (f : EV) (g : AV) : AV := fun env st => (f env st).bind fun a => (g env a.2).bind fun b => .ok (a.1 :: b.1, b.2)
theorem da_nil : DA W X E [] aNil := .mk pa_nil fun Rs F H rr sg env st Q hH hE hP => hP F H rr [] (Same.refl _) (Ext.refl _) hH .nil
theorem da_cons {e : Expr} {es : List Expr} {f : EV} {g : AV} (he : DE W X E e f) (hr : DA W X E es g) (hs : starEach (e :: es) X.env = (false, eval e X.env) :: starEach es X.env := by rfl) : DA W X E (e :: es) (aCons f g) := by
  obtain ⟨te, pe, qe⟩ := he.ex
  obtain ⟨tr, pr, qr⟩ := hr.ex
  refine .mk (pa_cons pe pr hs) fun Rs F H rr sg env st Q hH hE hP => ?_
  refine qe Rs F H rr sg env st _ hH hE (bindX hP fun a ea q F1 H1 r1 v1 s1 x1 h1 k1 => ?_)
  refine qr Rs F1 H1 r1 sg env a.2 _ h1 (hE.mono s1 x1) (bindX (PostA.later s1 x1 (res := (g env a.2).bind _) q) fun b eb q2 F2 H2 r2 vs s2 x2 h2 k2 => ?_)
  exact q2 F2 H2 r2 (v1 :: vs) s2 x2 h2 (.cons (k1.mono s2 x2) k2)
/-- a list laid: frozen, or into the store -/
def newL (m : Bool) (ds : List D) (st : Store) : R (D × Store) := if m = true then .ok (.ref st.length, st ++ [.lst ds]) else .ok (.lst ds, st)
theorem newL_post {m : Bool} {Rs F H : Hp} {r : List Addr} {st : Store} {Q : VK} {vs : List V} {ds : List D} {p : Addr} (h : Holds W Rs F H r st) (k : Reps F r vs ds) (q : Post W Rs F r (newL m ds st) Q E) (e : H p = none) : Q (.ref p) (upd H p (.lst vs)) := by
  unfold newL at q
  cases m with
  | true =>
    refine q F (upd H p (.lst vs)) (r ++ [p]) (.ref p) (Same.refl _) (Ext.snoc _ _) (h.fresh e ⟨vs, upd_same, k.mono (Same.refl _) (Ext.snoc _ _)⟩) (.ref ?_)
    show (r ++ [p])[st.length]? = some p
    rw [← h.len, List.getElem?_append_right (Nat.le_refl _)]; simp
  | false =>
    obtain ⟨s, h'⟩ := h.frozen (o := .lst vs) e
    exact q _ _ r (.ref p) s (Ext.refl _) h' (.lst upd_same (k.mono s (Ext.refl _)))
theorem tup_post {Rs F H : Hp} {r : List Addr} {st : Store} {Q : VK} {vs : List V} {ds : List D} {p : Addr} (h : Holds W Rs F H r st) (k : Reps F r vs ds) (q : onE W Rs F r Q (.tup ds, st)) (e : H p = none) : Q (.ref p) (upd H p (.tup vs)) := by
  obtain ⟨s, h'⟩ := h.frozen (o := .tup vs) e
  exact q _ _ r (.ref p) s (Ext.refl _) h' (.tup upd_same (k.mono s (Ext.refl _)))
theorem lim_line {n : Nat} (h : n ≤ LIM) : n ≤ sizeLine := Nat.le_trans h (by decide)
theorem lim_lt {n : Nat} (h : n ≤ LIM) : n < sizeLine := Nat.lt_of_le_of_lt h (by decide)
def eTup (g : AV) : EV := fun env st => (g env st).bind fun a => if a.1.length ≤ LIM then .ok (.tup a.1, a.2) else .bad
def eLst (m : Bool) (g : AV) : EV := fun env st => (g env st).bind fun a => if a.1.length ≤ LIM then newL m a.1 a.2 else .bad
theorem de_tup {es : List Expr} {g : AV} {x1} (h : DA W X E es g) : DE W X E (.Tuple es x1 pos) (eTup g) := by
  obtain ⟨t, p, q⟩ := h.ex
  refine .mk (pe_tup p) fun Rs F H rr sg env st Q hH hE hP => ?_
  refine q Rs F H rr sg env st _ hH hE (bindX hP fun a ea q F1 H1 r1 vs s1 x1 h1 k1 => ?_)
  by_cases hl : a.1.length ≤ LIM
  · rw [if_pos hl] at q
    exact ⟨by rw [k1.length]; exact lim_line hl, fun pp hp => tup_post h1 k1 (Post.later s1 x1 (res := .ok (.tup a.1, a.2)) q) hp⟩
  · rw [if_neg hl] at q; exact q.elim
theorem de_lst (m : Bool) {es : List Expr} {g : AV} (h : DA W X E es g) : DE W X E (.List es pos) (eLst m g) := by
  obtain ⟨t, p, q⟩ := h.ex
  refine .mk (pe_lst p) fun Rs F H rr sg env st Q hH hE hP => ?_
  refine q Rs F H rr sg env st _ hH hE (bindX hP fun a ea q F1 H1 r1 vs s1 x1 h1 k1 => ?_)
  by_cases hl : a.1.length ≤ LIM
  · rw [if_pos hl] at q
    exact ⟨by rw [k1.length]; exact lim_line hl, fun pp hp => newL_post (m := m) h1 k1 (Post.later s1 x1 q) hp⟩
  · rw [if_neg hl] at q; exact q.elim
end
def lstOf (st : Store) : D → Option (List D)
  | .lst ds => some ds
  | .ref n => match st[n]? with
    | some (.lst ds) => some ds
    | _ => none
  | _ => none
theorem lstOf_ok {W : Wd} {Rs F H : Hp} {r : List Addr} {st : Store} {v : V} {d : D} {ds : List D} (h : Holds W Rs F H r st) (k : Rep F r v d) (e : lstOf st d = some ds) : ∃ a vs, v = .ref a ∧ H a = some (.lst vs) ∧ Reps F r vs ds := by
  cases k with
  | lst q k => cases e; exact ⟨_, _, rfl, h.sF _ _ q, k⟩
  | @ref a n q =>
    unfold lstOf at e
    simp only at e
    split at e
    · rename_i ds' e'
      cases e
      have hh := h.ob n a _ q e'
      obtain ⟨vs, e1, k⟩ := hh
      exact ⟨a, vs, rfl, e1, k⟩
    · cases e
  | _ => cases e
end Dl
namespace Dl
open PySem L2
section
variable {W : Wd} {X : Cx} {E : XK}
theorem DOp.of {f : Value → Value → Sem Value} {r : R2} {g : G2} (h : OpR X f r) (k : ∀ Rs F H rr st x y dx dy Q E, Holds W Rs F H rr st → Rep F rr x dx → Rep F rr y dy → Post W Rs F rr (g st dx dy) Q E → r x y H Q) : DOp W X f g := ⟨r, h, k⟩
def optAll {A : Type} : List (Option A) → Option (List A)
  | [] => some []
  | none :: _ => none
  | some a :: r => match optAll r with
    | some l => some (a :: l)
    | none => none
def toP (st : Store) : Nat → D → Option PyData
  | 0, _ => none
  | n + 1, d => match d with
    | .non => some .none
    | .bl b => some (.bool b)
    | .int i => some (.int i)
    | .str s => some (.str ⟨s.toArray⟩)
    | .tup ds => match optAll (ds.map (toP st n)) with
      | some ps => some (.tuple ps)
      | none => none
    | .lst ds => match optAll (ds.map (toP st n)) with
      | some ps => some (.list ps)
      | none => none
    | .ref k => match st[k]? with
      | some (.lst ds) => match optAll (ds.map (toP st n)) with
        | some ps => some (.list ps)
        | none => none
      | _ => none
    | .scr _ => none
    | .exn _ _ => none
theorem strOk_of {s : List Nat} (h : s.all (fun c => decide (c < 128)) = true) : PyData.strOk ⟨s.toArray⟩ = true := by
  unfold PyData.strOk
  rw [List.all_eq_true] at h
  simp only [List.size_toArray, List.all_toArray', List.all_eq_true, decide_eq_true_eq]
  intro x hx
  have := of_decide_eq_true (h x hx)
  omega
section
variable {Rs F H : Hp} {r : List Addr} {st : Store}
theorem toP_ok (h : Holds W Rs F H r st) : ∀ (n : Nat) (d : D) (v : V) (p : PyData), Rep F r v d → toP st n d = some p → Dp W.K H v p ∧ p.canLay0 = true ∧ p.depth ≤ n
  | 0, _, _, _, _, e => by cases e
  | n + 1, d, v, p, k, e => by
    have all : ∀ (ds : List D) (vs : List V) (ps : List PyData), Reps F r vs ds → optAll (ds.map (toP st n)) = some ps → DpAll W.K H vs ps ∧ PyData.canLayAll0 ps = true ∧ PyData.depthAll ps ≤ n := by
      intro ds
      induction ds with
      | nil => intro vs ps k e; cases k; cases e; exact ⟨.nil, rfl, Nat.zero_le _⟩
      | cons d ds ih =>
        intro vs ps k e
        cases k with
        | cons k1 k2 =>
          rw [List.map_cons] at e
          cases e1 : toP st n d with
          | none => rw [e1] at e; cases e
          | some p1 =>
            rw [e1] at e
            unfold optAll at e
            cases e2 : optAll (ds.map (toP st n)) with
            | none => rw [e2] at e; cases e
            | some ps2 =>
              rw [e2] at e
              cases e
              obtain ⟨a1, a2, a3⟩ := toP_ok h n d _ _ k1 e1
              obtain ⟨b1, b2, b3⟩ := ih _ _ k2 e2
              refine ⟨.cons a1 b1, ?_, ?_⟩
              · unfold PyData.canLayAll0; rw [a2, b2]; rfl
              · unfold PyData.depthAll; omega
    cases k with
    | non => cases e; exact ⟨.non, rfl, Nat.zero_le _⟩
    | bl b => cases e; exact ⟨.bl b, rfl, Nat.zero_le _⟩
    | int i => cases e; exact ⟨.int i, rfl, Nat.zero_le _⟩
    | str s a l => cases e; exact ⟨.str _, strOk_of a, Nat.zero_le _⟩
    | scr q => cases e
    | exn0 => cases e
    | exn1 q => cases e
    | tup q k =>
      unfold toP at e
      simp only at e
      split at e
      · rename_i ps e'
        cases e
        obtain ⟨a1, a2, a3⟩ := all _ _ _ k e'
        refine ⟨.tup (.of (h.sF _ _ q)) a1, ?_, ?_⟩
        · unfold PyData.canLay0; exact a2
        · unfold PyData.depth; omega
      · cases e
    | lst q k =>
      unfold toP at e
      simp only at e
      split at e
      · rename_i ps e'
        cases e
        obtain ⟨a1, a2, a3⟩ := all _ _ _ k e'
        refine ⟨.lst (.of (h.sF _ _ q)) a1, ?_, ?_⟩
        · unfold PyData.canLay0; exact a2
        · unfold PyData.depth; omega
      · cases e
    | @ref a m q =>
      unfold toP at e
      simp only at e
      split at e
      · rename_i ds e0
        split at e
        · rename_i ps e'
          cases e
          obtain ⟨vs, q', k⟩ := h.ob m a _ q e0
          obtain ⟨a1, a2, a3⟩ := all _ _ _ k e'
          refine ⟨.lst (.of q') a1, ?_, ?_⟩
          · unfold PyData.canLay0; exact a2
          · unfold PyData.depth; omega
        · cases e
      · cases e
end
def eqG (neg : Bool) : G2 := fun st d e => match toP st 40 d, toP st 40 e with
  | some p, some q => .ok (.bl (if neg = true then !PyData.eqv p q else PyData.eqv p q), st)
  | _, _ => .bad
theorem shaped_of {p : PyData} (a : p.canLay0 = true) (b : p.depth ≤ 40) : SeqAt.shaped p = true := by
  unfold SeqAt.shaped
  rw [a, decide_eq_true (show p.depth ≤ 64 by omega)]; rfl
theorem dop_eq (hK : X.K = W.K) (hu : X.A.units + 64 < cLine) : DOp W X (compareOp .Eq) (eqG false) := .of (op_eqD hu) fun Rs F H rr st x y dx dy Q E h kx ky hP => by
  unfold eqG at hP
  split at hP
  · rename_i p q e1 e2
    obtain ⟨a1, a2, a3⟩ := toP_ok h _ _ _ _ kx e1
    obtain ⟨b1, b2, b3⟩ := toP_ok h _ _ _ _ ky e2
    exact ⟨p, q, by rw [hK]; exact a1, by rw [hK]; exact b1, shaped_of a2 a3, shaped_of b2 b3, onE_here h (.bl _) hP⟩
  · exact hP.elim
theorem dop_ne (hK : X.K = W.K) (hu : X.A.units + 64 < cLine) : DOp W X (compareOp .NotEq) (eqG true) := .of (op_neD hu) fun Rs F H rr st x y dx dy Q E h kx ky hP => by
  unfold eqG at hP
  split at hP
  · rename_i p q e1 e2
    obtain ⟨a1, a2, a3⟩ := toP_ok h _ _ _ _ kx e1
    obtain ⟨b1, b2, b3⟩ := toP_ok h _ _ _ _ ky e2
    exact ⟨p, q, by rw [hK]; exact a1, by rw [hK]; exact b1, shaped_of a2 a3, shaped_of b2 b3, onE_here h (.bl _) hP⟩
  · exact hP.elim
def ltG : G2 := fun st d e => match d, e with
  | .int i, .int j => .ok (.bl (decide (i < j)), st)
  | _, _ => .bad
def gtG : G2 := fun st d e => match d, e with
  | .int i, .int j => .ok (.bl (decide (j < i)), st)
  | _, _ => .bad
def geG : G2 := fun st d e => match d, e with
  | .int i, .int j => .ok (.bl (decide (j ≤ i)), st)
  | _, _ => .bad
def leG : G2 := fun st d e => match d, e with
  | .int i, .int j => .ok (.bl (decide (i ≤ j)), st)
  | .str a, .str b => .ok (.bl (!decide (b < a)), st)
  | _, _ => .bad
theorem dop_lt : DOp W X (compareOp .Lt) ltG := .of op_lt fun Rs F H rr st x y dx dy Q E h kx ky hP => by
  cases kx <;> cases ky <;> first | exact hP.elim | exact ⟨_, _, rfl, rfl, onE_here h (.bl _) hP⟩
theorem dop_gt : DOp W X (compareOp .Gt) gtG := .of op_gt fun Rs F H rr st x y dx dy Q E h kx ky hP => by
  cases kx <;> cases ky <;> first | exact hP.elim | exact ⟨_, _, rfl, rfl, onE_here h (.bl _) hP⟩
theorem dop_ge : DOp W X (compareOp .GtE) geG := .of op_ge fun Rs F H rr st x y dx dy Q E h kx ky hP => by
  cases kx <;> cases ky <;> first | exact hP.elim | exact ⟨_, _, rfl, rfl, onE_here h (.bl _) hP⟩
theorem dop_le : DOp W X (compareOp .LtE) leG := .of (op_le.or op_le_str) fun Rs F H rr st x y dx dy Q E h kx ky hP => by
  cases kx <;> cases ky <;> first | exact hP.elim | exact .inl ⟨_, _, rfl, rfl, onE_here h (.bl _) hP⟩ | exact .inr ⟨_, _, rfl, rfl, onE_here h (.bl _) hP⟩
def isG (neg : Bool) : G2 := fun st d e => match d, e with
  | .bl a, .bl b => .ok (.bl (if neg = true then !decide (a = b) else decide (a = b)), st)
  | .non, .non => .ok (.bl (!neg), st)
  | _, .non => .ok (.bl neg, st)
  | _, _ => .bad
theorem dop_is : DOp W X (compareOp .Is) (isG false) := .of (op_isN.or op_isBl) fun Rs F H rr st x y dx dy Q E h kx ky hP => by
  cases kx <;> cases ky <;> first | exact hP.elim | exact .inl ⟨rfl, onE_here h (.bl _) hP⟩ | exact .inr ⟨_, _, rfl, rfl, onE_here h (.bl _) hP⟩
theorem dop_isnot : DOp W X (compareOp .IsNot) (isG true) := .of (op_notN.or op_notBl) fun Rs F H rr st x y dx dy Q E h kx ky hP => by
  cases kx <;> cases ky <;> first | exact hP.elim | exact .inl ⟨rfl, onE_here h (.bl _) hP⟩ | exact .inr ⟨_, _, rfl, rfl, onE_here h (.bl _) hP⟩
def addG (m : Bool) : G2 := fun st d e => match d, e with
  | .int i, .int j => .ok (.int (i + j), st)
  | .str a, .str b => if a.length + b.length ≤ LIM then .ok (.str (a ++ b), st) else .bad
  | .tup a, .tup b => if a.length + b.length ≤ LIM then .ok (.tup (a ++ b), st) else .bad
  | d, e => match lstOf st d, lstOf st e with
    | some a, some b => if a.length + b.length ≤ LIM then newL m (a ++ b) st else .bad
    | _, _ => .bad
theorem str_app (a b : List Nat) : ((⟨a.toArray⟩ : Str) ++ ⟨b.toArray⟩) = ⟨(a ++ b).toArray⟩ := TL.ext_tl (by rw [TL.tl_append])
theorem len_mk (a : List Nat) : (⟨a.toArray⟩ : Str).length = a.length := by simp [Str.length]
theorem rep_app {F : Hp} {r : List Addr} {a b : List Nat} (h1 : a.all (fun c => decide (c < 128)) = true) (h2 : b.all (fun c => decide (c < 128)) = true) (h : a.length + b.length ≤ LIM) : Rep F r (.str ((⟨a.toArray⟩ : Str) ++ ⟨b.toArray⟩)) (.str (a ++ b)) := by
  rw [str_app]
  exact .str _ (by rw [List.all_append, h1, h2]; rfl) (by simpa using h)
theorem addL {m : Bool} {st : Store} {d e : D} (h1 : ∀ i, d ≠ .int i) (h2 : ∀ i, d ≠ .str i) (h3 : ∀ i, d ≠ .tup i) : addG m st d e = match lstOf st d, lstOf st e with
    | some a, some b => if a.length + b.length ≤ LIM then newL m (a ++ b) st else .bad
    | _, _ => .bad := by
  cases d <;> first | rfl | exact absurd rfl (h1 _) | exact absurd rfl (h2 _) | exact absurd rfl (h3 _)
theorem dop_add (m : Bool) : DOp W X (binaryOp .Add) (addG m) := .of (op_add.or (op_add_str.or (op_catA.or op_cat))) fun Rs F H rr st x y dx dy Q E h kx ky hP => by
  have lists : (match lstOf st dx, lstOf st dy with
    | some a, some b => if a.length + b.length ≤ LIM then newL m (a ++ b) st else .bad
    | _, _ => (.bad : R (D × Store))) = addG m st dx dy → rCat x y H Q := fun eq => by
    rw [← eq] at hP
    split at hP
    · rename_i a b e1 e2
      by_cases hl : a.length + b.length ≤ LIM
      · rw [if_pos hl] at hP
        obtain ⟨p, vs, rfl, h1, k1⟩ := lstOf_ok h kx e1
        obtain ⟨q, ws, rfl, h2, k2⟩ := lstOf_ok h ky e2
        exact ⟨p, q, vs, ws, rfl, rfl, h1, h2, by rw [k1.length, k2.length]; exact lim_line hl, fun pp hp => newL_post h (Reps.append k1 k2) hP hp⟩
      · rw [if_neg hl] at hP; exact hP.elim
    · exact hP.elim
  cases kx with
  | int i =>
    cases ky with
    | int j => exact .inl ⟨_, _, rfl, rfl, onE_here h (.int _) hP⟩
    | _ => exact hP.elim
  | str a ha hal =>
    cases ky with
    | str b hb hbl =>
      refine .inr (.inl ⟨_, _, rfl, rfl, ?_⟩)
      by_cases hl : a.length + b.length ≤ LIM
      · unfold addG at hP
        simp only at hP
        rw [if_pos hl] at hP
        exact ⟨by rw [len_mk, len_mk]; exact lim_line hl, onE_here h (rep_app ha hb hl) hP⟩
      · unfold addG at hP
        simp only at hP
        rw [if_neg hl] at hP; exact hP.elim
    | _ => exact hP.elim
  | @tup p vs ds q1 k1 =>
    cases ky with
    | @tup p2 ws es q2 k2 =>
      refine .inr (.inr (.inl ?_))
      by_cases hl : ds.length + es.length ≤ LIM
      · unfold addG at hP
        simp only at hP
        rw [if_pos hl] at hP
        refine ⟨_, _, vs, ws, rfl, rfl, .of (h.sF _ _ q1), .of (h.sF _ _ q2), by rw [k1.length, k2.length]; exact lim_line hl, fun e => ?_, fun e1 e2 => ?_, fun e1 e2 pp hp => ?_⟩
        · subst e
          cases k1
          exact onE_here h (.tup q2 k2) hP
        · subst e2
          cases k2
          rw [List.append_nil] at hP
          exact onE_here h (.tup q1 k1) hP
        · exact tup_post h (Reps.append k1 k2) hP hp
      · unfold addG at hP
        simp only at hP
        rw [if_neg hl] at hP; exact hP.elim
    | _ => exact hP.elim
  | non => exact .inr (.inr (.inr (lists rfl)))
  | bl b => exact .inr (.inr (.inr (lists rfl)))
  | lst q k => exact .inr (.inr (.inr (lists rfl)))
  | ref q => exact .inr (.inr (.inr (lists rfl)))
  | scr q => exact .inr (.inr (.inr (lists rfl)))
  | exn0 => exact .inr (.inr (.inr (lists rfl)))
  | exn1 q => exact .inr (.inr (.inr (lists rfl)))
def subG : G2 := fun st d e => match d, e with
  | .int i, .int j => .ok (.int (i - j), st)
  | _, _ => .bad
theorem dop_sub : DOp W X (binaryOp .Sub) subG := .of op_sub fun Rs F H rr st x y dx dy Q E h kx ky hP => by
  cases kx <;> cases ky <;> first | exact hP.elim | exact ⟨_, _, rfl, rfl, onE_here h (.int _) hP⟩
def divG : G2 := fun st d e => match d, e with
  | .int i, .int j => if 0 < j ∧ j < 2 ^ 64 then .ok (.int (i / j), st) else .bad
  | _, _ => .bad
theorem dop_div : DOp W X (binaryOp .FloorDiv) divG := .of op_fdivW fun Rs F H rr st x y dx dy Q E h kx ky hP => by
  cases kx <;> cases ky <;> first | exact hP.elim | skip
  rename_i i j
  unfold divG at hP
  simp only at hP
  by_cases hl : 0 < j ∧ j < 2 ^ 64
  · rw [if_pos hl] at hP
    exact ⟨_, _, rfl, rfl, wide_div hl.1 (b := 64) (by omega) (by decide) (by decide), onE_here h (.int _) hP⟩
  · rw [if_neg hl] at hP; exact hP.elim
def modG : G2 := fun st d e => match d, e with
  | .int i, .int j => if 0 < j then .ok (.int (i % j), st) else .bad
  | _, _ => .bad
theorem dop_mod : DOp W X (binaryOp .Mod) modG := .of op_mod fun Rs F H rr st x y dx dy Q E h kx ky hP => by
  cases kx <;> cases ky <;> first | exact hP.elim | skip
  rename_i i j
  unfold modG at hP
  simp only at hP
  by_cases hl : 0 < j
  · rw [if_pos hl] at hP
    exact ⟨_, _, rfl, rfl, hl, onE_here h (.int _) hP⟩
  · rw [if_neg hl] at hP; exact hP.elim
def powG : G2 := fun st d e => match d, e with
  | .int i, .int j => if 0 ≤ j ∧ j ≤ 1000 ∧ i.natAbs < 2 ^ 64 then .ok (.int (i ^ j.toNat), st) else .bad
  | _, _ => .bad
theorem dop_pow : DOp W X (binaryOp .Pow) powG := .of op_pow fun Rs F H rr st x y dx dy Q E h kx ky hP => by
  cases kx <;> cases ky <;> first | exact hP.elim | skip
  rename_i i j
  unfold powG at hP
  simp only at hP
  by_cases hl : 0 ≤ j ∧ j ≤ 1000 ∧ i.natAbs < 2 ^ 64
  · rw [if_pos hl] at hP
    exact ⟨_, _, rfl, rfl, ⟨hl.1, by omega, hl.2.2⟩, onE_here h (.int _) hP⟩
  · rw [if_neg hl] at hP; exact hP.elim
/-- a text taken several times -/
def rMulS : R2 := fun x y H Q => ∃ z n, x = .str z ∧ y = .int n ∧ n ≤ 1000000 ∧ -1000000 ≤ n ∧ z.length * n.toNat ≤ 1000000 ∧ Q (.str ⟨(List.replicate n.toNat z.cps.toList).flatten.toArray⟩) H
theorem foldl_arr (a : Array Nat) : ∀ (k : Nat) (acc : Array Nat), (List.replicate k a).foldl (· ++ ·) acc = (acc.toList ++ (List.replicate k a.toList).flatten).toArray
  | 0, acc => by simp
  | k + 1, acc => by
    rw [List.replicate_succ, List.foldl_cons, foldl_arr a k, List.replicate_succ, List.flatten_cons]
    simp
theorem op_mulS : OpR X (binaryOp .Mult) rMulS := by
  intro pins s sg H x y v u Q I rx ry h
  obtain ⟨z, n, rfl, rfl, h1, h2, h3, q⟩ := h
  obtain ⟨t, rfl⟩ := rx
  obtain ⟨t', rfl⟩ := ry
  have fin : ∀ (w : Str) (u : Value) (s' : Shared), RelV (.str w) u → Inv X pins sg H s' → w = ⟨(List.replicate n.toNat z.cps.toList).flatten.toArray⟩ → EP X pins sg Q u s' := fun w u s' r I' e => ⟨.str w, H, I', r, by rw [e]; exact q⟩
  by_cases hn : n < 1
  · refine PySem.P.mul_str_none hn (by omega) (fin Str.empty _ _ ⟨_, rfl⟩ (I.tok _) ?_)
    have e : n.toNat = 0 := by omega
    rw [e]; rfl
  · refine PySem.P.mul_str ?_ ?_ ?_ ?_
    · rw [decide_eq_false (by omega), decide_eq_false (by omega)]; rfl
    · intro _ hb
      have hz : z.length ≤ 1000000 := by
        have : 1 ≤ n.toNat := by omega
        exact Nat.le_trans (Nat.le_mul_of_pos_right _ this) h3
      have : (1000000 : Int) ≤ (2 ^ 63 - 1 : Int) / n := by
        rw [Int.le_ediv_iff_mul_le (by omega)]
        omega
      omega
    · intro _ hb
      unfold Builtin.Str.tooLong
      have hs : (sizeLine : Nat) = 16777216 := sizeLine_eq
      simp only [decide_eq_false_iff_not]
      omega
    · rw [if_neg hn]
      by_cases hb : (n == 1 || z.length == 0) = true
      · rw [if_pos hb]
        refine fin z _ _ ⟨_, rfl⟩ I ?_
        rw [Bool.or_eq_true, beq_iff_eq, beq_iff_eq] at hb
        apply TL.ext_tl
        rw [TL.tl_mk]
        rcases hb with hb | hb
        · subst hb; simp [TL.tl]
        · have : z.cps.toList = [] := by
            have : z.cps.toList.length = 0 := by simpa [Str.length] using hb
            exact List.length_eq_zero_iff.mp this
          rw [this]; simp [TL.tl, this]
      · rw [if_neg hb]
        have e : (List.replicate n.toNat z.cps).foldl (· ++ ·) #[] = (List.replicate n.toNat z.cps.toList).flatten.toArray := by rw [foldl_arr]; simp
        refine ⟨?_, fin _ _ _ ⟨_, rfl⟩ (I.tok _) (by rw [e])⟩
        rw [e]
        show (List.replicate n.toNat z.cps.toList).flatten.toArray.size ≤ sizeLine
        have hs : (sizeLine : Nat) = 16777216 := sizeLine_eq
        rw [List.size_toArray, List.length_flatten, List.map_replicate, List.sum_replicate_nat]
        have : z.cps.toList.length = z.length := by simp [Str.length]
        rw [this, Nat.mul_comm]
        omega
def mulG (m : Bool) : G2 := fun st d e => match d, e with
  | .int i, .int j => if (-(2 ^ 64) < i ∧ i < 2 ^ 64) ∨ (-(2 ^ 64) < j ∧ j < 2 ^ 64) then .ok (.int (i * j), st) else .bad
  | .str s, .int n => if -1000000 ≤ n ∧ n ≤ 1000000 ∧ s.length * n.toNat ≤ LIM then .ok (.str (List.replicate n.toNat s).flatten, st) else .bad
  | .tup ds, .int n => if ds ≠ [] ∧ 2 ≤ n ∧ n ≤ 1000 ∧ ds.length ≤ 1000 then .ok (.tup (List.replicate n.toNat ds).flatten, st) else .bad
  | d, .int n => match lstOf st d with
    | some ds => if -1000000 ≤ n ∧ n ≤ 1000000 ∧ ds.length * n.toNat ≤ LIM then newL m (List.replicate n.toNat ds).flatten st else .bad
    | none => .bad
  | _, _ => .bad
theorem all_rep {s : List Nat} {p : Nat → Bool} (h : s.all p = true) : ∀ k : Nat, (List.replicate k s).flatten.all p = true
  | 0 => rfl
  | k + 1 => by rw [List.replicate_succ, List.flatten_cons, List.all_append, h, all_rep h k]; rfl
theorem len_rep {A : Type} (s : List A) (k : Nat) : (List.replicate k s).flatten.length = s.length * k := by
  rw [List.length_flatten, List.map_replicate, List.sum_replicate_nat, Nat.mul_comm]
theorem dop_mul (m : Bool) : DOp W X (binaryOp .Mult) (mulG m) := .of (op_mul.or (op_mulS.or (op_repT.or op_rep))) fun Rs F H rr st x y dx dy Q E h kx ky hP => by
  have lists : ∀ n, y = .int n → (match lstOf st dx with
    | some ds => if -1000000 ≤ n ∧ n ≤ 1000000 ∧ ds.length * n.toNat ≤ LIM then newL m (List.replicate n.toNat ds).flatten st else .bad
    | none => (.bad : R (D × Store))) = mulG m st dx dy → rRep x y H Q := fun n ey eq => by
    rw [← eq] at hP
    split at hP
    · rename_i a e1
      by_cases hl : -1000000 ≤ n ∧ n ≤ 1000000 ∧ a.length * n.toNat ≤ LIM
      · rw [if_pos hl] at hP
        obtain ⟨p, vs, rfl, h1, k1⟩ := lstOf_ok h kx e1
        exact ⟨p, n, vs, rfl, ey, h1, by omega, by omega, by rw [k1.length]; exact lim_line hl.2.2, fun pp hp => newL_post h (Reps.flat k1 _) hP hp⟩
      · rw [if_neg hl] at hP; exact hP.elim
    · exact hP.elim
  cases ky with
  | int n =>
    cases kx with
    | int i =>
      unfold mulG at hP
      simp only at hP
      split at hP
      · rename_i hc
        exact .inl ⟨_, _, rfl, rfl, hc, onE_here h (.int _) hP⟩
      · exact hP.elim
    | str a ha hal =>
      unfold mulG at hP
      simp only at hP
      split at hP
      · rename_i hc
        refine .inr (.inl ⟨_, _, rfl, rfl, hc.2.1, hc.1, by rw [len_mk]; exact hc.2.2, ?_⟩)
        refine onE_here h ?_ hP
        exact .str _ (all_rep ha _) (by rw [len_rep]; exact hc.2.2)
      · exact hP.elim
    | @tup p vs ds q1 k1 =>
      unfold mulG at hP
      simp only at hP
      split at hP
      · rename_i hc
        refine .inr (.inr (.inl ⟨_, _, vs, rfl, rfl, .of (h.sF _ _ q1), fun e => hc.1 ?_, hc.2.1, hc.2.2.1, by rw [k1.length]; exact hc.2.2.2, fun pp hp => tup_post h (Reps.flat k1 _) hP hp⟩))
        subst e; cases k1; rfl
      · exact hP.elim
    | non => exact .inr (.inr (.inr (lists _ rfl rfl)))
    | bl b => exact .inr (.inr (.inr (lists _ rfl rfl)))
    | lst q k => exact .inr (.inr (.inr (lists _ rfl rfl)))
    | ref q => exact .inr (.inr (.inr (lists _ rfl rfl)))
    | scr q => exact .inr (.inr (.inr (lists _ rfl rfl)))
    | exn0 => exact .inr (.inr (.inr (lists _ rfl rfl)))
    | exn1 q => exact .inr (.inr (.inr (lists _ rfl rfl)))
  | _ => cases kx <;> exact hP.elim
def flatD : D → Bool
  | .non => true
  | .bl _ => true
  | .int _ => true
  | .str _ => true
  | _ => false
def eqFl : D → D → Bool
  | .non, .non => true
  | .bl a, .bl b => a == b
  | .bl a, .int b => (if a then 1 else 0) == b
  | .int a, .bl b => a == (if b then 1 else 0)
  | .int a, .int b => a == b
  | .str a, .str b => a == b
  | _, _ => false
theorem flatD_ok {F : Hp} {r : List Addr} {v : V} {d : D} (k : Rep F r v d) (h : flatD d = true) : flatV v = true := by cases k <;> first | rfl | cases h
theorem str_beq (a b : List Nat) : ((⟨a.toArray⟩ : Str) == ⟨b.toArray⟩) = (a == b) := by
  by_cases e : a = b
  · subst e; simp
  · rw [beq_eq_false_iff_ne.mpr e, beq_eq_false_iff_ne]
    intro q
    apply e
    have := congrArg (fun (x : Str) => x.cps.toList) q
    simpa using this
theorem eqFl_ok {F : Hp} {r : List Addr} {v w : V} {d e : D} (k : Rep F r v d) (l : Rep F r w e) (h : flatD d = true) (h' : flatD e = true) : eqV v w = eqFl d e := by
  cases k <;> first | (exact absurd h Bool.false_ne_true) | skip
  all_goals (cases l <;> first | rfl | exact str_beq _ _ | (exact absurd h' Bool.false_ne_true))
def seqOf (st : Store) : D → Option (List D)
  | .tup ds => some ds
  | d => lstOf st d
theorem inSeq_ok {F : Hp} {r : List Addr} {v : V} {d : D} (k : Rep F r v d) (h : flatD d = true) : ∀ {vs : List V} {ds : List D}, Reps F r vs ds → ds.all flatD = true → vs.all flatV = true ∧ inV v vs = ds.any fun e => eqFl e d
  | _, _, .nil, _ => ⟨rfl, rfl⟩
  | _, _, .cons k1 k2, e => by
    rw [List.all_cons, Bool.and_eq_true] at e
    obtain ⟨a, b⟩ := inSeq_ok k h k2 e.2
    refine ⟨by rw [List.all_cons, flatD_ok k1 e.1, a]; rfl, ?_⟩
    unfold inV at b ⊢
    rw [List.any_cons, List.any_cons, eqFl_ok k1 k e.1 h, b]
def inG (neg : Bool) : G2 := fun st d e => match d, e with
  | .str [c], .str b => .ok (.bl (if neg = true then !decide (c ∈ b) else decide (c ∈ b)), st)
  | .str _, .str _ => .bad
  | d, e => match seqOf st e with
    | some ds => if flatD d = true ∧ ds.all flatD = true then .ok (.bl (if neg = true then !(ds.any fun z => eqFl z d) else ds.any fun z => eqFl z d), st) else .bad
    | none => .bad
theorem inG_seq {neg : Bool} {st : Store} {d e : D} (h : ∀ s, e ≠ .str s) : inG neg st d e = match seqOf st e with
    | some ds => if flatD d = true ∧ ds.all flatD = true then .ok (.bl (if neg = true then !(ds.any fun z => eqFl z d) else ds.any fun z => eqFl z d), st) else .bad
    | none => .bad := by
  cases e <;> first | exact absurd rfl (h _) | (cases d <;> first | rfl | (rename_i s; cases s <;> first | rfl | (rename_i t; cases t <;> rfl)))
theorem in_seq_ok {neg : Bool} (hK : X.K = W.K) {Rs F H : Hp} {rr : List Addr} {st : Store} {x y : V} {dx dy : D} {Q : VK} (h : Holds W Rs F H rr st) (kx : Rep F rr x dx) (ky : Rep F rr y dy) (hP : Post W Rs F rr (match seqOf st dy with
    | some ds => if flatD dx = true ∧ ds.all flatD = true then .ok (.bl (if neg = true then !(ds.any fun z => eqFl z dx) else ds.any fun z => eqFl z dx), st) else .bad
    | none => (.bad : R (D × Store))) Q E) : rIn X.K neg x y H Q := by
  split at hP
  · rename_i ds e1
    split at hP
    · rename_i hc
      obtain ⟨p, vs, rfl, hs, k1⟩ : ∃ p vs, y = .ref p ∧ (SqL X.K H p vs ∨ SqT X.K H p vs) ∧ Reps F rr vs ds := by
        cases ky with
        | tup q k => cases e1; exact ⟨_, _, rfl, .inr (.of (h.sF _ _ q)), k⟩
        | lst q k => cases e1; exact ⟨_, _, rfl, .inl (.of (h.sF _ _ q)), k⟩
        | ref q =>
          obtain ⟨a, vs, e, q', k⟩ := lstOf_ok h (.ref q) e1
          exact ⟨a, vs, e, .inl (.of q'), k⟩
        | _ => cases e1
      obtain ⟨a1, a2⟩ := inSeq_ok kx hc.1 k1 hc.2
      refine ⟨p, vs, rfl, hs, flatD_ok kx hc.1, a1, ?_⟩
      rw [a2]
      exact onE_here h (.bl _) hP
    · exact hP.elim
  · exact hP.elim
theorem dop_in (hK : X.K = W.K) : DOp W X (compareOp .In) (inG false) := .of (op_in_sign.or op_in_seq) fun Rs F H rr st x y dx dy Q E h kx ky hP => by
  cases ky with
  | str b hb hbl =>
    cases kx with
    | str a ha hal =>
      cases a with
      | nil => exact hP.elim
      | cons c t =>
        cases t with
        | nil => exact .inl ⟨c, _, rfl, rfl, onE_here h (.bl _) hP⟩
        | cons _ _ => exact hP.elim
    | _ => exact hP.elim
  | _ => rw [inG_seq (by intro s z; cases z)] at hP; exact .inr (in_seq_ok hK h kx (by first | exact .non | exact .bl _ | exact .int _ | exact .tup ‹_› ‹_› | exact .lst ‹_› ‹_› | exact .ref ‹_› | exact .scr (by assumption) | exact .exn0 _ | exact .exn1 (by assumption)) hP)
theorem dop_notin (hK : X.K = W.K) : DOp W X (compareOp .NotIn) (inG true) := .of (op_notIn_sign.or op_notIn_seq) fun Rs F H rr st x y dx dy Q E h kx ky hP => by
  cases ky with
  | str b hb hbl =>
    cases kx with
    | str a ha hal =>
      cases a with
      | nil => exact hP.elim
      | cons c t =>
        cases t with
        | nil => exact .inl ⟨c, _, rfl, rfl, onE_here h (.bl _) hP⟩
        | cons _ _ => exact hP.elim
    | _ => exact hP.elim
  | _ => rw [inG_seq (by intro s z; cases z)] at hP; exact .inr (in_seq_ok hK h kx (by first | exact .non | exact .bl _ | exact .int _ | exact .tup ‹_› ‹_› | exact .lst ‹_› ‹_› | exact .ref ‹_› | exact .scr (by assumption) | exact .exn0 _ | exact .exn1 (by assumption)) hP)
end
end Dl
namespace Dl
open PySem L2
section
variable {W : Wd} {X : Cx} {E : XK} {Rs F F1 H : Hp} {r r1 : List Addr}
def sOf {A : Type} (res : R A) (k : A → SR) : SR := match res with
  | .ok a => k a
  | .exc c p st => .exc c p st
  | .bad => .bad
@[simp] theorem sOf_ok {A : Type} (a : A) (k : A → SR) : sOf (R.ok a) k = k a := rfl
@[simp] theorem sOf_exc {A : Type} (c : Nat) (p : Option D) (st : Store) (k : A → SR) : sOf (R.exc c p st : R A) k = .exc c p st := rfl
@[simp] theorem sOf_bad {A : Type} (k : A → SR) : sOf (R.bad : R A) k = .bad := rfl
theorem bindS {A : Type} {res : R A} {k : A → SR} {D : Ends} {K' : A → Prop} (h : PostS W Rs F r (sOf res k) D E) (q : ∀ a, res = .ok a → PostS W Rs F r (k a) D E → K' a) : PostX W Rs F r res K' E := by
  cases res with
  | ok a => exact q a rfl h
  | exc c p st' => exact h
  | bad => exact h
def sNext : SV := fun env st => .nx env st
def sCons (f g : SV) : SV := fun env st => match f env st with
  | .nx e s => g e s
  | .rt d s => .rt d s
  | .bk e s => .bk e s
  | .ct e s => .ct e s
  | .exc c p s => .exc c p s
  | .bad => .bad
def sExpr (f : EV) : SV := fun env st => sOf (f env st) fun a => .nx env a.2
def sRet (f : EV) : SV := fun env st => sOf (f env st) fun a => .rt a.1 a.2
def sIf (t : TV) (f g : SV) : SV := fun env st => sOf (t env st) fun a => if a.1 = true then f env a.2 else g env a.2
def sBad : SV := fun _ _ => .bad
theorem PostF.here {env : Env} {st : Store} {N : St → Hp → Prop} {sg : St} (h : Holds W Rs F H r st) (k : EnvOk F r sg env) (q : PostF W Rs F r env st N) : N sg H := q F H r sg (Same.refl _) (Ext.refl _) h k
variable {st : Stmt} {rest : List Stmt} {f g : SV} {e : Expr} {fe : EV} {pos : Pos}
theorem db_nil : DB W X E [] sNext := .mk pss_nil fun Rs F H r sg env st D hH hE hP => PostF.here hH hE hP
theorem db_one (h : DS W X E st f) : DB W X E [st] f := let ⟨t, p, q⟩ := h.ex; .mk (pss_one p) q
theorem db_cons (h1 : DS W X E st f) (h2 : DB W X E rest g) : DB W X E (st :: rest) (sCons f g) := by
  obtain ⟨t, p, q⟩ := h1.ex
  obtain ⟨t2, p2, q2⟩ := h2.ex
  refine .mk (pss_cons p p2) fun Rs F H r sg env st D hH hE hP => ?_
  refine q Rs F H r sg env st _ hH hE ?_
  unfold sCons at hP
  cases ef : f env st with
  | nx e1 s1 =>
    rw [ef] at hP
    exact fun F' H' r' sg' s x h k => q2 Rs F' H' r' sg' e1 s1 D h k (PostS.later s x hP)
  | rt d s1 => rw [ef] at hP; exact hP
  | bk e1 s1 => rw [ef] at hP; exact hP
  | ct e1 s1 => rw [ef] at hP; exact hP
  | exc c p s1 => rw [ef] at hP; exact hP
  | bad => rw [ef] at hP; exact hP
theorem ds_bad : DS W X E st sBad := .mk ps_never fun Rs F H r sg env st D hH hE hP => hP
theorem ds_expr (h : DE W X E e fe) (hs : swapsWith e none pos.line X.env = pure false := by rfl) : DS W X E (.Expr e pos) (sExpr fe) := by
  obtain ⟨t, p, q⟩ := h.ex
  refine .mk (ps_expr p hs) fun Rs F H r sg env st D hH hE hP => ?_
  exact q Rs F H r sg env st _ hH hE (bindS hP fun a ea k F1 H1 r1 v1 s1 x1 h1 k1 => k F1 H1 r1 sg s1 x1 h1 (hE.mono s1 x1))
theorem ds_ret (h : DE W X E e fe) : DS W X E (.Return (some e) pos) (sRet fe) := by
  obtain ⟨t, p, q⟩ := h.ex
  refine .mk (ps_ret p) fun Rs F H r sg env st D hH hE hP => ?_
  exact q Rs F H r sg env st _ hH hE (bindS hP fun a ea k F1 H1 r1 v1 s1 x1 h1 k1 => k F1 H1 r1 v1 s1 x1 h1 k1)
theorem ds_if {c : Expr} {a b : List Stmt} {tc : TV} (hc : DT W X E c tc) (ha : DB W X E a f) (hb : DB W X E b g) : DS W X E (.If c a b pos) (sIf tc f g) := by
  obtain ⟨t, p, q⟩ := hc.ex
  obtain ⟨t1, p1, q1⟩ := ha.ex
  obtain ⟨t2, p2, q2⟩ := hb.ex
  refine .mk (ps_if p p1 p2) fun Rs F H r sg env st D hH hE hP => ?_
  refine q Rs F H r sg env st _ hH hE (bindS hP fun a ea k F1 H1 r1 s1 x1 h1 => ?_)
  obtain ⟨c, st1⟩ := a
  cases c with
  | true => exact q1 Rs F1 H1 r1 sg env st1 D h1 (hE.mono s1 x1) (PostS.later s1 x1 k)
  | false => exact q2 Rs F1 H1 r1 sg env st1 D h1 (hE.mono s1 x1) (PostS.later s1 x1 k)
abbrev GV := D → Env → Store → R (Env × Store)
def DG (W : Wd) (X : Cx) (E : XK) (tg : Expr) (g : GV) : Prop := ∃ t, PG X tg t ∧ ∀ Rs F H r sg env st v d N, Holds W Rs F H r st → EnvOk F r sg env → Rep F r v d → PostX W Rs F r (g d env st) (fun a => PostF W Rs F r a.1 a.2 N) E → t v sg H N
abbrev GVs := List D → Env → Store → R (Env × Store)
def DGs (W : Wd) (X : Cx) (E : XK) (tg : List Expr) (g : GVs) : Prop := ∃ t, PGs X tg t ∧ ∀ Rs F H r sg env st vs ds N, Holds W Rs F H r st → EnvOk F r sg env → Reps F r vs ds → PostX W Rs F r (g ds env st) (fun a => PostF W Rs F r a.1 a.2 N) E → t vs sg H N
def gN (i : Nat) : GV := fun d env st => .ok (env.set i (some d), st)
theorem dg_name {i : Nat} {x : Str} {pos : Pos} (hN : X.N.Nodup) (hi : X.N[i]? = some x) (hx : Loc X.env.scope x) (hf : X.fn x = true ∨ X.env.scope.names.lookup x = some .local := by first | exact .inl rfl | exact .inr rfl | assumption) : DG W X E (.Name x pos) (gN i) :=
  ⟨_, pg_name hN hi hx hf, fun Rs F H r sg env st v d N hH hE k hP => PostF.here hH (hE.set k i) hP⟩
def gsNil : GVs := fun ds env st => match ds with
  | [] => .ok (env, st)
  | _ => .bad
def gsCons (g : GV) (h : GVs) : GVs := fun ds env st => match ds with
  | d :: ds => (g d env st).bind fun a => h ds a.1 a.2
  | [] => .bad
theorem dgs_nil : DGs W X E [] gsNil := ⟨_, pgs_nil, fun Rs F H r sg env st vs ds N hH hE k hP => by
  cases k with
  | nil => exact ⟨rfl, PostF.here hH hE hP⟩
  | cons _ _ => exact hP.elim⟩
theorem dgs_cons {tg : Expr} {tgs : List Expr} {g : GV} {h : GVs} (h1 : DG W X E tg g) (h2 : DGs W X E tgs h)
    (hs : (assignEach (tg :: tgs) X.env).map (·.2) = assign tg X.env :: (assignEach tgs X.env).map (·.2) := by rfl) : DGs W X E (tg :: tgs) (gsCons g h) := by
  obtain ⟨t, p, q⟩ := h1
  obtain ⟨t2, p2, q2⟩ := h2
  refine ⟨_, pgs_cons p p2 hs, fun Rs F H r sg env st vs ds N hH hE k hP => ?_⟩
  cases k with
  | nil => exact hP.elim
  | @cons v vs d ds k1 k2 =>
    refine ⟨v, vs, rfl, q Rs F H r sg env st v d _ hH hE k1 (bindX hP fun a ea z F1 H1 r1 sg1 s1 x1 h1 e1 => ?_)⟩
    exact q2 Rs F1 H1 r1 sg1 a.1 a.2 vs ds N h1 e1 (k2.mono s1 x1) (PostX.imp s1 x1 z fun _ y => PostF.later s1 x1 y)
/-- (a, b, ..) = a tuple -/
def gTp (n : Nat) (h : GVs) : GV := fun d env st => match d with
  | .tup ds => if ds.length = n then h ds env st else .bad
  | _ => .bad
theorem dg_tup {es : List Expr} {k n : Nat} {h : GVs} {pos : Pos} (hc : X.calm = true) (hh : DGs W X E es h)
    (hn : (assignEach es X.env).length = n := by rfl) (hst : (assignEach es X.env).findIdx? (·.1) = none := by rfl) : DG W X E (.Tuple es k pos) (gTp n h) := by
  obtain ⟨t, p, q⟩ := hh
  refine ⟨_, pg_tup hc p hn hst, fun Rs F H r sg env st v d N hH hE k hP => ?_⟩
  cases d with
  | tup ds =>
    unfold gTp at hP
    simp only at hP
    split at hP
    · rename_i hl
      cases k with
      | @tup a vs _ e k1 => exact ⟨a, vs, rfl, .of (hH.sF _ _ e), by rw [k1.length, hl], q Rs F H r sg env st vs ds N hH hE k1 hP⟩
    · exact hP.elim
  | _ => exact hP.elim
/-- o[i] = e, by values -/
abbrev SetV := Store → D → D → D → Option Store
def DSet (W : Wd) (X : Cx) (g : SetV) : Prop := ∃ t, PSet X t ∧ ∀ Rs F H r st o i v dO di dv N, Holds W Rs F H r st → Rep F r o dO → Rep F r i di → Rep F r v dv →
  ∀ st', g st dO di dv = some st' → (∀ H', Holds W Rs F H' r st' → N H') → t o i v H N
def gSb (fo fi : EV) (g : SetV) : GV := fun d env st => (fo env st).bind fun a => (fi env a.2).bind fun b => match g b.2 a.1 b.1 d with
  | some st' => .ok (env, st')
  | none => .bad
theorem dg_sub {o i : Expr} {fo fi : EV} {g : SetV} {pos : Pos} (ho : DE W X E o fo) (hi : DE W X E i fi) (hs : DSet W X g)
    (ha : ∀ v, assign (.Subscript o i pos) X.env v = (do
      let ov ← holding [v] (eval o X.env)
      let iv ← holding [v, ov] (eval i X.env)
      standAt pos
      holding [v, ov, iv] (setItem ov iv v)
      release [v, ov, iv] []) := by intro _; rfl) : DG W X E (.Subscript o i pos) (gSb fo fi g) := by
  obtain ⟨to, po, qo⟩ := ho.ex
  obtain ⟨ti, pi, qi⟩ := hi.ex
  obtain ⟨ts, ps, qs⟩ := hs
  refine ⟨_, pg_sub po pi ps ha, fun Rs F H r sg env st v d N hH hE k hP => ?_⟩
  refine qo Rs F H r sg env st _ hH hE (bindX hP fun a ea z F1 H1 r1 v1 s1 x1 h1 k1 => ?_)
  refine qi Rs F1 H1 r1 sg env a.2 _ h1 (hE.mono s1 x1) (bindX (PostX.imp s1 x1 z fun _ y => PostF.later s1 x1 y) fun b eb z2 F2 H2 r2 v2 s2 x2 h2 k2 => ?_)
  cases e : g b.2 a.1 b.1 d with
  | none => rw [e] at z2; exact z2.elim
  | some st' =>
    rw [e] at z2
    exact qs Rs F2 H2 r2 b.2 v1 v2 v a.1 b.1 d _ h2 (k1.mono s2 x2) k2 (k.mono (s1.trans s2) (x1.trans x2)) st' e fun H' h' => z2 F2 H' r2 sg s2 x2 h' (hE.mono (s1.trans s2) (x1.trans x2))
def setLG : SetV := fun st o i v => match o, i with
  | .ref n, .int k => match st[n]? with
    | some (.lst ds) => match ixN ds.length k with
      | some j => some (st.set n (.lst (ds.set j v)))
      | none => none
    | _ => none
  | _, _ => none
theorem dset_list : DSet W X setLG := ⟨_, set_list, fun Rs F H r st o i v dO di dv N hH ko ki kv st' e hN => by
  cases ko with
  | @ref a n q =>
    cases ki with
    | int k =>
      unfold setLG at e
      simp only at e
      split at e
      · rename_i ds e1
        split at e
        · rename_i j e2
          cases e
          obtain ⟨vs, h1, k1⟩ := hH.ob n a _ q e1
          refine ⟨a, vs, k, j, rfl, rfl, h1, by rw [k1.length]; exact e2, hN _ (hH.write q ⟨_, upd_same, Reps.set kv j k1⟩)⟩
        · cases e
      · cases e
    | _ => cases e
  | _ => cases e⟩
def sAsg (f : EV) (g : GV) : SV := fun env st => sOf (f env st) fun a => sOf (g a.1 env a.2) fun b => .nx b.1 b.2
theorem sAsg_post {te : TE} {tg : TG} {f : EV} {g : GV} (q : ∀ Rs F H r sg env st Q, Holds W Rs F H r st → EnvOk F r sg env → Post W Rs F r (f env st) Q E → te sg H Q)
    (qg : ∀ Rs F H r sg env st v d N, Holds W Rs F H r st → EnvOk F r sg env → Rep F r v d → PostX W Rs F r (g d env st) (fun a => PostF W Rs F r a.1 a.2 N) E → tg v sg H N)
    {Rs F H r sg env st D} (hH : Holds W Rs F H r st) (hE : EnvOk F r sg env) (hP : PostS W Rs F r (sAsg f g env st) D E) : tAsg te tg D sg H := by
  refine q Rs F H r sg env st _ hH hE (bindS hP fun a ea z F1 H1 r1 v1 s1 x1 h1 k1 => ?_)
  refine qg Rs F1 H1 r1 sg env a.2 v1 a.1 D.nx h1 (hE.mono s1 x1) k1 (bindS (D := D) (PostS.later s1 x1 z) fun b eb z2 => z2)
theorem ds_asg {tg e : Expr} {f : EV} {g : GV} (he : DE W X E e f) (hg : DG W X E tg g) (hs : swapsWithSole [tg] e pos.line X.env = pure false := by rfl) (hw : swappedStores [tg] e X.env = pure none := by rfl)
    (h1 : (assignEach [tg] X.env).map (·.2) = [assign tg X.env] := by rfl) : DS W X E (.Assign [tg] e pos) (sAsg f g) := by
  obtain ⟨t, p, q⟩ := he.ex
  obtain ⟨tg, pg, qg⟩ := hg
  exact .mk (ps_asg p pg hs hw h1) fun Rs F H r sg env st D hH hE hP => sAsg_post q qg hH hE hP
theorem gN_ok {i : Nat} : ∀ Rs F H r sg env st v d N, Holds W Rs F H r st → EnvOk F r sg env → Rep F r v d → PostX W Rs F r (gN i d env st) (fun a => PostF W Rs F r a.1 a.2 N) E → gName i v sg H N :=
  fun Rs F H r sg env st v d N hH hE k hP => PostF.here hH (hE.set k i) hP
theorem ds_set {i : Nat} {x : Str} {e : Expr} {f : EV} {pos' : Pos} (hN : X.N.Nodup) (hi : X.N[i]? = some x) (hx : Loc X.env.scope x) (he : DE W X E e f) (hs : swapsWith e (some (.Name x pos')) pos.line X.env = pure false := by rfl) (hf : X.fn x = true ∨ X.env.scope.names.lookup x = some .local := by first | exact .inl rfl | exact .inr rfl | assumption) :
    DS W X E (.Assign [.Name x pos'] e pos) (sAsg f (gN i)) := by
  obtain ⟨t, p, q⟩ := he.ex
  exact .mk (ps_set hN hi hx p hs hf) fun Rs F H r sg env st D hH hE hP => sAsg_post q gN_ok hH hE hP
/-- a, b = x, y by swapped stores -/
def sPar (i j : Nat) (f : AV) : SV := fun env st => sOf (f env st) fun a => match a.1 with
  | [d, e] => .nx ((env.set i (some d)).set j (some e)) a.2
  | _ => .bad
theorem ds_par {i j : Nat} {x y : Str} {a b : Expr} {fa : AV} {px py pt : Pos} {kt k2 pt2} (hc : X.calm = true) (hN : X.N.Nodup) (hi : X.N[i]? = some x) (hj : X.N[j]? = some y) (hij : i ≠ j)
    (hx : X.env.scope.names.lookup x = some .local) (hy : X.env.scope.names.lookup y = some .local) (ha : DA W X E [a, b] fa)
    (hw : swappedStores [.Tuple [.Name x px, .Name y py] kt pt] (.Tuple [a, b] k2 pt2) X.env = pure (some [x, y]))
    (hs : swapsWithSole [.Tuple [.Name x px, .Name y py] kt pt] (.Tuple [a, b] k2 pt2) pos.line X.env = pure false := by rfl) :
    DS W X E (.Assign [.Tuple [.Name x px, .Name y py] kt pt] (.Tuple [a, b] k2 pt2) pos) (sPar i j fa) := by
  obtain ⟨t, p, q⟩ := ha.ex
  refine .mk (ps_par hc hN hi hj hij hx hy p hw hs) fun Rs F H r sg env st D hH hE hP => ?_
  refine q Rs F H r sg env st _ hH hE (bindS hP fun a ea z F1 H1 r1 vs s1 x1 h1 k1 => ?_)
  obtain ⟨ds, st1⟩ := a
  cases k1 with
  | nil => exact z.elim
  | cons k1 k2 =>
    cases k2 with
    | nil => exact z.elim
    | cons k2 k3 =>
      cases k3 with
      | nil => exact ⟨_, _, rfl, z F1 H1 r1 _ s1 x1 h1 (((hE.mono s1 x1).set k1 i).set k2 j)⟩
      | cons _ _ => exact z.elim
def sPar3 (i j l : Nat) (f : AV) : SV := fun env st => sOf (f env st) fun a => match a.1 with
  | [d, e, c] => .nx (((env.set i (some d)).set j (some e)).set l (some c)) a.2
  | _ => .bad
def whileGo (t : TV) (b : SV) : Nat → Env → Store → SR
  | 0, _, _ => .bad
  | n + 1, env, st => sOf (t env st) fun a => if a.1 = true then (match b env a.2 with
      | .nx e s => whileGo t b n e s
      | .ct e s => whileGo t b n e s
      | .bk e s => .nx e s
      | .rt d s => .rt d s
      | .exc c p s => .exc c p s
      | .bad => .bad) else .nx env a.2
theorem ds_while (n : Nat) {c : Expr} {body : List Stmt} {tc : TV} {tb : SV} (hp : PassesOwn (model X.prog X.w) X.A X.env X.xe) (hc : DT W X E c tc) (hb : DB W X E body tb) : DS W X E (.While c body [] pos) (whileGo tc tb n) := by
  obtain ⟨t, p, q⟩ := hc.ex
  obtain ⟨t1, p1, q1⟩ := hb.ex
  refine .mk (ps_while hp p p1) fun Rs F H r sg env st D hH hE hP => ?_
  refine ⟨fun m sg' H' => ∃ F' r' env' st', Holds W Rs F' H' r' st' ∧ EnvOk F' r' sg' env' ∧ PostS W Rs F' r' (whileGo tc tb m env' st') D E, ⟨n, F, r, env, st, hH, hE, hP⟩, ?_⟩
  rintro m sg H ⟨F, r, env, st, hH, hE, hP⟩
  cases m with
  | zero => exact hP.elim
  | succ m =>
    unfold whileGo at hP
    refine q Rs F H r sg env st _ hH hE (bindS hP fun a ea k F1 H1 r1 s1 x1 h1 => ?_)
    obtain ⟨c, st1⟩ := a
    cases c with
    | false => exact k F1 H1 r1 sg s1 x1 h1 (hE.mono s1 x1)
    | true =>
      show ∃ N : St → Hp → Prop, _ ∧ _
      refine ⟨fun sg' H' => ∃ F' r' env' st', Holds W Rs F' H' r' st' ∧ EnvOk F' r' sg' env' ∧ PostS W Rs F' r' (whileGo tc tb m env' st') D E, fun sg' H' z => ⟨m, Nat.lt_succ_self m, z⟩, ?_⟩
      refine q1 Rs F1 H1 r1 sg env st1 _ h1 (hE.mono s1 x1) ?_
      replace k := PostS.later s1 x1 k
      simp only [if_true] at k
      cases eb : tb env st1 with
      | nx e s => rw [eb] at k; exact fun F2 H2 r2 sg2 s2 x2 h2 k2 => ⟨F2, r2, e, s, h2, k2, PostS.later s2 x2 k⟩
      | ct e s => rw [eb] at k; exact fun F2 H2 r2 sg2 s2 x2 h2 k2 => ⟨F2, r2, e, s, h2, k2, PostS.later s2 x2 k⟩
      | bk e s => rw [eb] at k; exact k
      | rt d s => rw [eb] at k; exact k
      | exc c p s => rw [eb] at k; exact k
      | bad => rw [eb] at k; exact k
def still (sub : List (Nat × List D)) (st : Store) : Bool := sub.all fun p => match st[p.1]? with
  | some (.lst ds) => D.beqs ds p.2
  | _ => false
theorem still_at {sub : List (Nat × List D)} {st : Store} (h : still sub st = true) {n : Nat} {ds : List D} (m : (n, ds) ∈ sub) : st[n]? = some (.lst ds) := by
  unfold still at h
  have q := List.all_eq_true.mp h (n, ds) m
  simp only at q
  split at q
  · rename_i es e
    rw [e, D.eqs_of_beqs _ _ q]
  · cases q
@[simp] theorem still_nil (st : Store) : still [] st = true := rfl
theorem still_one {n : Nat} {ds : List D} {st : Store} (h : st[n]? = some (.lst ds)) : still [(n, ds)] st = true := by
  unfold still
  simp [h, D.beqs_refl]
abbrev Wk := List D × List (Nat × List D)
abbrev IV := Env → Store → R (Wk × Store)
def Drv (W : Wd) (F0 : Hp) (r0 : List Addr) (J : It) (w : Wk) : Prop := ∀ (i : Nat) Rs F H r st, Same F0 F → Ext r0 r → Holds W Rs F H r st → still w.2 st = true →
  (∀ d, w.1[i]? = some d → J.go i H ∧ ∀ x H', J.yld i H x H' → ∃ F', Same F F' ∧ Holds W Rs F' H' r st ∧ Rep F' r x d) ∧ (w.1.length ≤ i → J.stop i H)
def DI (W : Wd) (X : Cx) (E : XK) (tg iter : Expr) (f : IV) : Prop := ∃ wi, PI X tg iter wi ∧ ∀ Rs F H r sg env st (Q : It → Hp → Prop), Holds W Rs F H r st → EnvOk F r sg env →
  PostX W Rs F r (f env st) (fun a => ∀ J F' H' r', Same F F' → Ext r r' → Holds W Rs F' H' r' a.2 → Drv W F' r' J a.1 → Q J H') E → wi sg H Q
def forGo (sub : List (Nat × List D)) (g : GV) (b : SV) : List D → Env → Store → SR
  | [], env, st => if still sub st = true then .nx env st else .bad
  | d :: ds, env, st => if still sub st = true then sOf (g d env st) fun a => (match b a.1 a.2 with
      | .nx e s => forGo sub g b ds e s
      | .ct e s => forGo sub g b ds e s
      | .bk e s => .nx e s
      | .rt d s => .rt d s
      | .exc c p s => .exc c p s
      | .bad => .bad) else .bad
def sFor (it : IV) (g : GV) (b : SV) : SV := fun env st => sOf (it env st) fun a => forGo a.1.2 g b a.1.1 env a.2
theorem ds_for {tg iter : Expr} {body : List Stmt} {it : IV} {g : GV} {tb : SV} (hp : PassesOwn (model X.prog X.w) X.A X.env X.xe) (hc : X.calm = true) (hi : DI W X E tg iter it) (hg : DG W X E tg g) (hb : DB W X E body tb)
    (hs : ∀ x, foldedSetIterable iter X.env x = pure x := by intro _; rfl) : DS W X E (.For tg iter body [] pos) (sFor it g tb) := by
  obtain ⟨wi, p, q⟩ := hi
  obtain ⟨t, pg, qg⟩ := hg
  obtain ⟨t1, p1, q1⟩ := hb.ex
  refine .mk (ps_for hp hc p pg p1 hs) fun Rs F H r sg env st D hH hE hP => ?_
  refine q Rs F H r sg env st _ hH hE (bindS hP fun a ea z J F0 H0 r0 s0 x0 h0 drv => ?_)
  obtain ⟨⟨items, sub⟩, st0⟩ := a
  refine ⟨fun i m sg' H' => m = items.length - i ∧ i ≤ items.length ∧ ∃ F' r' env' st', Same F0 F' ∧ Ext r0 r' ∧ Holds W Rs F' H' r' st' ∧ EnvOk F' r' sg' env' ∧ PostS W Rs F' r' (forGo sub g tb (items.drop i) env' st') D E,
    ⟨items.length, by simp, Nat.zero_le _, F0, r0, env, st0, Same.refl _, Ext.refl _, h0, hE.mono s0 x0, PostS.later s0 x0 z⟩, ?_⟩
  rintro i m sg H ⟨rfl, hi, F, r, env, st, s, x, hH, hE, hP⟩
  by_cases hl : i < items.length
  · rw [List.drop_eq_getElem_cons hl] at hP
    unfold forGo at hP
    by_cases hst : still sub st = true
    · rw [if_pos hst] at hP
      obtain ⟨d1, _⟩ := drv i Rs F H r st s x hH hst
      obtain ⟨go, yld⟩ := d1 items[i] (by simp [hl])
      refine .inr ⟨go, fun sg' H' => i + 1 ≤ items.length ∧ ∃ F' r' env' st', Same F0 F' ∧ Ext r0 r' ∧ Holds W Rs F' H' r' st' ∧ EnvOk F' r' sg' env' ∧ PostS W Rs F' r' (forGo sub g tb (items.drop (i + 1)) env' st') D E,
        fun sg' H' z => ⟨items.length - (i + 1), by omega, rfl, z⟩, fun v H1 y => ?_⟩
      obtain ⟨F1, s1, h1, k1⟩ := yld v H1 y
      have hP1 := PostS.later s1 (Ext.refl r) hP
      refine qg Rs F1 H1 r sg env st v items[i] _ h1 (hE.mono s1 (Ext.refl _)) k1 (bindS hP1 fun b eb z2 F2 H2 r2 sg2 s2 x2 h2 k2 => ?_)
      refine q1 Rs F2 H2 r2 sg2 b.1 b.2 _ h2 k2 ?_
      replace z2 := PostS.later s2 x2 z2
      cases ebb : tb b.1 b.2 with
      | nx e s' => rw [ebb] at z2; exact fun F3 H3 r3 sg3 s3 x3 h3 k3 => ⟨hl, F3, r3, e, s', ((s.trans s1).trans s2).trans s3, (x.trans x2).trans x3, h3, k3, PostS.later s3 x3 z2⟩
      | ct e s' => rw [ebb] at z2; exact fun F3 H3 r3 sg3 s3 x3 h3 k3 => ⟨hl, F3, r3, e, s', ((s.trans s1).trans s2).trans s3, (x.trans x2).trans x3, h3, k3, PostS.later s3 x3 z2⟩
      | bk e s' => rw [ebb] at z2; exact z2
      | rt d s' => rw [ebb] at z2; exact z2
      | exc c p s' => rw [ebb] at z2; exact z2
      | bad => rw [ebb] at z2; exact z2
    · rw [if_neg hst] at hP; exact hP.elim
  · have e : items.drop i = [] := List.drop_eq_nil_of_le (by omega)
    rw [e] at hP
    unfold forGo at hP
    by_cases hst : still sub st = true
    · rw [if_pos hst] at hP
      obtain ⟨_, d2⟩ := drv i Rs F H r st s x hH hst
      exact .inl ⟨d2 (by simpa using hl), PostF.here hH hE hP⟩
    · rw [if_neg hst] at hP; exact hP.elim
theorem drv_list {K : PySem.W.Frag} {F0 : Hp} {r0 : List Addr} {a : Addr} {w : Wk} (h : ∀ Rs F H r st, Same F0 F → Ext r0 r → Holds W Rs F H r st → still w.2 st = true → ∃ vs, SqL K H a vs ∧ Reps F r vs w.1) : Drv W F0 r0 (Itl K a) w := fun i Rs F H r st s x hH hst => by
  obtain ⟨vs, h1, k1⟩ := h Rs F H r st s x hH hst
  refine ⟨fun d e => ?_, fun hl => ⟨vs, h1, by rw [k1.length]; exact hl⟩⟩
  obtain ⟨v, e1, k⟩ := k1.get e
  refine ⟨⟨vs, v, h1, e1⟩, fun y H' yl => ?_⟩
  obtain ⟨e2, yl⟩ := yl
  subst e2
  have := yl vs h1
  rw [e1] at this; cases this
  exact ⟨F, Same.refl _, hH, k⟩
theorem drv_tup {K : PySem.W.Frag} {F0 : Hp} {r0 : List Addr} {a : Addr} {w : Wk} {vs : List V} (h : F0 a = some (.tup vs)) (k1 : Reps F0 r0 vs w.1) : Drv W F0 r0 (Itt K a) w := fun i Rs F H r st s x hH hst => by
  have h1 : SqT K H a vs := .of (hH.sF _ _ (s _ _ h))
  replace k1 := k1.mono s x
  refine ⟨fun d e => ?_, fun hl => ⟨vs, h1, by rw [k1.length]; exact hl⟩⟩
  obtain ⟨v, e1, k⟩ := k1.get e
  refine ⟨⟨vs, v, h1, e1⟩, fun y H' yl => ?_⟩
  obtain ⟨e2, yl⟩ := yl
  subst e2
  have := yl vs h1
  rw [e1] at this; cases this
  exact ⟨F, Same.refl _, hH, k⟩
theorem drv_str {F0 : Hp} {r0 : List Addr} {s : List Nat} {w : Wk} (hw : w.1 = s.map fun c => D.str [c]) (ha : s.all (fun c => decide (c < 128)) = true) : Drv W F0 r0 (Its ⟨s.toArray⟩) w := fun i Rs F H r st ss x hH hst => by
  refine ⟨fun d e => ?_, fun hl => by show s.toArray.size ≤ i; rw [hw, List.length_map] at hl; simpa using hl⟩
  rw [hw, List.getElem?_map] at e
  cases q : s[i]? with
  | none => rw [q] at e; cases e
  | some c =>
    rw [q] at e; cases e
    refine ⟨by show i < s.toArray.size; simpa using (List.getElem?_eq_some_iff.mp q).1, fun y H' yl => ?_⟩
    obtain ⟨e2, c', e3, e4⟩ := yl
    have e3' : s[i]? = some c' := by simpa using e3
    rw [q] at e3'; cases e3'
    subst e2 e4
    have hc := List.all_eq_true.mp ha c (List.mem_of_getElem? q)
    exact ⟨F, Same.refl _, hH, .str [c] (by simpa using hc) (by simp [LIM])⟩
def itemsOf (st : Store) : D → Option Wk
  | .lst ds => some (ds, [])
  | .tup ds => some (ds, [])
  | .str s => some (s.map fun c => D.str [c], [])
  | .scr ns => some (ns.map D.int, [])
  | .ref n => match st[n]? with
    | some (.lst ds) => some (ds, [(n, ds)])
    | _ => none
  | _ => none
def iSeq (f : EV) : IV := fun env st => (f env st).bind fun a => match itemsOf a.2 a.1 with
  | some w => .ok (w, a.2)
  | none => .bad
theorem reps_ints {F : Hp} {r : List Addr} : ∀ ns : List Int, Reps F r (ns.map V.int) (ns.map D.int)
  | [] => .nil
  | n :: ns => .cons (.int n) (reps_ints ns)
theorem pi_or {tg iter : Expr} {wi wi' : TI} (h : PI X tg iter wi) (h' : PI X tg iter wi') : PI X tg iter (fun sg H Q => wi sg H Q ∨ wi' sg H Q) :=
  ⟨fun pins s sg H Q I q => q.elim (h.run pins s sg H Q I) (h'.run pins s sg H Q I)⟩
theorem di_seq {tg e : Expr} {f : EV} (he : DE W X E e f) : DI W X E tg e (iSeq f) := by
  obtain ⟨t, p, q⟩ := he.ex
  refine ⟨_, pi_or (pi_list p) (pi_or (pi_tup p) (pi_str p)), fun Rs F H r sg env st Q hH hE hP => ?_⟩
  -- which one it is, by what the data are
  have lists : (∀ a, f env st = .ok a → ∀ w, itemsOf a.2 a.1 = some w → (∀ ds, a.1 ≠ .tup ds) ∧ (∀ s, a.1 ≠ .str s)) → iList X.K t sg H Q := fun hk => by
    refine q Rs F H r sg env st _ hH hE (bindX hP fun a ea z F1 H1 r1 v1 s1 x1 h1 k1 => ?_)
    cases ew : itemsOf a.2 a.1 with
    | none => rw [ew] at z; exact z.elim
    | some w =>
      rw [ew] at z
      obtain ⟨n1, n2⟩ := hk a ea w ew
      obtain ⟨d, st1⟩ := a
      have fin : ∀ p vs, v1 = .ref p → SqL X.K H1 p vs → Drv W F1 r1 (Itl X.K p) w → ∃ a, v1 = .ref a ∧ (∃ xs, SqL X.K H1 a xs) ∧ Q (Itl X.K a) H1 := fun p vs e h dr => ⟨p, e, ⟨vs, h⟩, z _ F1 H1 r1 s1 x1 h1 dr⟩
      cases k1 with
      | tup _ _ => exact absurd rfl (n1 _)
      | str _ _ _ => exact absurd rfl (n2 _)
      | lst e k => cases ew; exact fin _ _ rfl (.of (h1.sF _ _ e)) (drv_list fun Rs F H r st s x hH _ => ⟨_, .of (hH.sF _ _ (s _ _ e)), k.mono s x⟩)
      | @scr a ns e => cases ew; exact fin _ _ rfl (e.sq h1.sF) (drv_list fun Rs F H r st s x hH _ => ⟨_, e.sq (fun _ _ z => hH.sF _ _ (s _ _ z)), reps_ints ns⟩)
      | @ref a n e =>
        unfold itemsOf at ew
        simp only at ew
        split at ew
        · rename_i ds e1
          cases ew
          obtain ⟨vs, q1, k⟩ := h1.ob n a _ e e1
          refine fin a vs rfl (.of q1) (drv_list fun Rs F H r st s x hH hst => ?_)
          obtain ⟨vs', q1', k'⟩ := hH.ob n a _ (x _ _ e) (still_at (ds := ds) hst (List.mem_cons_self))
          exact ⟨vs', .of q1', k'⟩
        · cases ew
      | _ => cases ew
  cases ef : f env st with
  | bad => unfold iSeq at hP; rw [ef] at hP; exact hP.elim
  | exc c p' s' => exact .inl (lists fun a ea => by rw [ef] at ea; cases ea)
  | ok a =>
    obtain ⟨d, st1⟩ := a
    cases d with
    | tup ds =>
      refine .inr (.inl (q Rs F H r sg env st _ hH hE (bindX hP fun a ea z F1 H1 r1 v1 s1 x1 h1 k1 => ?_)))
      rw [ef] at ea; cases ea
      cases k1 with
      | tup e k => exact ⟨_, rfl, ⟨_, .of (h1.sF _ _ e)⟩, z _ F1 H1 r1 s1 x1 h1 (drv_tup e k)⟩
    | str s =>
      refine .inr (.inr (q Rs F H r sg env st _ hH hE (bindX hP fun a ea z F1 H1 r1 v1 s1 x1 h1 k1 => ?_)))
      rw [ef] at ea; cases ea
      cases k1 with
      | str s ha hl => exact ⟨_, rfl, z _ F1 H1 r1 s1 x1 h1 (drv_str rfl ha)⟩
    | _ => exact .inl (lists fun a ea w ew => by rw [ef] at ea; cases ea; exact ⟨(fun _ z => nomatch z), (fun _ z => nomatch z)⟩)
end
end Dl
namespace Dl
open PySem L2
section
variable {W : Wd} {Rs F H : Hp} {r : List Addr} {st : Store} {p : Addr} {o o' : HO}
theorem Holds.guard (h : Holds W Rs F H r st) (e : H p = none) (hn : ∀ ps, o ≠ .tbl ps := by intro _ z; cases z) : Holds W (upd Rs p o) F (upd H p o) r st := by
  refine ⟨fun c u q => ?_, fun c u q => ?_, fun c q => ?_, h.len, h.nd, fun c m => ⟨(h.own c m).1, ?_⟩, fun i a b e1 e2 => ?_, ⟨fun t ht => ?_, h.tb.nF, fun b ps => ?_⟩⟩
  · rw [upd_ne (ne_of_none q (h.freeF e))]; exact h.sF _ _ q
  · by_cases hc : c = p
    · subst hc; rw [upd_same] at q ⊢; exact q
    · rw [upd_ne hc] at q ⊢; exact h.sR _ _ q
  · by_cases hc : c = p
    · subst hc; exact absurd (h.freeF e) q
    · rw [upd_ne hc]; exact h.dj c q
  · have hc : c ≠ p := fun z => h.notin e (z ▸ m)
    rw [upd_ne hc]; exact (h.own c m).2
  · have hc : a ≠ p := fun z => h.notin e (z ▸ List.mem_of_getElem? e1)
    exact (h.ob i a b e1 e2).mono (Same.refl _) (Ext.refl _) (upd_ne hc)
  · obtain ⟨t1, t2, t3, t4⟩ := h.tb.at_ t ht
    exact ⟨t1.ext fun b u q => by rw [upd_ne (ne_of_none q e)]; exact q, t2, by rw [upd_ne (fun (z : t.1 = p) => tabs_here t1 (by rw [z]; exact e))]; exact t3, t4⟩
  · by_cases hb : b = p
    · rw [hb, upd_same]; exact fun z => hn ps (Option.some.inj z)
    · rw [upd_ne hb]; exact h.tb.nR b ps
theorem Holds.at_guard (h : Holds W (upd Rs p o) F H r st) : H p = some o ∧ F p = none ∧ p ∉ r := by
  refine ⟨h.sR _ _ upd_same, ?_, fun m => ?_⟩
  · cases q : F p with
    | none => rfl
    | some u =>
      have := h.dj p (by rw [q]; simp)
      rw [upd_same] at this; cases this
  · have := (h.own p m).2
    rw [upd_same] at this; cases this
theorem Holds.reguard (h : Holds W (upd Rs p o) F H r st) (hn : ∀ ps, o' ≠ .tbl ps := by intro _ z; cases z) (hx : ∀ φ, o ≠ .ext φ := by intro _ z; cases z) : Holds W (upd Rs p o') F (upd H p o') r st := by
  obtain ⟨e0, e1, e2⟩ := h.at_guard
  refine ⟨fun c u q => ?_, fun c u q => ?_, fun c q => ?_, h.len, h.nd, fun c m => ⟨(h.own c m).1, ?_⟩, fun i a b e1' e2' => ?_, ⟨fun t ht => ?_, h.tb.nF, fun b ps => ?_⟩⟩
  · rw [upd_ne (fun z => by rw [z, e1] at q; cases q)]; exact h.sF _ _ q
  · by_cases hc : c = p
    · subst hc; rw [upd_same] at q ⊢; exact q
    · rw [upd_ne hc] at q ⊢
      exact h.sR c u (by rw [upd_ne hc]; exact q)
  · by_cases hc : c = p
    · subst hc; exact absurd e1 q
    · have := h.dj c q
      rw [upd_ne hc] at this ⊢; exact this
  · have hc : c ≠ p := fun z => e2 (z ▸ m)
    have := (h.own c m).2
    rw [upd_ne hc] at this ⊢; exact this
  · have hc : a ≠ p := fun z => e2 (z ▸ List.mem_of_getElem? e1')
    exact (h.ob i a b e1' e2').mono (Same.refl _) (Ext.refl _) (upd_ne hc)
  · obtain ⟨t1, t2, t3, t4⟩ := h.tb.at_ t ht
    have hp : t.1 ≠ p := fun z => by rw [z, upd_same] at t3; cases t3
    refine ⟨tabs_keep t1 fun a v q z => ?_, t2, by rw [upd_ne hp] at t3 ⊢; exact t3, t4⟩
    rw [upd_ne fun w => ?_]
    · exact q
    · rw [w, e0] at q
      cases q
      rcases z with ⟨ps, z⟩ | ⟨φ, z⟩
      · exact h.tb.nR p ps (by rw [upd_same, z])
      · exact hx φ z
  · by_cases hb : b = p
    · rw [hb, upd_same]; exact fun z => hn ps (Option.some.inj z)
    · have := h.tb.nR b ps
      rw [upd_ne hb] at this ⊢; exact this
theorem Holds.thaw (h : Holds W (upd Rs p o) F H r st) (e : Rs p = none) : Same F (upd F p o) ∧ Holds W Rs (upd F p o) H r st := by
  obtain ⟨e0, e1, e2⟩ := h.at_guard
  have sF : Same F (upd F p o) := fun b u q => by rw [upd_ne (ne_of_none q e1)]; exact q
  refine ⟨sF, ⟨fun c u q => ?_, fun c u q => ?_, fun c q => ?_, h.len, h.nd, fun c m => ?_, fun i a b e1' e2' => ?_, ⟨fun t ht => ?_, fun b ps => ?_, fun b ps z => ?_⟩⟩⟩
  · by_cases hc : c = p
    · subst hc; rw [upd_same] at q; cases q; exact e0
    · rw [upd_ne hc] at q; exact h.sF _ _ q
  · have hc : c ≠ p := ne_of_none q e
    exact h.sR c u (by rw [upd_ne hc]; exact q)
  · by_cases hc : c = p
    · rw [hc]; exact e
    · rw [upd_ne hc] at q
      have := h.dj c q
      rw [upd_ne hc] at this; exact this
  · have hc : c ≠ p := fun z => e2 (z ▸ m)
    have := h.own c m
    rw [upd_ne hc] at this ⊢; exact this
  · exact (h.ob i a b e1' e2').mono sF (Ext.refl _) rfl
  · obtain ⟨t1, t2, t3, t4⟩ := h.tb.at_ t ht
    have hp : t.1 ≠ p := fun z => by rw [z, upd_same] at t3; cases t3
    exact ⟨t1, by rw [upd_ne hp]; exact t2, by rw [upd_ne hp] at t3; exact t3, t4⟩
  · by_cases hb : b = p
    · rw [hb, upd_same]
      intro z
      exact h.tb.nR p ps (by rw [upd_same]; exact z)
    · rw [upd_ne hb]; exact h.tb.nF b ps
  · by_cases hb : b = p
    · rw [hb, e] at z; cases z
    · exact h.tb.nR b ps (by rw [upd_ne hb]; exact z)
theorem Holds.adopt {b : Ob} (h : Holds W (upd Rs p o) F H r st) (e : Rs p = none) (k : ObOk W F (r ++ [p]) H p b) : Holds W Rs F H (r ++ [p]) (st ++ [b]) := by
  obtain ⟨e0, e1, e2⟩ := h.at_guard
  refine ⟨h.sF, fun c u q => ?_, fun c q => ?_, by simp [h.len], ?_, fun c m => ?_, fun i a o' e1' e2' => ?_, ⟨fun t ht => ?_, h.tb.nF, fun b ps z => ?_⟩⟩
  · have hc : c ≠ p := ne_of_none q e
    exact h.sR c u (by rw [upd_ne hc]; exact q)
  · by_cases hc : c = p
    · rw [hc]; exact e
    · have := h.dj c q
      rw [upd_ne hc] at this; exact this
  · rw [List.nodup_append]
    refine ⟨h.nd, by simp, fun a ha b hb => ?_⟩
    have : b = p := by simpa using hb
    subst this
    exact fun z => e2 (z ▸ ha)
  · rcases List.mem_append.mp m with m | m
    · have hc : c ≠ p := fun z => e2 (z ▸ m)
      have := h.own c m
      rw [upd_ne hc] at this; exact this
    · have : c = p := by simpa using m
      subst this
      exact ⟨e1, e⟩
  · by_cases hi : i < r.length
    · rw [List.getElem?_append_left hi] at e1'
      rw [List.getElem?_append_left (by rw [← h.len]; exact hi)] at e2'
      exact (h.ob i a o' e1' e2').mono (Same.refl _) (Ext.snoc _ _) rfl
    · have hl : i = r.length := by
        have := (List.getElem?_eq_some_iff.mp e1').1
        simp at this; omega
      subst hl
      rw [List.getElem?_append_right (Nat.le_refl _)] at e1'
      rw [List.getElem?_append_right (by rw [h.len]; exact Nat.le_refl _)] at e2'
      simp at e1'
      rw [h.len] at e2'
      simp at e2'
      subst e1'; subst e2'
      exact k
  · obtain ⟨t1, t2, t3, t4⟩ := h.tb.at_ t ht
    have hp : t.1 ≠ p := fun z => by rw [z, upd_same] at t3; cases t3
    refine ⟨t1, t2, by rw [upd_ne hp] at t3; exact t3, fun m => ?_⟩
    rcases List.mem_append.mp m with m | m
    · exact t4 m
    · exact hp (List.mem_singleton.mp m)
  · by_cases hb : b = p
    · rw [hb, e] at z; cases z
    · exact h.tb.nR b ps (by rw [upd_ne hb]; exact z)
end
section
variable {W : Wd} {X : Cx} {E : XK}
/-- no exception is borne -/
def noX {A : Type} (res : R A) : R A := match res with
  | .ok a => .ok a
  | _ => .bad
@[simp] theorem noX_ok {A : Type} (a : A) : noX (R.ok a) = .ok a := rfl
@[simp] theorem noX_exc {A : Type} (c : Nat) (p : Option D) (st : Store) : noX (R.exc c p st : R A) = .bad := rfl
@[simp] theorem noX_bad {A : Type} : noX (R.bad : R A) = .bad := rfl
theorem bindN {A B : Type} {Rs Rs' F F' : Hp} {r r' : List Addr} {E E' : XK} {res : R A} {f : A → R B} {K : B → Prop} {K' : A → Prop} (h : PostX W Rs F r ((noX res).bind f) K E) (k : ∀ a, res = .ok a → PostX W Rs F r (f a) K E → K' a) : PostX W Rs' F' r' res K' E' := by
  cases res with
  | ok a => exact k a rfl h
  | exc c p st' => exact h.elim
  | bad => exact h
def DTs (W : Wd) (X : Cx) (E : XK) (ifs : List Expr) (f : TV) : Prop := PTs X ifs (tDT W E f)
def tYesD : TV := fun _ st => .ok (true, st)
theorem dts_nil : DTs W X E [] tYesD := ⟨fun pins s sg H Q I ⟨Rs, F, r, env, st, a, b, c⟩ => pts_nil.run pins s sg H Q I (onT_here a c)⟩
theorem dts_one {c : Expr} {f : TV} (h : DT W X E c f) : DTs W X E [c] f := pts_one h
def wipeD (env : Env) : List Nat → Env
  | [] => env
  | v :: vs => (wipeD env vs).set v none
theorem wipe_ok {F : Hp} {r : List Addr} {sg : St} {env : Env} (h : EnvOk F r sg env) : ∀ vs : List Nat, EnvOk F r (wipe sg vs) (wipeD env vs)
  | [] => h
  | v :: vs => by
    have ih := wipe_ok h vs
    unfold wipe wipeD
    refine ⟨by simp [ih.len], fun j e q => ?_⟩
    by_cases hj : v = j
    · subst hj
      by_cases hl : v < (wipeD env vs).length
      · rw [List.getElem?_set_self hl] at q; cases q
      · rw [List.getElem?_eq_none (by simp; omega)] at q; cases q
    · rw [List.getElem?_set_ne hj] at q ⊢
      exact ih.at_ j e q
/-- the block's target: one name, or two -/
inductive Tg1 where
  | one (j : Nat)
  | two (j k : Nat)
def Tg1.put : Tg1 → D → Env → Option Env
  | .one j, d, env => some (env.set j (some d))
  | .two j k, .tup [a, b], env => some ((env.set j (some a)).set k (some b))
  | _, _, _ => none
def Tg1.inside : Tg1 → List Nat → Bool
  | .one j, vs => vs.contains j
  | .two j k, vs => vs.contains j && vs.contains k
def Tg1.rd (K : PySem.W.Frag) : Tg1 → TG
  | .one j => gName j
  | .two j k => gTup K 2 (gCons (gName j) (gCons (gName k) gNil))
def Tg1.On (X : Cx) (tg : Expr) (t : Tg1) : Prop := PG X tg (t.rd X.K)
theorem tg_one {x : Str} {pos : Pos} {j : Nat} (hN : X.N.Nodup) (hi : X.N[j]? = some x) (hx : Loc X.env.scope x) (hf : X.fn x = true ∨ X.env.scope.names.lookup x = some .local := by first | exact .inl rfl | exact .inr rfl | assumption) : Tg1.On X (.Name x pos) (.one j) := pg_name hN hi hx hf
theorem tg_two {x y : Str} {p1 p2 : Pos} {j k kk : Nat} {pos : Pos} (hc : X.calm = true) (h1 : PG X (.Name x p1) (gName j)) (h2 : PG X (.Name y p2) (gName k)) : Tg1.On X (.Tuple [.Name x p1, .Name y p2] kk pos) (.two j k) :=
  pg_tup hc (pgs_cons h1 (pgs_cons h2 pgs_nil (by rfl)) (by rfl)) (by rfl) (by rfl)
theorem wipe_set {sg : St} {x : Option V} {j : Nat} : ∀ {vs : List Nat}, vs.contains j = true → wipe (sg.set j x) vs = wipe sg vs
  | [], h => by simp at h
  | v :: vs, h => by
    unfold wipe
    by_cases hj : j = v
    · subst hj
      have : ∀ (vs : List Nat) (sg : St), (wipe (sg.set j x) vs).set j none = (wipe sg vs).set j none := by
        intro vs
        induction vs with
        | nil => intro sg; unfold wipe; rw [List.set_set]
        | cons u us ih =>
          intro sg
          unfold wipe
          by_cases hu : u = j
          · subst hu; rw [List.set_set, List.set_set, ih]
          · rw [List.set_comm _ _ hu, List.set_comm _ _ hu, ih]
      exact this vs sg
    · have : vs.contains j = true := by
        rw [List.contains_cons] at h
        simp [hj] at h
        simpa using h
      rw [wipe_set this]
theorem wipe_wipe {sg : St} : ∀ {vs : List Nat}, wipe (wipe sg vs) vs = wipe sg vs := by
  intro vs
  have : ∀ (us : List Nat) (sg : St), (∀ u ∈ us, vs.contains u = true) → wipe (wipe sg us) vs = wipe sg vs := by
    intro us
    induction us with
    | nil => intro sg _; rfl
    | cons u us ih =>
      intro sg h
      rw [wipe, wipe_set (h u (by simp)), ih sg fun v hv => h v (by simp [hv])]
  exact this vs sg fun u hu => by simpa using hu
theorem Tg1.post {t : Tg1} {vs : List Nat} (hin : t.inside vs = true) {Rs F H : Hp} {r : List Addr} {st : Store} {sg : St} {env : Env} {v : V} {d : D} {env1 : Env} {N : St → Hp → Prop} (hH : Holds W Rs F H r st) (hE : EnvOk F r (wipe sg vs) env) (k : Rep F r v d) (e : t.put d env = some env1)
    (q : ∀ sg2, EnvOk F r sg2 env1 → wipe sg2 vs = wipe sg vs → N sg2 H) : t.rd X.K v (wipe sg vs) H N := by
  cases t with
  | one j =>
    cases e
    exact q _ (hE.set k j) (by rw [wipe_set hin, wipe_wipe])
  | two j l =>
    unfold Tg1.inside at hin
    rw [Bool.and_eq_true] at hin
    cases d with
    | tup ds =>
      match ds, e, k with
      | [a, b], e, .tup h (.cons k1 (.cons k2 .nil)) =>
        cases e
        refine ⟨_, _, rfl, .of (hH.sF _ _ h), rfl, _, _, rfl, _, _, rfl, rfl, q _ ((hE.set k1 j).set k2 l) ?_⟩
        rw [wipe_set hin.2, wipe_set hin.1, wipe_wipe]
      | [], e, _ => cases e
      | [_], e, _ => cases e
      | _ :: _ :: _ :: _, e, _ => cases e
    | _ => cases e
def lcGo (sub : List (Nat × List D)) (t : Tg1) (tt : TV) (te : EV) (env0 : Env) : List D → List D → Store → R (List D × Store)
  | [], acc, st => if still sub st = true then .ok (acc, st) else .bad
  | d :: ds, acc, st => if still sub st = true then (match t.put d env0 with
    | some env1 => (noX (tt env1 st)).bind fun b => if b.1 = true then (noX (te env1 b.2)).bind fun y => lcGo sub t tt te env0 ds (acc ++ [y.1]) y.2 else lcGo sub t tt te env0 ds acc b.2
    | none => .bad) else .bad
def eLc (m : Bool) (it : IV) (vs : List Nat) (t : Tg1) (tt : TV) (te : EV) : EV := fun env st => (it env st).bind fun a => if a.1.1.length ≤ LIM then
  (lcGo a.1.2 t tt te (wipeD env vs) a.1.1 [] a.2).bind fun b => newL m b.1 b.2 else .bad
theorem lc_post {m : Bool} {tg iter : Expr} {wi : TI} {it : IV} {vs : List Nat} {t : Tg1} {tt : TV} {te : EV} (hin : t.inside vs = true)
    (qi : ∀ Rs F H r sg env st (Q : It → Hp → Prop), Holds W Rs F H r st → EnvOk F r sg env → PostX W Rs F r (it env st) (fun a => ∀ J F' H' r', Same F F' → Ext r r' → Holds W Rs F' H' r' a.2 → Drv W F' r' J a.1 → Q J H') E → wi sg H Q)
    {Rs F H r sg env st Q} (hH : Holds W Rs F H r st) (hE : EnvOk F r sg env) (hP : Post W Rs F r (eLc m it vs t tt te env st) Q E) : tLc wi (t.rd X.K) (tDT W E0 tt) (tDE W E0 te) vs sg H Q := by
  refine qi Rs F H r sg env st _ hH hE (bindX hP fun a ea z J F0 H0 r0 s0 x0 h0 drv => ?_)
  obtain ⟨⟨items, sub⟩, st0⟩ := a
  by_cases hl : items.length ≤ LIM
  · simp only [if_pos hl] at z
    intro D hD
    have z0 : Post W Rs F0 r0 ((lcGo sub t tt te (wipeD env vs) items [] st0).bind fun b => newL m b.1 b.2) Q E := Post.later s0 x0 z
    have hE0 := wipe_ok (hE.mono s0 x0) vs
    have hRD : Rs D = none := h0.freeR hD
    refine ⟨fun i mm H' => mm = items.length - i ∧ i ≤ items.length ∧ ∃ F' r' st' acc accV, Same F0 F' ∧ Ext r0 r' ∧ Holds W (upd Rs D (.lst accV)) F' H' r' st' ∧ Reps F' r' accV acc ∧ acc.length ≤ i ∧
      Post W Rs F' r' ((lcGo sub t tt te (wipeD env vs) (items.drop i) acc st').bind fun b => newL m b.1 b.2) Q E,
      ⟨items.length, by simp, Nat.zero_le _, F0, r0, st0, [], [], Same.refl _, Ext.refl _, h0.guard hD, .nil, Nat.le_refl _, z0⟩, ?_⟩
    rintro i mm H' ⟨rfl, hi, F', r', st', acc, accV, s, x, hH', kacc, hacc, hP'⟩
    have hlen := kacc.length
    by_cases hlt : i < items.length
    · rw [List.drop_eq_getElem_cons hlt] at hP'
      unfold lcGo at hP'
      by_cases hst : still sub st' = true
      · rw [if_pos hst] at hP'
        cases ep : t.put items[i] (wipeD env vs) with
        | none => rw [ep] at hP'; exact hP'.elim
        | some env1 =>
          rw [ep] at hP'
          simp only at hP'
          obtain ⟨d1, _⟩ := drv i _ F' H' r' st' s x hH' hst
          obtain ⟨go, yld⟩ := d1 items[i] (by simp [hlt])
          refine .inr ⟨go, fun H2 => i + 1 ≤ items.length ∧ ∃ F' r' st' acc accV, Same F0 F' ∧ Ext r0 r' ∧ Holds W (upd Rs D (.lst accV)) F' H2 r' st' ∧ Reps F' r' accV acc ∧ acc.length ≤ i + 1 ∧
            Post W Rs F' r' ((lcGo sub t tt te (wipeD env vs) (items.drop (i + 1)) acc st').bind fun b => newL m b.1 b.2) Q E, fun H2 y => ⟨items.length - (i + 1), by omega, rfl, y⟩, fun v H1 y => ?_⟩
          obtain ⟨F1, s1, h1, k1⟩ := yld v H1 y
          refine Tg1.post hin h1 (hE0.mono (s.trans s1) x) k1 ep fun sg2 hE2 hw => ⟨hw, ?_⟩
          have hP1 := Post.later s1 (Ext.refl _) hP'
          -- the tests
          have asc : ((noX (tt env1 st')).bind fun b => if b.1 = true then (noX (te env1 b.2)).bind fun y => lcGo sub t tt te (wipeD env vs) (items.drop (i + 1)) (acc ++ [y.1]) y.2 else lcGo sub t tt te (wipeD env vs) (items.drop (i + 1)) acc b.2).bind (fun b => newL m b.1 b.2) =
              (noX (tt env1 st')).bind fun b => (if b.1 = true then (noX (te env1 b.2)).bind fun y => lcGo sub t tt te (wipeD env vs) (items.drop (i + 1)) (acc ++ [y.1]) y.2 else lcGo sub t tt te (wipeD env vs) (items.drop (i + 1)) acc b.2).bind (fun b => newL m b.1 b.2) := by
            cases noX (tt env1 st') <;> rfl
          rw [asc] at hP1
          refine ⟨_, F1, r', env1, st', h1, hE2, bindN hP1 fun b eb z2 F2 H2 r2 s2 x2 h2 => ?_⟩
          obtain ⟨bb, st2⟩ := b
          cases bb with
          | false =>
            exact ⟨hlt, F2, r2, st2, acc, accV, (s.trans s1).trans s2, x.trans x2, h2, kacc.mono (s1.trans s2) x2, by omega, Post.later s2 x2 z2⟩
          | true =>
            have asc2 : ((noX (te env1 st2)).bind fun y => lcGo sub t tt te (wipeD env vs) (items.drop (i + 1)) (acc ++ [y.1]) y.2).bind (fun b => newL m b.1 b.2) = (noX (te env1 st2)).bind fun y => (lcGo sub t tt te (wipeD env vs) (items.drop (i + 1)) (acc ++ [y.1]) y.2).bind (fun b => newL m b.1 b.2) := by
              cases noX (te env1 st2) <;> rfl
            simp only [if_true] at z2
            rw [asc2] at z2
            refine ⟨_, F2, r2, env1, st2, h2, hE2.mono s2 x2, bindN (Post.later s2 x2 z2) fun y ey z3 F3 H3 r3 v3 s3 x3 h3 k3 => ?_⟩
            refine ⟨accV, h3.at_guard.1, by rw [hlen]; exact lim_lt (by omega), hlt, F3, r3, y.2, acc ++ [y.1], accV ++ [v3], ((s.trans s1).trans s2).trans s3, (x.trans x2).trans x3, h3.reguard, Reps.snoc (kacc.mono ((s1.trans s2).trans s3) (x2.trans x3)) k3, by simp; omega, Post.later s3 x3 z3⟩
      · rw [if_neg hst] at hP'; exact hP'.elim
    · have e : items.drop i = [] := List.drop_eq_nil_of_le (by omega)
      rw [e] at hP'
      unfold lcGo at hP'
      by_cases hst : still sub st' = true
      · rw [if_pos hst] at hP'
        obtain ⟨_, d2⟩ := drv i _ F' H' r' st' s x hH' hst
        refine .inl ⟨d2 (by simpa using hlt), ?_⟩
        change Post W Rs F' r' (newL m acc st') Q E at hP'
        unfold newL at hP'
        cases m with
        | true =>
          refine hP' F' H' (r' ++ [D]) (.ref D) (Same.refl _) (Ext.snoc _ _) (hH'.adopt hRD ⟨accV, hH'.at_guard.1, kacc.mono (Same.refl _) (Ext.snoc _ _)⟩) (.ref ?_)
          show (r' ++ [D])[st'.length]? = some D
          rw [← hH'.len, List.getElem?_append_right (Nat.le_refl _)]; simp
        | false =>
          obtain ⟨s2, h2⟩ := hH'.thaw hRD
          exact hP' _ H' r' (.ref D) s2 (Ext.refl _) h2 (.lst upd_same (kacc.mono s2 (Ext.refl _)))
      · rw [if_neg hst] at hP'; exact hP'.elim
  · simp only [if_neg hl] at z
    exact z.elim
theorem de_lc (m : Bool) {elt tg iter : Expr} {ifs : List Expr} {scope : Scope} {own : List (Str × Nat)} {vs : List Nat} {pos : Pos} {it : IV} {t : Tg1} {tt : TV} {te : EV} (hc : X.calm = true) (hN : X.N.Nodup) (hi : DI W X E tg iter it) (ok : BlkOk X.N X.env.scope scope own) (hv : own.map (·.2) = vs) (hin : t.inside vs = true)
    (hg : ∀ (s : Shared) (H : Hp) (C : Addr) (cl : List (Str × Addr)) (fp : List Addr), Tg1.On (X.blk s H scope (compEnvC scope cl C X.env) fp) tg t) (ht : ∀ (s : Shared) (H : Hp) (C : Addr) (cl : List (Str × Addr)) (fp : List Addr), DTs W (X.blk s H scope (compEnvC scope cl C X.env) fp) E0 ifs tt)
    (he : ∀ (s : Shared) (H : Hp) (C : Addr) (cl : List (Str × Addr)) (fp : List Addr), DE W (X.blk s H scope (compEnvC scope cl C X.env) fp) E0 elt te) (hs : ∀ x, foldedSetIterable iter X.env x = pure x := by intro _; rfl) :
    DE W X E (.ListComp elt [⟨tg, iter, ifs, 0⟩] scope pos) (eLc m it vs t tt te) := by
  obtain ⟨wi, pi, qi⟩ := hi
  subst hv
  exact .mk (pe_lc (g := t.rd X.K) hc hN pi ok (fun s H C cl fp => hg s H C cl fp) ht he hs) fun Rs F H r sg env st Q hH hE hP => lc_post (tg := tg) (iter := iter) hin qi hH hE hP
theorem ds_setLc (m : Bool) {i : Nat} {y : Str} {py : Pos} {elt tg iter : Expr} {ifs : List Expr} {scope : Scope} {own : List (Str × Nat)} {vs : List Nat} {pos spos : Pos} {it : IV} {t : Tg1} {tt : TV} {te : EV} (hc : X.calm = true) (hN : X.N.Nodup) (hy : X.N[i]? = some y) (hyl : X.env.scope.names.lookup y = some .local)
    (hsw : swapsWith (.ListComp elt [⟨tg, iter, ifs, 0⟩] scope pos) (some (.Name y py)) spos.line X.env = pure true) (hi : DI W X E tg iter it) (ok : BlkOk X.N X.env.scope scope own) (hv : own.map (·.2) = vs) (hin : t.inside vs = true)
    (hg : ∀ (s : Shared) (H : Hp) (C : Addr) (cl : List (Str × Addr)) (fp : List Addr), Tg1.On (X.blk s H scope (compEnvC scope cl C X.env) fp) tg t) (ht : ∀ (s : Shared) (H : Hp) (C : Addr) (cl : List (Str × Addr)) (fp : List Addr), DTs W (X.blk s H scope (compEnvC scope cl C X.env) fp) E0 ifs tt)
    (he : ∀ (s : Shared) (H : Hp) (C : Addr) (cl : List (Str × Addr)) (fp : List Addr), DE W (X.blk s H scope (compEnvC scope cl C X.env) fp) E0 elt te) (hs : ∀ x, foldedSetIterable iter X.env x = pure x := by intro _; rfl) :
    DS W X E (.Assign [.Name y py] (.ListComp elt [⟨tg, iter, ifs, 0⟩] scope pos) spos) (sAsg (eLc m it vs t tt te) (gN i)) := by
  obtain ⟨wi, pi, qi⟩ := hi
  subst hv
  exact .mk (ps_setLc (g := t.rd X.K) hc hN hy hyl hsw pi ok (fun s H C cl fp => hg s H C cl fp) ht he hs) fun Rs F H r sg env st D hH hE hP => sAsg_post (fun Rs F H r sg env st Q hH hE hP => lc_post (tg := tg) (iter := iter) hin qi hH hE hP) gN_ok hH hE hP
def intsD (lo : Int) (n : Nat) : List D := (List.range n).map fun (i : Nat) => D.int (lo + (i : Int))
theorem ints_at (lo : Int) (n i : Nat) (h : i < n) : (intsD lo n)[i]? = some (.int (lo + (i : Int))) := by simp [intsD, h]
theorem drv_range {F0 : Hp} {r0 : List Addr} {lo : Int} {n : Nat} : Drv W F0 r0 (Itr lo n) (intsD lo n, []) := fun i Rs F H r st s x hH hst => by
  refine ⟨fun d e => ?_, fun hl => by show n ≤ i; simpa [intsD] using hl⟩
  have hi : i < n := by
    have := (List.getElem?_eq_some_iff.mp e).1
    simpa [intsD] using this
  rw [show (intsD lo n, ([] : List (Nat × List D))).1 = intsD lo n from rfl, ints_at lo n i hi] at e
  cases e
  refine ⟨hi, fun y H' yl => ?_⟩
  obtain ⟨e2, e3⟩ := yl
  subst e2 e3
  exact ⟨F, Same.refl _, hH, .int _⟩
def iR1 (g : AV) : IV := fun env st => (g env st).bind fun a => match a.1 with
  | [.int n] => if -1000000 ≤ n ∧ n ≤ 1000000 then .ok ((intsD 0 n.toNat, []), a.2) else .bad
  | _ => .bad
def iR2 (g : AV) : IV := fun env st => (g env st).bind fun a => match a.1 with
  | [.int i, .int n] => if (-1000000 ≤ i ∧ i ≤ 1000000) ∧ -1000000 ≤ n ∧ n ≤ 1000000 then .ok ((intsD i (n - i).toNat, []), a.2) else .bad
  | _ => .bad
theorem di_r1 {tg a : Expr} {g : AV} {p pos : Pos} (hg : Gl X "range") (hm : X.mg "range" = none) (ha : DA W X E [a] g) (hs : starEach [a] X.env = [(false, eval a X.env)] := by rfl) : DI W X E tg (.Call (.Name "range" p) [a] [] pos) (iR1 g) := by
  obtain ⟨t, pa, q⟩ := ha.ex
  refine ⟨_, pi_range1 hg hm pa hs, fun Rs F H r sg env st Q hH hE hP => ?_⟩
  refine q Rs F H r sg env st _ hH hE (bindX hP fun a ea z F1 H1 r1 vs s1 x1 h1 k1 => ?_)
  obtain ⟨ds, st1⟩ := a
  simp only at z
  split at z
  · rename_i n
    split at z
    · rename_i hc
      match k1 with
      | .cons (.int _) .nil => exact ⟨n, rfl, by omega, by omega, z _ F1 H1 r1 s1 x1 h1 drv_range⟩
    · exact z.elim
  · exact z.elim
theorem di_r2 {tg a b : Expr} {g : AV} {p pos : Pos} (hg : Gl X "range") (hm : X.mg "range" = none) (ha : DA W X E [a, b] g) (hs : starEach [a, b] X.env = [(false, eval a X.env), (false, eval b X.env)] := by rfl) (hs2 : starEach [b] X.env = [(false, eval b X.env)] := by rfl) :
    DI W X E tg (.Call (.Name "range" p) [a, b] [] pos) (iR2 g) := by
  obtain ⟨t, pa, q⟩ := ha.ex
  refine ⟨_, pi_range2 hg hm pa hs hs2, fun Rs F H r sg env st Q hH hE hP => ?_⟩
  refine q Rs F H r sg env st _ hH hE (bindX hP fun a ea z F1 H1 r1 vs s1 x1 h1 k1 => ?_)
  obtain ⟨ds, st1⟩ := a
  simp only at z
  split at z
  · rename_i i n
    split at z
    · rename_i hc
      match k1 with
      | .cons (.int _) (.cons (.int _) .nil) => exact ⟨i, n, rfl, ⟨by omega, by omega, by omega, by omega⟩, z _ F1 H1 r1 s1 x1 h1 drv_range⟩
    · exact z.elim
  · exact z.elim
end
end Dl
namespace Dl
open PySem L2
section
variable {W : Wd} {X : Cx} {E : XK}
def pairUp (ds : List D) : List D := ds.mapIdx fun (i : Nat) d => D.tup [.int (i : Int), d]
theorem pairUp_len (ds : List D) : (pairUp ds).length = ds.length := by simp [pairUp]
theorem pairUp_at {ds : List D} {i : Nat} {e : D} (h : (pairUp ds)[i]? = some e) : ∃ d, ds[i]? = some d ∧ e = .tup [.int (i : Int), d] := by
  unfold pairUp at h
  rw [List.getElem?_mapIdx] at h
  cases q : ds[i]? with
  | none => rw [q] at h; cases h
  | some d => rw [q] at h; cases h; exact ⟨d, rfl, rfl⟩
/-- a list by its items, as it stands -/
def listOf (st : Store) : D → Option Wk
  | .lst ds => some (ds, [])
  | .ref n => match st[n]? with
    | some (.lst ds) => some (ds, [(n, ds)])
    | _ => none
  | _ => none
theorem listOf_ok {Rs F H : Hp} {r : List Addr} {st : Store} {v : V} {d : D} {w : Wk} (h : Holds W Rs F H r st) (k : Rep F r v d) (e : listOf st d = some w) :
    ∃ a, v = .ref a ∧ (∃ vs, H a = some (.lst vs) ∧ Reps F r vs w.1) ∧ ∀ Rs' F' H' r' st', Same F F' → Ext r r' → Holds W Rs' F' H' r' st' → still w.2 st' = true → ∃ vs, H' a = some (.lst vs) ∧ Reps F' r' vs w.1 := by
  cases k with
  | @lst a vs ds q k => cases e; exact ⟨a, rfl, ⟨vs, h.sF _ _ q, k⟩, fun Rs' F' H' r' st' s x h' _ => ⟨vs, h'.sF _ _ (s _ _ q), k.mono s x⟩⟩
  | @ref a n q =>
    unfold listOf at e
    simp only at e
    split at e
    · rename_i ds e1
      cases e
      obtain ⟨vs, q1, k⟩ := h.ob n a _ q e1
      refine ⟨a, rfl, ⟨vs, q1, k⟩, fun Rs' F' H' r' st' s x h' hst => ?_⟩
      obtain ⟨vs', q1', k'⟩ := h'.ob n a _ (x _ _ q) (still_at (ds := ds) hst List.mem_cons_self)
      exact ⟨vs', q1', k'⟩
    · cases e
  | _ => cases e
theorem drv_enum {K : PySem.W.Frag} {F0 : Hp} {r0 : List Addr} {a : Addr} {w : Wk} (h : ∀ Rs F H r st, Same F0 F → Ext r0 r → Holds W Rs F H r st → still w.2 st = true → ∃ vs, H a = some (.lst vs) ∧ Reps F r vs w.1) : Drv W F0 r0 (Ite K a) (pairUp w.1, w.2) := fun i Rs F H r st s x hH hst => by
  obtain ⟨vs, h1, k1⟩ := h Rs F H r st s x hH hst
  refine ⟨fun d e => ?_, fun hl => ⟨vs, .of h1, by rw [k1.length]; rw [pairUp_len] at hl; exact hl⟩⟩
  obtain ⟨d', e', rfl⟩ := pairUp_at e
  obtain ⟨v, e1, k⟩ := k1.get e'
  refine ⟨⟨vs, v, .of h1, e1⟩, fun y H' yl => ?_⟩
  obtain ⟨T, z, rfl, hT, rfl, yl⟩ := yl
  have := yl vs (.of h1)
  rw [e1] at this; cases this
  obtain ⟨s1, h2⟩ := hH.frozen (o := .tup [.int (i : Nat), v]) hT
  exact ⟨_, s1, h2, .tup upd_same (.cons (.int _) (.cons (k.mono s1 (Ext.refl _)) .nil))⟩
def iEn (g : AV) : IV := fun env st => (g env st).bind fun a => match a.1 with
  | [d] => match listOf a.2 d with
    | some w => .ok ((pairUp w.1, w.2), a.2)
    | none => .bad
  | _ => .bad
theorem di_enum {e : Expr} {g : AV} {p pos tpos : Pos} {elts : List Expr} {kk : Nat} (hg : Gl X "enumerate") (hm : X.mg "enumerate" = none) (ha : DA W X E [e] g) (hs : starEach [e] X.env = [(false, eval e X.env)] := by rfl) :
    DI W X E (.Tuple elts kk tpos) (.Call (.Name "enumerate" p) [e] [] pos) (iEn g) := by
  obtain ⟨t, pa, q⟩ := ha.ex
  refine ⟨_, pi_enum hg hm pa hs, fun Rs F H r sg env st Q hH hE hP => ?_⟩
  refine q Rs F H r sg env st _ hH hE (bindX hP fun a ea z F1 H1 r1 vs s1 x1 h1 k1 => ?_)
  obtain ⟨ds, st1⟩ := a
  simp only at z
  split at z
  · split at z
    · rename_i d w e
      match k1 with
      | .cons k .nil =>
        obtain ⟨a, rfl, ⟨vs, h2, k2⟩, hh⟩ := listOf_ok h1 k e
        exact ⟨a, vs, rfl, .of h2, z _ F1 H1 r1 s1 x1 h1 (drv_enum hh)⟩
    · exact z.elim
  · exact z.elim
def zipUp : List D → List D → List D
  | a :: as, b :: bs => .tup [a, b] :: zipUp as bs
  | _, _ => []
theorem zipUp_len : ∀ as bs : List D, (zipUp as bs).length = min as.length bs.length
  | [], _ => by simp [zipUp]
  | _ :: _, [] => by simp [zipUp]
  | a :: as, b :: bs => by simp [zipUp, zipUp_len as bs]
theorem zipUp_at : ∀ {as bs : List D} {i : Nat} {e : D}, (zipUp as bs)[i]? = some e → ∃ a b, as[i]? = some a ∧ bs[i]? = some b ∧ e = .tup [a, b]
  | [], _, i, e, h => by simp [zipUp] at h
  | _ :: _, [], i, e, h => by simp [zipUp] at h
  | a :: as, b :: bs, 0, e, h => by simp [zipUp] at h; exact ⟨a, b, rfl, rfl, h.symm⟩
  | a :: as, b :: bs, i + 1, e, h => by
    simp [zipUp] at h
    obtain ⟨x, y, h1, h2, h3⟩ := zipUp_at h
    exact ⟨x, y, by simpa using h1, by simpa using h2, h3⟩
theorem drv_zip {K : PySem.W.Frag} {F0 : Hp} {r0 : List Addr} {a b : Addr} {w w' : Wk} (h : ∀ Rs F H r st, Same F0 F → Ext r0 r → Holds W Rs F H r st → still w.2 st = true → ∃ vs, H a = some (.lst vs) ∧ Reps F r vs w.1)
    (h' : ∀ Rs F H r st, Same F0 F → Ext r0 r → Holds W Rs F H r st → still w'.2 st = true → ∃ vs, H b = some (.lst vs) ∧ Reps F r vs w'.1) : Drv W F0 r0 (Itz K a b) (zipUp w.1 w'.1, w.2 ++ w'.2) := fun i Rs F H r st s x hH hst => by
  have hst' : still w.2 st = true ∧ still w'.2 st = true := by
    unfold still at hst ⊢
    rw [List.all_append, Bool.and_eq_true] at hst
    exact hst
  obtain ⟨vs, h1, k1⟩ := h Rs F H r st s x hH hst'.1
  obtain ⟨ws, h2, k2⟩ := h' Rs F H r st s x hH hst'.2
  refine ⟨fun d e => ?_, fun hl => ⟨vs, ws, .of h1, .of h2, ?_⟩⟩
  · obtain ⟨d1, d2, e1, e2, rfl⟩ := zipUp_at e
    obtain ⟨v1, f1, m1⟩ := k1.get e1
    obtain ⟨v2, f2, m2⟩ := k2.get e2
    refine ⟨⟨vs, ws, v1, v2, .of h1, .of h2, f1, f2⟩, fun y H' yl => ?_⟩
    obtain ⟨T, z1, z2, rfl, hT, rfl, yl1, yl2⟩ := yl
    have q1 := yl1 vs (.of h1)
    have q2 := yl2 ws (.of h2)
    rw [f1] at q1; cases q1
    rw [f2] at q2; cases q2
    obtain ⟨s1, h3⟩ := hH.frozen (o := .tup [v1, v2]) hT
    exact ⟨_, s1, h3, .tup upd_same (.cons (m1.mono s1 (Ext.refl _)) (.cons (m2.mono s1 (Ext.refl _)) .nil))⟩
  · rw [zipUp_len] at hl
    rw [k1.length, k2.length]
    omega
def iZp (g : AV) : IV := fun env st => (g env st).bind fun a => match a.1 with
  | [d, e] => match listOf a.2 d, listOf a.2 e with
    | some w, some w' => .ok ((zipUp w.1 w'.1, w.2 ++ w'.2), a.2)
    | _, _ => .bad
  | _ => .bad
theorem di_zip {e e2 : Expr} {g : AV} {p pos tpos : Pos} {elts : List Expr} {kk : Nat} (hg : Gl X "zip") (hm : X.mg "zip" = none) (ha : DA W X E [e, e2] g)
    (hs : starEach [e, e2] X.env = (false, eval e X.env) :: starEach [e2] X.env := by rfl) (hpl : (backTo pos (starEach [e2] X.env)).any (·.1) = false := by rfl) :
    DI W X E (.Tuple elts kk tpos) (.Call (.Name "zip" p) [e, e2] [] pos) (iZp g) := by
  obtain ⟨t, pa, q⟩ := ha.ex
  refine ⟨_, pi_zip hg hm pa hs hpl, fun Rs F H r sg env st Q hH hE hP => ?_⟩
  refine q Rs F H r sg env st _ hH hE (bindX hP fun a ea z F1 H1 r1 vs s1 x1 h1 k1 => ?_)
  obtain ⟨ds, st1⟩ := a
  simp only at z
  split at z
  · split at z
    · rename_i d e w w' e1 e2
      match k1 with
      | .cons k (.cons k' .nil) =>
        obtain ⟨a, rfl, ⟨vs, h2, k2⟩, hh⟩ := listOf_ok h1 k e1
        obtain ⟨b, rfl, ⟨ws, h3, k3⟩, hh'⟩ := listOf_ok h1 k' e2
        exact ⟨a, b, vs, ws, rfl, .of h2, .of h3, z _ F1 H1 r1 s1 x1 h1 (drv_zip hh hh')⟩
    · exact z.elim
  · exact z.elim
end
end Dl
namespace Dl
open PySem L2
section
variable {P : Program} {w : World} {W : Wd} {X : Cx} {E : XK}
/-- THE RULE for a def -/
theorem fnD {mg : Str → Option Value} {base : Heap} {x qual : Str} {s : Stmt} {f : Addr} {fd : FuncData} {N ps : List Str} {k n : Nat} {b : SV} (F : Fun W.K x qual s f fd) (S : FnScope N ps (defScope s)) (hn : ps.length = n)
    (hbody : ∀ (cdv : Value) (A : Around) (outer : List PySem.Env) (sh : Shared) (H : Hp) (E : XK), Room k (A.deeper (PyProof.Rows.envOfC qual (defScope s) sh.heap.objs.size f cdv)) →
      DB W (cxOf (L2.CX P w) P w W.K mg base N qual (defScope s) f cdv A outer sh H E) E (defBody s) b) : FnOk P w W.K mg base (L2.CX P w) (k + 1) f fd ps (spD W n (funD N.length b)) := by
  refine F.okX S (fun vs H Q E h => ?_) (fun cdv A outer sh H vs Q E hr h => ?_)
  · obtain ⟨Rs, F, r, st, ds, _, h, hl, _⟩ := h
    rw [h.length, hl, hn]
  · obtain ⟨Rs, F, r, st, ds, hH, hk, hl, hP⟩ := h
    obtain ⟨t, p, q⟩ := (hbody cdv A outer sh H E hr).ex
    refine ⟨t, p, q Rs F H r _ _ st _ hH (EnvOk.start hk) ?_⟩
    unfold funD at hP
    cases eb : b (List.map some ds ++ List.replicate (N.length - ds.length) none) st with
    | nx e s' => rw [eb] at hP; exact fun F' H' r' sg' s1 x1 h1 k1 => hP F' H' r' .non s1 x1 h1 .non
    | rt d s' => rw [eb] at hP; exact hP
    | bk e s' => rw [eb] at hP; exact hP.elim
    | ct e s' => rw [eb] at hP; exact hP.elim
    | exc c p s' => rw [eb] at hP; exact hP
    | bad => rw [eb] at hP; exact hP.elim
def eCall (n : Nat) (g : FV) (ga : AV) : EV := fun env st => (ga env st).bind fun a => if a.1.length = n then g a.1 a.2 else .bad
section
variable {CX : CXT} {k j n : Nat} {f : Addr} {fd : FuncData} {ps : List Str} {g : FV} {x : Str} {e : Expr} {es : List Expr} {p pos apos : Pos} {ga : AV}
theorem de_call (hK : X.K = W.K) (F : FnOk X.prog X.w W.K X.mg X.base CX k f fd ps (spD W n g)) (hr : Room j X.A) (hj : k ≤ j) (hg : Gl X x) (hm : X.mg x = some (.ref f)) (hk : PySem.W.keepIn W.K (.ref f) = true) (hb : Binds W.K fd ps []) (hx : Passes CX X E)
    (ha : DA W X E (e :: es) ga) (hdb : (x == ("__debug__" : Str)) = false := by decide) (he : starEach (e :: es) X.env = (false, eval e X.env) :: starEach es X.env := by rfl) (hpl : (backTo pos (starEach es X.env)).any (·.1) = false := by rfl) :
    DE W X E (.Call (.Name x p) (e :: es) [] pos) (eCall n g ga) := by
  obtain ⟨t, pa, q⟩ := ha.ex
  refine .mk (pe_call (sp := spD W n g) (by rw [hK]; exact F) (hr.mono hj) hg hm (by rw [hK]; exact hk) (by rw [hK]; exact hb) .nil hx pa hdb he hpl) fun Rs F H r sg env st Q hH hE hP => ?_
  refine q Rs F H r sg env st _ hH hE (bindX hP fun a ea z F1 H1 r1 vs s1 x1 h1 k1 => ?_)
  by_cases hl : a.1.length = n
  · rw [if_pos hl] at z
    exact ⟨Rs, F1, r1, a.2, a.1, h1, by rw [List.append_nil]; exact k1, hl, Post.later s1 x1 z⟩
  · rw [if_neg hl] at z; exact z.elim
/-- o.m(..), o of the class c -/
def eMeth (c : Nat) (m : Str) (n : Nat) (g : FV) (fo : EV) (ga : AV) : EV := fun env st => (fo env st).bind fun o => match o.1 with
  | .ref i => match o.2[i]? with
    | some (.ins c' fs) => if c' = c ∧ fs.lookup m = none then (ga env o.2).bind fun a => if a.1.length + 1 = n then g (.ref i :: a.1) a.2 else .bad else .bad
    | _ => .bad
  | _ => .bad
theorem meth_post {m : Str} {c : Nat} {fo : EV} {to : TE} {ta : TA}
    (qo : ∀ Rs F H r sg env st Q, Holds W Rs F H r st → EnvOk F r sg env → Post W Rs F r (fo env st) Q E → to sg H Q)
    (qa : ∀ Rs F H r sg env st Q, Holds W Rs F H r st → EnvOk F r sg env → PostA W Rs F r (ga env st) Q E → ta sg H Q)
    {Rs F H r sg env st Q} (hH : Holds W Rs F H r st) (hE : EnvOk F r sg env) (hP : Post W Rs F r (eMeth c m n g fo ga env st) Q E) : tMeth (W.cls c) m (spD W n g) [] E to ta sg H Q := by
  refine qo Rs F H r sg env st _ hH hE (bindX hP fun o eo z F1 H1 r1 v1 s1 x1 h1 k1 => ?_)
  obtain ⟨d, st1⟩ := o
  cases k1 with
  | @ref a i e =>
    simp only at z
    split at z
    · rename_i c' fs e1
      split at z
      · rename_i hc
        obtain ⟨rfl, hm⟩ := hc
        obtain ⟨dx, vfs, e2, k2⟩ := h1.ob i a _ e e1
        refine ⟨a, dx, vfs, rfl, e2, k2.lookN hm, ?_⟩
        refine qa Rs F1 H1 r1 sg env st1 _ h1 (hE.mono s1 x1) (bindX (Post.later s1 x1 z) fun b eb z2 F2 H2 r2 vs s2 x2 h2 k2 => ?_)
        by_cases hl : b.1.length + 1 = n
        · rw [if_pos hl] at z2
          exact ⟨Rs, F2, r2, b.2, .ref i :: b.1, h2, by rw [List.append_nil]; exact .cons (.ref (x2 _ _ e)) k2, hl, Post.later s2 x2 z2⟩
        · rw [if_neg hl] at z2; exact z2.elim
      · exact z.elim
    · exact z.elim
  | _ => exact z.elim
theorem de_meth {o : Expr} {fo : EV} {c : Nat} {m : Str} {pl : Sem Bool} (hK : X.K = W.K) (he : DE W X E o fo) (cl : Cls W.K (W.cls c)) (hm : Meth W.K (W.cls c) m f) (F : FnOk X.prog X.w W.K X.mg X.base CX k f fd ps (spD W n g)) (hr : Room j X.A) (hj : k ≤ j) (hb : Binds W.K fd ps []) (hx : Passes CX X E) (ha : DA W X E (e :: es) ga)
    (hst : starEach (e :: es) X.env = (false, eval e X.env) :: starEach es X.env := by rfl) (hpl : (backTo pos (starEach es X.env)).any (·.1) = false := by rfl)
    (ht : eval (.Call (.Attribute o m apos) (e :: es) [] pos) X.env = (do
      let ov ← eval o X.env
      standAt apos.atName
      let (f, first) ← holding [ov] (getMethod ov m pl)
      callWith pos f first (backTo pos (starEach (e :: es) X.env)) (backToKw pos (keywordEach [] X.env))) := by rfl) :
    DE W X E (.Call (.Attribute o m apos) (e :: es) [] pos) (eMeth c m n g fo ga) := by
  obtain ⟨to, po, qo⟩ := he.ex
  obtain ⟨ta, pa, qa⟩ := ha.ex
  exact .mk (pe_meth (pl := pl) (C := W.cls c) (sp := spD W n g) po (by rw [hK]; exact cl) (by rw [hK]; exact hm) (by rw [hK]; exact F) (hr.mono hj) (by rw [hK]; exact hb) .nil hx pa hst hpl ht) fun Rs F H r sg env st Q hH hE hP => meth_post qo qa hH hE hP
theorem de_meth0 {o : Expr} {fo : EV} {c : Nat} {m : Str} {pl : Sem Bool} (hK : X.K = W.K) (he : DE W X E o fo) (cl : Cls W.K (W.cls c)) (hm : Meth W.K (W.cls c) m f) (F : FnOk X.prog X.w W.K X.mg X.base CX k f fd ps (spD W n g)) (hr : Room j X.A) (hj : k ≤ j) (hb : Binds W.K fd ps []) (hx : Passes CX X E)
    (h : ∀ {to : TE}, PE X o to → PE X (.Call (.Attribute o m apos) [] [] pos) (tMeth (W.cls c) m (spD W n g) [] E to tNil)) :
    DE W X E (.Call (.Attribute o m apos) [] [] pos) (eMeth c m n g fo aNil) := by
  obtain ⟨to, po, qo⟩ := he.ex
  exact .mk (h po) fun Rs F H r sg env st Q hH hE hP => meth_post (ga := aNil) qo (fun Rs F H r sg env st Q hH hE hP => hP F H r [] (Same.refl _) (Ext.refl _) hH .nil) hH hE hP
theorem Holds.waste {Rs F H : Hp} {r : List Addr} {st : Store} {q : Addr} {o : HO} (h : Holds W Rs F H r st) (e : H q = none) : Holds W Rs F (upd H q o) r st := by
  refine ⟨fun c u z => ?_, fun c u z => ?_, h.dj, h.len, h.nd, h.own, fun i a b e1 e2 => ?_, ⟨fun t ht => ?_, h.tb.nF, h.tb.nR⟩⟩
  · rw [upd_ne (ne_of_none z (h.freeF e))]; exact h.sF _ _ z
  · rw [upd_ne (ne_of_none z (h.freeR e))]; exact h.sR _ _ z
  · have hc : a ≠ q := fun z => h.notin e (z ▸ List.mem_of_getElem? e1)
    exact (h.ob i a b e1 e2).mono (Same.refl _) (Ext.refl _) (upd_ne hc)
  · obtain ⟨t1, t2, t3, t4⟩ := h.tb.at_ t ht
    exact ⟨t1.ext fun b u z => by rw [upd_ne (ne_of_none z e)]; exact z, t2, t3, t4⟩
/-- C(..) -/
def eMake (c : Nat) (n : Nat) (g : FV) (ga : AV) : EV := fun env st => (ga env st).bind fun a => if a.1.length + 1 = n then (g (.ref a.2.length :: a.1) (a.2 ++ [.ins c []])).bind fun b => match b.1 with
  | .non => .ok (.ref a.2.length, b.2)
  | _ => .bad else .bad
theorem make_post {c : Nat} {ta : TA}
    (qa : ∀ Rs F H r sg env st Q, Holds W Rs F H r st → EnvOk F r sg env → PostA W Rs F r (ga env st) Q E → ta sg H Q)
    {Rs F H r sg env st Q} (hH : Holds W Rs F H r st) (hE : EnvOk F r sg env) (hP : Post W Rs F r (eMake c n g ga env st) Q E) : tMake (W.cls c) (spD W n g) [] E ta sg H Q := by
  refine qa Rs F H r sg env st _ hH hE (bindX hP fun a ea z F1 H1 r1 vs s1 x1 h1 k1 => ?_)
  intro x dx hx hdx hne
  by_cases hl : a.1.length + 1 = n
  · rw [if_pos hl] at z
    have hx' : upd H1 dx (.own x) x = none := by rw [upd_ne (Ne.symm hne)]; exact hx
    have h2 := (h1.waste (o := .own x) hdx).fresh (o := .ins (W.cls c) dx []) (b := .ins c []) hx' ⟨dx, [], upd_same, trivial⟩
    have e1 : (r1 ++ [x])[a.2.length]? = some x := by rw [← h1.len, List.getElem?_append_right (Nat.le_refl _)]; simp
    refine ⟨Rs, F1, r1 ++ [x], a.2 ++ [.ins c []], .ref a.2.length :: a.1, h2, by rw [List.append_nil]; exact .cons (.ref e1) (k1.mono (Same.refl _) (Ext.snoc _ _)), hl, ?_⟩
    have z1 := Post.later s1 (x1.trans (Ext.snoc r1 x)) z
    refine bindX z1 fun b eb z2 F2 H2 r2 v2 s2 x2 h2 k2 => ?_
    obtain ⟨d, st2⟩ := b
    cases d with
    | non => cases k2; exact ⟨rfl, z2 F2 H2 r2 _ s2 x2 h2 (.ref (x2 _ _ e1))⟩
    | _ => exact z2.elim
  · rw [if_neg hl] at z; exact z.elim
theorem de_make {c : Nat} (hK : X.K = W.K) (M : Mk W.K (W.cls c) f) (F : FnOk X.prog X.w W.K X.mg X.base CX k f fd ps (spD W n g)) (hr : Room (j + 1) X.A) (hj : k ≤ j) (hg : Gl X x) (hm : X.mg x = some (.ref (W.cls c))) (hb : Binds W.K fd ps []) (hx : Passes CX X E)
    (ha : DA W X E (e :: es) ga) (hdb : (x == ("__debug__" : Str)) = false := by decide) (he : starEach (e :: es) X.env = (false, eval e X.env) :: starEach es X.env := by rfl) (hpl : (backTo pos (starEach es X.env)).any (·.1) = false := by rfl) :
    DE W X E (.Call (.Name x p) (e :: es) [] pos) (eMake c n g ga) := by
  obtain ⟨ta, pa, qa⟩ := ha.ex
  exact .mk (pe_make (C := W.cls c) (sp := spD W n g) (by rw [hK]; exact M) (by rw [hK]; exact F) (hr.mono (by omega)) hg hm (by rw [hK]; exact hb) .nil hx pa hdb he hpl) fun Rs F H r sg env st Q hH hE hP => make_post qa hH hE hP
end
def eFld (c : Nat) (f : Str) (fo : EV) : EV := fun env st => (fo env st).bind fun o => match o.1 with
  | .ref i => match o.2[i]? with
    | some (.ins c' fs) => if c' = c then (match fs.lookup f with
      | some d => .ok (d, o.2)
      | none => .bad) else .bad
    | _ => .bad
  | _ => .bad
theorem de_fld {o : Expr} {fo : EV} {c : Nat} {f : Str} {pos : Pos} (hK : X.K = W.K) (he : DE W X E o fo) (cl : Cls W.K (W.cls c)) (na : NoAttr W.K (W.cls c) f) (hb : attributeBase o f X.env (eval o X.env) = eval o X.env := by rfl) : DE W X E (.Attribute o f pos) (eFld c f fo) := by
  obtain ⟨to, po, qo⟩ := he.ex
  refine .mk (pe_fld po hb) fun Rs F H r sg env st Q hH hE hP => ?_
  refine qo Rs F H r sg env st _ hH hE (bindX hP fun o eo z F1 H1 r1 v1 s1 x1 h1 k1 => ?_)
  obtain ⟨d, st1⟩ := o
  cases k1 with
  | @ref a i e =>
    simp only at z
    split at z
    · rename_i c' fs e1
      split at z
      · rename_i hc
        subst hc
        split at z
        · rename_i d e3
          obtain ⟨dx, vfs, e2, k2⟩ := h1.ob i a _ e e1
          obtain ⟨v, e4, k4⟩ := k2.look e3
          rw [hK]
          exact ⟨a, _, dx, vfs, v, rfl, e2, cl, na, e4, z F1 H1 r1 v s1 x1 h1 k4⟩
        · exact z.elim
      · exact z.elim
    · exact z.elim
  | _ => exact z.elim
def sFldD (c : Nat) (f : Str) (fo fv : EV) : SV := fun env st => sOf (fv env st) fun v => sOf (fo env v.2) fun o => match o.1 with
  | .ref i => match o.2[i]? with
    | some (.ins c' fs) => if c' = c ∧ fs.length < 900 then .nx env (o.2.set i (.ins c' (putD f v.1 fs))) else .bad
    | _ => .bad
  | _ => .bad
theorem ds_fld {o value : Expr} {fo fv : EV} {c : Nat} {f : Str} {pos pos' : Pos} (hK : X.K = W.K) (he : DE W X E o fo) (hv : DE W X E value fv) (cl : Cls W.K (W.cls c)) (na : NoAttr W.K (W.cls c) f) (hs : swapsWith value (some (.Attribute o f pos')) pos.line X.env = pure false := by rfl) :
    DS W X E (.Assign [.Attribute o f pos'] value pos) (sFldD c f fo fv) := by
  obtain ⟨to, po, qo⟩ := he.ex
  obtain ⟨tv, pv, qv⟩ := hv.ex
  refine .mk (ps_fld po pv hs) fun Rs F H r sg env st D hH hE hP => ?_
  refine qv Rs F H r sg env st _ hH hE (bindS hP fun b eb zb F0 H0 r0 v0 s0 x0 h0 k0 => ?_)
  refine qo Rs F0 H0 r0 sg env b.2 _ h0 (hE.mono s0 x0) (bindS (PostS.later s0 x0 zb) fun o eo z F1 H1 r1 v1 s1 x1 h1 k1 => ?_)
  obtain ⟨d, st1⟩ := o
  cases k1 with
  | @ref a i e =>
    simp only at z
    split at z
    · rename_i c' fs e1
      split at z
      · rename_i hc
        obtain ⟨rfl, hl⟩ := hc
        obtain ⟨dx, vfs, e2, k2⟩ := h1.ob i a _ e e1
        rw [hK]
        refine ⟨a, _, dx, vfs, rfl, e2, cl, na, by rw [k2.length]; omega, ?_⟩
        exact z F1 _ r1 sg s1 x1 (h1.write e ⟨dx, _, upd_same, Flds.put (k0.mono s1 x1) k2⟩) (hE.mono (s0.trans s1) (x0.trans x1))
      · exact z.elim
    · exact z.elim
  | _ => exact z.elim
end
end Dl
namespace Dl
open PySem L2
section
variable {W : Wd} {X : Cx} {E : XK}
def ixG : G2 := fun st d e => match d, e with
  | .tup ds, .int i => R.of ((atI ds i).map fun x => (x, st))
  | .str s, .int i => R.of ((atI s i).map fun c => (.str [c], st))
  | d, .int i => match lstOf st d with
    | some ds => R.of ((atI ds i).map fun x => (x, st))
    | none => .bad
  | _, _ => .bad
theorem Reps.atI {F : Hp} {r : List Addr} {vs : List V} {ds : List D} {i : Int} {d : D} (h : Reps F r vs ds) (e : L2.atI ds i = some d) : ∃ v, L2.atI vs i = some v ∧ Rep F r v d := by
  unfold L2.atI at e ⊢
  rw [h.length]
  cases q : ixN ds.length i with
  | none => rw [q] at e; cases e
  | some j => rw [q] at e; exact h.get e
theorem de_ix {a b : Expr} {fa fb : EV} {pos : Pos} (hK : X.K = W.K) (ha : DE W X E a fa) (hb : DE W X E b fb) (hs : PlainIx b) : DE W X E (.Subscript a b pos) (eOp ixG fa fb) := by
  obtain ⟨ta, pa, qa⟩ := ha.ex
  obtain ⟨tb, pb, qb⟩ := hb.ex
  refine .mk (pe_ix ix_seq pa pb hs) fun Rs F H rr sg env st Q hH hE hP => eOp_post qa qb ?_ hH hE hP
  intro Rs F H rr st x y dx dy Q E h kx ky hP
  have lists : ∀ i, y = .int i → (match lstOf st dx with
    | some ds => R.of ((atI ds i).map fun x => (x, st))
    | none => (.bad : R (D × Store))) = ixG st dx dy → rIxL X.K x y H Q := fun i ey eq => by
    rw [← eq] at hP
    split at hP
    · rename_i ds e1
      obtain ⟨p, vs, rfl, h1, k1⟩ := lstOf_ok h kx e1
      cases e2 : atI ds i with
      | none => rw [e2] at hP; exact hP.elim
      | some d =>
        rw [e2] at hP
        obtain ⟨v, e3, k⟩ := k1.atI e2
        exact ⟨p, vs, i, v, rfl, ey, .of h1, e3, onE_here h k hP⟩
    · exact hP.elim
  cases ky with
  | int i =>
    cases kx with
    | @tup p vs ds q k1 =>
      unfold ixG at hP
      simp only at hP
      cases e2 : atI ds i with
      | none => rw [e2] at hP; exact hP.elim
      | some d =>
        rw [e2] at hP
        obtain ⟨v, e3, k⟩ := k1.atI e2
        exact .inr (.inl ⟨p, vs, i, v, rfl, rfl, .of (h.sF _ _ q), e3, onE_here h k hP⟩)
    | str s hs hl =>
      unfold ixG at hP
      simp only at hP
      cases e2 : atI s i with
      | none => rw [e2] at hP; exact hP.elim
      | some c =>
        rw [e2] at hP
        have hc : c < 128 := by
          obtain ⟨j, _, e3, _⟩ := atI_get e2
          exact of_decide_eq_true (List.all_eq_true.mp hs c (List.mem_of_getElem? e3))
        exact .inr (.inr ⟨_, i, c, rfl, rfl, by rw [len_mk]; exact lim_line hl, e2, onE_here h (.str [c] (by simp [hc]) (by simp [LIM])) hP⟩)
    | non => exact .inl (lists _ rfl rfl)
    | bl b => exact .inl (lists _ rfl rfl)
    | int b => exact .inl (lists _ rfl rfl)
    | lst q k => exact .inl (lists _ rfl rfl)
    | ref q => exact .inl (lists _ rfl rfl)
    | scr q => exact .inl (lists _ rfl rfl)
    | exn0 => exact .inl (lists _ rfl rfl)
    | exn1 q => exact .inl (lists _ rfl rfl)
  | _ => cases kx <;> exact hP.elim
/-- a part of a slice -/
def poNone : Env → Store → R (Option Int × Store) := fun _ st => .ok (none, st)
def poSome (f : EV) : Env → Store → R (Option Int × Store) := fun env st => (f env st).bind fun a => match a.1 with
  | .int i => .ok (some i, a.2)
  | _ => .bad
def DP (W : Wd) (X : Cx) (E : XK) (e : Option Expr) (f : Env → Store → R (Option Int × Store)) : Prop := ∃ t, PO X e t ∧ ∀ Rs F H r sg env st (Q : Option Int → Hp → Prop), Holds W Rs F H r st → EnvOk F r sg env →
  PostX W Rs F r (f env st) (fun a => ∀ F' H' r', Same F F' → Ext r r' → Holds W Rs F' H' r' a.2 → Q a.1 H') E → t sg H Q
theorem dp_none : DP W X E none poNone := ⟨_, po_none, fun Rs F H r sg env st Q hH hE hP => hP F H r (Same.refl _) (Ext.refl _) hH⟩
theorem dp_some {e : Expr} {f : EV} (h : DE W X E e f) : DP W X E (some e) (poSome f) := by
  obtain ⟨t, p, q⟩ := h.ex
  refine ⟨_, po_some p, fun Rs F H r sg env st Q hH hE hP => ?_⟩
  refine q Rs F H r sg env st _ hH hE (bindX hP fun a ea z F1 H1 r1 v1 s1 x1 h1 k1 => ?_)
  obtain ⟨d, st1⟩ := a
  cases k1 with
  | int i => exact ⟨i, rfl, z F1 H1 r1 s1 x1 h1⟩
  | _ => exact z.elim
/-- what xs[lo:hi] is -/
def cutD {A : Type} (xs : List A) (lo hi : Option Int) : List A := (xs.drop (HT.sIx xs.length 0 lo)).take (HT.sIx xs.length xs.length hi - HT.sIx xs.length 0 lo)
theorem cutD_le {A : Type} (xs : List A) (lo hi : Option Int) : (cutD xs lo hi).length ≤ xs.length := by
  unfold cutD
  rw [List.length_take, List.length_drop]
  omega
theorem Reps.cut {F : Hp} {r : List Addr} {vs : List V} {ds : List D} (h : Reps F r vs ds) (lo hi : Option Int) : Reps F r (cutV vs lo hi) (cutD ds lo hi) := by
  unfold cutV cutD
  rw [h.length]
  exact (h.drop _).take _
def slG (m : Bool) (st : Store) (d : D) (lo hi : Option Int) : R (D × Store) := match d with
  | .tup ds => .ok (.tup (cutD ds lo hi), st)
  | .str s => .ok (.str (cutD s lo hi), st)
  | d => match lstOf st d with
    | some ds => newL m (cutD ds lo hi) st
    | none => .bad
def eSl (m : Bool) (f : EV) (l h : Env → Store → R (Option Int × Store)) : EV := fun env st => (f env st).bind fun a => (l env a.2).bind fun b => (h env b.2).bind fun c => slG m c.2 a.1 b.1 c.1
theorem cutS_mk (s : List Nat) (lo hi : Option Int) : cutS ⟨s.toArray⟩ lo hi = ⟨(cutD s lo hi).toArray⟩ := by
  unfold cutS cutD
  simp [Str.length]
theorem cut_whole {A : Type} (xs : List A) (lo hi : Option Int) (h : HT.sIx xs.length 0 lo = 0 ∧ HT.sIx xs.length xs.length hi = xs.length) : cutD xs lo hi = xs := by
  unfold cutD
  rw [h.1, h.2]
  simp
theorem de_sl (m : Bool) {e : Expr} {lo hi : Option Expr} {f : EV} {l h : Env → Store → R (Option Int × Store)} {p2 pos : Pos} (hK : X.K = W.K) (he : DE W X E e f) (hl : DP W X E lo l) (hu : DP W X E hi h) : DE W X E (.Subscript e (.Slice lo hi none p2) pos) (eSl m f l h) := by
  obtain ⟨t, p, q⟩ := he.ex
  obtain ⟨tl, pl, ql⟩ := hl
  obtain ⟨tu, pu, qu⟩ := hu
  refine .mk (pe_slice (sl_tupA.or (sl_str.or sl_list)) p pl pu) fun Rs F H rr sg env st Q hH hE hP => ?_
  refine q Rs F H rr sg env st _ hH hE (bindX hP fun a ea z F1 H1 r1 v1 s1 x1 h1 k1 => ?_)
  refine ql Rs F1 H1 r1 sg env a.2 _ h1 (hE.mono s1 x1) (bindX (Post.later s1 x1 (res := (l env a.2).bind _) z) fun b eb z2 F2 H2 r2 s2 x2 h2 => ?_)
  refine qu Rs F2 H2 r2 sg env b.2 _ h2 (hE.mono (s1.trans s2) (x1.trans x2)) (bindX (Post.later s2 x2 (res := (h env b.2).bind _) z2) fun c ec z3 F3 H3 r3 s3 x3 h3 => ?_)
  replace z3 := Post.later s3 x3 z3
  replace k1 := k1.mono (s2.trans s3) (x2.trans x3)
  have lists : (match lstOf c.2 a.1 with
    | some ds => newL m (cutD ds b.1 c.1) c.2
    | none => (.bad : R (D × Store))) = slG m c.2 a.1 b.1 c.1 → rSlL X.K v1 b.1 c.1 H3 Q := fun eq => by
    rw [← eq] at z3
    split at z3
    · rename_i ds e1
      obtain ⟨p, vs, rfl, h4, k4⟩ := lstOf_ok h3 k1 e1
      exact ⟨p, vs, rfl, .of h4, fun pp hp => newL_post h3 (k4.cut _ _) z3 hp⟩
    · exact z3.elim
  obtain ⟨d, st1⟩ := a
  cases k1 with
  | @tup p vs ds q1 k1 =>
    refine .inl ⟨p, vs, rfl, .of (h3.sF _ _ q1), fun hw => ?_, fun _ pp hp => ?_⟩
    · have e : cutD ds b.1 c.1 = ds := cut_whole ds _ _ (by rw [← k1.length]; exact hw)
      refine onE_here h3 (.tup q1 k1) ?_
      have z4 : onE W Rs F3 r3 Q (.tup (cutD ds b.1 c.1), c.2) := z3
      rw [e] at z4; exact z4
    · exact tup_post h3 (k1.cut _ _) z3 hp
  | str s hs hl =>
    refine .inr (.inl ⟨_, rfl, by rw [len_mk]; exact lim_line hl, ?_⟩)
    rw [cutS_mk]
    refine onE_here h3 (.str _ ?_ (Nat.le_trans (cutD_le _ _ _) hl)) z3
    rw [List.all_eq_true] at hs ⊢
    intro x hx
    exact hs x (List.mem_of_mem_drop (List.mem_of_mem_take hx))
  | non => exact .inr (.inr (lists rfl))
  | bl b => exact .inr (.inr (lists rfl))
  | int b => exact .inr (.inr (lists rfl))
  | lst q k => exact .inr (.inr (lists rfl))
  | ref q => exact .inr (.inr (lists rfl))
  | scr q => exact .inr (.inr (lists rfl))
  | exn0 => exact .inr (.inr (lists rfl))
  | exn1 q => exact .inr (.inr (lists rfl))
/-- xs[::-1] of a list -/
def eRevL (m : Bool) (f : EV) : EV := fun env st => (f env st).bind fun a => match lstOf a.2 a.1 with
  | some ds => newL m ds.reverse a.2
  | none => .bad
abbrev GA := Store → List D → R (D × Store)
def DC (W : Wd) (X : Cx) (v : Value) (g : GA) : Prop := ∃ r, CallR X v r ∧ ∀ Rs F H rr st vs ds Q E, Holds W Rs F H rr st → Reps F rr vs ds → Post W Rs F rr (g st ds) Q E → r vs H Q
def eB (g : GA) (ga : AV) : EV := fun env st => (ga env st).bind fun a => g a.2 a.1
section
variable {x : Str} {e : Expr} {es : List Expr} {p pos : Pos} {ga : AV} {g : GA} {id T : String}
theorem de_callB (hc : DC W X (.builtin id) g) (hg : Gl X x) (hm : X.mg x = none) (hv : bootBuiltins x = some (.builtin id)) (ha : DA W X E (e :: es) ga) (h : ∀ {r : List V → Hp → VK → Prop} {t : TA}, CallR X (.builtin id) r → PA X (e :: es) t → PE X (.Call (.Name x p) (e :: es) [] pos) (tCB r t)) :
    DE W X E (.Call (.Name x p) (e :: es) [] pos) (eB g ga) := by
  obtain ⟨r, hr, qr⟩ := hc
  obtain ⟨t, pa, q⟩ := ha.ex
  refine .mk (h hr pa) fun Rs F H rr sg env st Q hH hE hP => ?_
  exact q Rs F H rr sg env st _ hH hE (bindX hP fun a ea z F1 H1 r1 vs s1 x1 h1 k1 => qr Rs F1 H1 r1 a.2 vs a.1 Q E h1 k1 (Post.later s1 x1 z))
theorem de_callTy (hc : DC W X (.type T) g) (hg : Gl X x) (hm : X.mg x = none) (hv : bootBuiltins x = some (.type T)) (ha : DA W X E (e :: es) ga) (h : ∀ {r : List V → Hp → VK → Prop} {t : TA}, CallR X (.type T) r → PA X (e :: es) t → PE X (.Call (.Name x p) (e :: es) [] pos) (tCB r t)) :
    DE W X E (.Call (.Name x p) (e :: es) [] pos) (eB g ga) := by
  obtain ⟨r, hr, qr⟩ := hc
  obtain ⟨t, pa, q⟩ := ha.ex
  refine .mk (h hr pa) fun Rs F H rr sg env st Q hH hE hP => ?_
  exact q Rs F H rr sg env st _ hH hE (bindX hP fun a ea z F1 H1 r1 vs s1 x1 h1 k1 => qr Rs F1 H1 r1 a.2 vs a.1 Q E h1 k1 (Post.later s1 x1 z))
end
def lenG : GA := fun st ds => match ds with
  | [.str s] => .ok (.int s.length, st)
  | [.tup ds] => .ok (.int ds.length, st)
  | [.scr ns] => .ok (.int ns.length, st)
  | [d] => match lstOf st d with
    | some ds => .ok (.int ds.length, st)
    | none => .bad
  | _ => .bad
theorem dc_len : DC W X (.builtin "len") lenG := ⟨_, call_len, fun Rs F H rr st vs ds Q E h k hP => by
  match vs, ds, k with
  | [v], [d], .cons k .nil =>
    have lists : (match lstOf st d with
      | some ds => .ok (.int ds.length, st)
      | none => (.bad : R (D × Store))) = lenG st [d] → LenV X.K v H (match lstOf st d with | some ds => ds.length | none => 0) ∧ Q (.int (match lstOf st d with | some ds => (ds.length : Nat) | none => 0 : Nat)) H := fun eq => by
      rw [← eq] at hP
      split at hP
      · rename_i ds e1
        obtain ⟨p, vs, rfl, h1, k1⟩ := lstOf_ok h k e1
        exact ⟨.inl ⟨vs, .of h1, k1.length.symm⟩, onE_here h (.int _) hP⟩
      · exact hP.elim
    cases k with
    | str s hs hl => exact ⟨_, _, rfl, ⟨by rw [len_mk]; exact lim_line hl, (len_mk s).symm⟩, onE_here h (.int _) hP⟩
    | tup q k1 => exact ⟨_, _, rfl, .inr ⟨_, .of (h.sF _ _ q), k1.length.symm⟩, onE_here h (.int _) hP⟩
    | @scr a ns q => exact ⟨_, ns.length, rfl, .inl ⟨_, q.sq h.sF, by simp⟩, onE_here h (.int _) hP⟩
    | non => exact ⟨_, _, rfl, lists rfl⟩
    | bl b => exact ⟨_, _, rfl, lists rfl⟩
    | int b => exact ⟨_, _, rfl, lists rfl⟩
    | lst q k => exact ⟨_, _, rfl, lists rfl⟩
    | ref q => exact ⟨_, _, rfl, lists rfl⟩
    | exn0 => exact ⟨_, _, rfl, lists rfl⟩
    | exn1 q => exact ⟨_, _, rfl, lists rfl⟩
  | [], [], _ => exact hP.elim
  | _ :: _ :: _, d :: e :: _, _ => cases d <;> exact hP.elim⟩
/-- all ints -/
def intsOf : List D → Option (List Int)
  | [] => some []
  | .int i :: r => match intsOf r with
    | some l => some (i :: l)
    | none => none
  | _ => none
theorem intsOf_ok {F : Hp} {r : List Addr} : ∀ {ds : List D} {vs : List V} {ns : List Int}, Reps F r vs ds → intsOf ds = some ns → vs = ns.map V.int
  | [], _, _, .nil, e => by cases e; rfl
  | .int i :: ds, _, ns, .cons (.int _) k, e => by
    unfold intsOf at e
    cases q : intsOf ds with
    | none => rw [q] at e; cases e
    | some l =>
      rw [q] at e
      cases e
      rw [intsOf_ok k q]; rfl
  | .non :: _, _, _, _, e => by cases e
  | .bl _ :: _, _, _, _, e => by cases e
  | .str _ :: _, _, _, _, e => by cases e
  | .tup _ :: _, _, _, _, e => by cases e
  | .lst _ :: _, _, _, _, e => by cases e
  | .ref _ :: _, _, _, _, e => by cases e
  | .scr _ :: _, _, _, _, e => by cases e
  | .exn _ _ :: _, _, _, _, e => by cases e
@[simp] theorem intsOf_map (ns : List Int) : intsOf (ns.map D.int) = some ns := by
  induction ns with
  | nil => rfl
  | cons n ns ih => simp [intsOf, ih]
/-- the greatest, the least of some -/
def maxL : List Int → Int
  | [] => 0
  | [a] => a
  | a :: b :: r => max a (maxL (b :: r))
def minL : List Int → Int
  | [] => 0
  | [a] => a
  | a :: b :: r => min a (minL (b :: r))
theorem maxL_mem : ∀ {l : List Int}, l ≠ [] → maxL l ∈ l ∧ ∀ y ∈ l, y ≤ maxL l
  | [], h => absurd rfl h
  | [a], _ => by simp [maxL]
  | a :: b :: r, _ => by
    obtain ⟨h1, h2⟩ := maxL_mem (l := b :: r) (by simp)
    unfold maxL
    refine ⟨?_, fun y hy => ?_⟩
    · by_cases e : a ≤ maxL (b :: r)
      · rw [Int.max_eq_right e]; exact List.mem_cons_of_mem _ h1
      · rw [Int.max_eq_left (by omega)]; exact List.mem_cons_self
    · rcases List.mem_cons.mp hy with rfl | hy
      · omega
      · have := h2 y hy
        omega
theorem minL_mem : ∀ {l : List Int}, l ≠ [] → minL l ∈ l ∧ ∀ y ∈ l, minL l ≤ y
  | [], h => absurd rfl h
  | [a], _ => by simp [minL]
  | a :: b :: r, _ => by
    obtain ⟨h1, h2⟩ := minL_mem (l := b :: r) (by simp)
    unfold minL
    refine ⟨?_, fun y hy => ?_⟩
    · by_cases e : a ≤ minL (b :: r)
      · rw [Int.min_eq_left e]; exact List.mem_cons_self
      · rw [Int.min_eq_right (by omega)]; exact List.mem_cons_of_mem _ h1
    · rcases List.mem_cons.mp hy with rfl | hy
      · omega
      · have := h2 y hy
        omega
def maxG : GA := fun st ds => match ds with
  | [.int i, .int j] => .ok (.int (max i j), st)
  | [d] => match (lstOf st d).bind intsOf with
    | some ns => if ns ≠ [] then .ok (.int (maxL ns), st) else .bad
    | none => .bad
  | _ => .bad
def minG : GA := fun st ds => match ds with
  | [.int i, .int j] => .ok (.int (min i j), st)
  | [d] => match (lstOf st d).bind intsOf with
    | some ns => if ns ≠ [] then .ok (.int (minL ns), st) else .bad
    | none => .bad
  | _ => .bad
theorem dc_max (hc : X.calm = true) : DC W X (.builtin "max") maxG := ⟨_, (call_max2 hc).or (cr_max hc), fun Rs F H rr st vs ds Q E h k hP => by
  unfold maxG at hP
  split at hP
  · rename_i i j
    match k with
    | .cons (.int _) (.cons (.int _) .nil) =>
      refine .inl ⟨i, j, rfl, ?_⟩
      have e : (if j > i then j else i) = max i j := by split <;> omega
      rw [e]
      exact onE_here h (.int _) hP
  · rename_i d
    match k with
    | .cons k .nil =>
      cases e1 : lstOf st d with
      | none => rw [e1] at hP; exact hP.elim
      | some ds =>
        rw [e1] at hP
        simp only [Option.bind_some] at hP
        split at hP
        · rename_i ns e2
          split at hP
          · rename_i hne
            obtain ⟨p, vs, rfl, h1, k1⟩ := lstOf_ok h k e1
            have ev := intsOf_ok k1 e2
            subst ev
            refine .inr ⟨p, ns, rfl, .of h1, List.length_pos_iff.mpr hne, fun m hm hmax => ?_⟩
            obtain ⟨m1, m2⟩ := maxL_mem hne
            have : m = maxL ns := by
              have a := m2 m hm
              have b := hmax _ m1
              omega
            rw [this]
            exact onE_here h (.int _) hP
          · exact hP.elim
        · exact hP.elim
  · exact hP.elim⟩
theorem dc_min (hc : X.calm = true) : DC W X (.builtin "min") minG := ⟨_, (call_min2 hc).or (cr_min hc), fun Rs F H rr st vs ds Q E h k hP => by
  unfold minG at hP
  split at hP
  · rename_i i j
    match k with
    | .cons (.int _) (.cons (.int _) .nil) =>
      refine .inl ⟨i, j, rfl, ?_⟩
      have e : (if j < i then j else i) = min i j := by split <;> omega
      rw [e]
      exact onE_here h (.int _) hP
  · rename_i d
    match k with
    | .cons k .nil =>
      cases e1 : lstOf st d with
      | none => rw [e1] at hP; exact hP.elim
      | some ds =>
        rw [e1] at hP
        simp only [Option.bind_some] at hP
        split at hP
        · rename_i ns e2
          split at hP
          · rename_i hne
            obtain ⟨p, vs, rfl, h1, k1⟩ := lstOf_ok h k e1
            have ev := intsOf_ok k1 e2
            subst ev
            refine .inr ⟨p, ns, rfl, .of h1, List.length_pos_iff.mpr hne, fun m hm hmin => ?_⟩
            obtain ⟨m1, m2⟩ := minL_mem hne
            have : m = minL ns := by
              have a := m2 m hm
              have b := hmin _ m1
              omega
            rw [this]
            exact onE_here h (.int _) hP
          · exact hP.elim
        · exact hP.elim
  · exact hP.elim⟩
def intG : GA := fun st ds => match ds with
  | [.int i] => .ok (.int i, st)
  | [.bl b] => .ok (.int (if b then 1 else 0), st)
  | _ => .bad
theorem dc_int : DC W X (.type "int") intG := ⟨_, call_int1, fun Rs F H rr st vs ds Q E h k hP => by
  unfold intG at hP
  split at hP
  · match k with
    | .cons (.int i) .nil => exact .inl ⟨i, rfl, onE_here h (.int _) hP⟩
  · match k with
    | .cons (.bl b) .nil => exact .inr ⟨b, rfl, onE_here h (.int _) hP⟩
  · exact hP.elim⟩
/-- the digits of a number -/
def strG : GA := fun st ds => match ds with
  | [.int i] => if 0 ≤ i ∧ i < 10 ^ 18 then .ok (.str (TL.numL i.toNat), st) else .bad
  | _ => .bad
theorem numL_ascii (n : Nat) : (TL.numL n).all (fun c => decide (c < 128)) = true := by
  rw [List.all_eq_true]
  intro c hc
  have := TL.numL_digits n
  have h : ¬ (c < 48 ∨ 57 < c) := fun z => TL.numL_free (n := n) z hc
  simp only [decide_eq_true_eq]
  omega
theorem dc_str : DC W X (.type "str") strG := ⟨_, call_str_int, fun Rs F H rr st vs ds Q E h k hP => by
  unfold strG at hP
  split at hP
  · split at hP
    · rename_i i hi
      match k with
      | .cons (.int i) .nil =>
        refine ⟨i, rfl, ?_, ?_⟩
        · have : i.natAbs < 2 ^ 64 := by omega
          exact Nat.lt_trans (PySem.Flt.log2_lt_of (by decide) this) (by decide)
        · have e : TL.tl (Str.ofString (toString i)) = TL.numL i.toNat := by
            have := TL.tl_num i.toNat
            rw [Int.toNat_of_nonneg hi.1] at this
            exact this
          refine onE_here h ?_ hP
          refine rep_str e ?_ F rr
          rw [numL_ascii]
          have := TL.numL_len (n := i.toNat) (k := 18) (by decide) (by omega)
          rw [Bool.true_and, decide_eq_true_eq]; exact Nat.le_trans this (by decide)
    · exact hP.elim
  · exact hP.elim⟩
def ordG : GA := fun st ds => match ds with
  | [.str [c]] => .ok (.int c, st)
  | _ => .bad
theorem dc_ord : DC W X (.builtin "ord") ordG := ⟨_, call_ord, fun Rs F H rr st vs ds Q E h k hP => by
  unfold ordG at hP
  split at hP
  · cases k with
    | cons k k2 =>
      cases k2
      cases k
      exact ⟨_, rfl, rfl, onE_here h (.int _) hP⟩
  · exact hP.elim⟩
def listG (m : Bool) : GA := fun st ds => match ds with
  | [.tup ds] => newL m ds st
  | [.scr ns] => newL m (ns.map .int) st
  | [d] => match lstOf st d with
    | some ds => newL m ds st
    | none => .bad
  | _ => .bad
theorem dc_list (m : Bool) : DC W X (.type "list") (listG m) := ⟨_, call_list_of, fun Rs F H rr st vs ds Q E h k hP => by
  unfold listG at hP
  split at hP
  · match k with
    | .cons (.tup q k) .nil => exact ⟨_, _, rfl, .inr (.of (h.sF _ _ q)), fun l hl => newL_post h k hP hl⟩
  · rename_i ns
    match k with
    | .cons (.scr q) .nil => exact ⟨_, _, rfl, .inl (q.sq h.sF), fun l hl => newL_post h (reps_ints ns) hP hl⟩
  · rename_i d _ _
    match k with
    | .cons k .nil =>
      split at hP
      · rename_i ds e1
        obtain ⟨p, vs, rfl, h1, k1⟩ := lstOf_ok h k e1
        exact ⟨p, vs, rfl, .inl (.of h1), fun l hl => newL_post h k1 hP hl⟩
      · exact hP.elim
  · exact hP.elim⟩
def tupG : GA := fun st ds => match ds with
  | [.tup ds] => .ok (.tup ds, st)
  | [d] => match lstOf st d with
    | some ds => .ok (.tup ds, st)
    | none => .bad
  | _ => .bad
theorem dc_tup : DC W X (.type "tuple") tupG := ⟨_, call_tuple_of, fun Rs F H rr st vs ds Q E h k hP => by
  unfold tupG at hP
  split at hP
  · match k with
    | .cons (.tup q k) .nil => exact ⟨_, _, rfl, .inr ⟨.of (h.sF _ _ q), onE_here h (.tup q k) hP⟩⟩
  · rename_i d _
    match k with
    | .cons k .nil =>
      split at hP
      · rename_i ds e1
        obtain ⟨p, vs, rfl, h1, k1⟩ := lstOf_ok h k e1
        exact ⟨p, vs, rfl, .inl ⟨.of h1, fun l hl => tup_post h k1 hP hl⟩⟩
      · exact hP.elim
  · exact hP.elim⟩
def tyOf (st : Store) : D → Option String
  | .non => some "NoneType"
  | .bl _ => some "bool"
  | .int _ => some "int"
  | .str _ => some "str"
  | .tup _ => some "tuple"
  | .lst _ => some "list"
  | .scr _ => some "list"
  | .exn _ _ => none
  | .ref n => match st[n]? with
    | some (.lst _) => some "list"
    | some (.dK _) => some "dict"
    | some (.dT _) => some "dict"
    | _ => none
theorem tyOf_ok {Rs F H : Hp} {r : List Addr} {st : Store} {v : V} {d : D} {t : String} {K : PySem.W.Frag} (h : Holds W Rs F H r st) (k : Rep F r v d) (e : tyOf st d = some t) : TyX K H v (.type t) := by
  cases k with
  | non => cases e; exact .base .non
  | bl b => cases e; exact .base (.bl b)
  | int b => cases e; exact .base (.int b)
  | str b => cases e; exact .base (.str _)
  | tup q k => cases e; exact .base (.tup (h.sF _ _ q))
  | lst q k => cases e; exact .base (.lst (h.sF _ _ q))
  | scr q =>
    cases e
    rcases q with ⟨o, q⟩ | q
    · exact .base (.frz (h.sF _ _ q))
    · exact .base (.lst (h.sF _ _ q))
  | exn0 => cases e
  | exn1 q => cases e
  | @ref a n q =>
    unfold tyOf at e
    simp only at e
    split at e
    · rename_i e1; cases e; obtain ⟨vs, q1, _⟩ := h.ob n a _ q e1; exact .base (.lst q1)
    · rename_i e1; cases e; obtain ⟨vs, q1, _⟩ := h.ob n a _ q e1; exact .base (.dK q1)
    · rename_i e1; cases e; obtain ⟨vs, q1, _⟩ := h.ob n a _ q e1; exact .base (.dT q1)
    · cases e
/-- whether the class t is T or under it -/
def subTy (t T : String) : Bool := t == T || (t == "bool" && T == "int")
def isG1 (T : String) : GA := fun st ds => match ds with
  | [d] => match tyOf st d with
    | some t => .ok (.bl (subTy t T), st)
    | none => .bad
  | _ => .bad
def eIs (T : String) (f : EV) : EV := fun env st => (f env st).bind fun a => isG1 T a.2 [a.1]
theorem kits {T : String} (hT : T = "int" ∨ T = "bool" ∨ T = "str" ∨ T = "tuple" ∨ T = "list" ∨ T = "dict") {st : Store} {d : D} {t : String} (e : tyOf st d = some t) {K : PySem.W.Frag} : PySem.W.kitOne K (.type t) (.type T) = some (subTy t T) := by
  have ht : t = "NoneType" ∨ t = "bool" ∨ t = "int" ∨ t = "str" ∨ t = "tuple" ∨ t = "list" ∨ t = "dict" := by
    cases d with
    | ref n =>
      unfold tyOf at e
      simp only at e
      split at e <;> cases e <;> simp
    | _ => cases e <;> simp
  refine kit_ty ?_
  rcases hT with rfl | rfl | rfl | rfl | rfl | rfl <;> rcases ht with rfl | rfl | rfl | rfl | rfl | rfl | rfl <;> decide +kernel
theorem de_isinst {x y : Str} {e : Expr} {f : EV} {T : String} {p p2 pos : Pos} (hT : T = "int" ∨ T = "bool" ∨ T = "str" ∨ T = "tuple" ∨ T = "list" ∨ T = "dict") (he : DE W X E e f) (hy : PE X (.Name y p2) (tC (.ty T)))
    (h : ∀ {r : List V → Hp → VK → Prop} {t : TA}, CallR X (.builtin "isinstance") r → PA X [e, .Name y p2] t → PE X (.Call (.Name x p) [e, .Name y p2] [] pos) (tCB r t))
    (h2 : ∀ {te : TE}, PE X e te → PA X [e, .Name y p2] (tCons te (tCons (tC (.ty T)) tNil))) : DE W X E (.Call (.Name x p) [e, .Name y p2] [] pos) (eIs T f) := by
  obtain ⟨t, p, q⟩ := he.ex
  refine .mk (h call_isi (h2 p)) fun Rs F H rr sg env st Q hH hE hP => ?_
  refine q Rs F H rr sg env st _ hH hE (bindX hP fun a ea z F1 H1 r1 v1 s1 x1 h1 k1 => ?_)
  unfold isG1 at z
  simp only at z
  split at z
  · rename_i t e1
    exact ⟨v1, .ty T, .type t, .type T, _, rfl, .ty T, tyOf_ok h1 k1 e1, kits hT e1, z F1 H1 r1 _ s1 x1 h1 (.bl _)⟩
  · exact z.elim
end
end Dl
namespace Dl
open PySem L2
section
variable {W : Wd} {X : Cx} {E : XK}
abbrev GM := Store → D → List D → R (D × Store)
def DM (W : Wd) (X : Cx) (id : String) (g : GM) : Prop := ∃ r, MtR X id r ∧ ∀ Rs F H rr st v d vs ds Q E, Holds W Rs F H rr st → Rep F rr v d → Reps F rr vs ds → Post W Rs F rr (g st d ds) Q E → r v vs H Q
/-- the type at which a method is looked up -/
def tyM (st : Store) : D → Option String
  | .str _ => some "str"
  | .lst _ => some "list"
  | .scr _ => some "list"
  | .ref n => match st[n]? with
    | some (.lst _) => some "list"
    | some (.dK _) => some "dict"
    | some (.dT _) => some "dict"
    | _ => none
  | _ => none
theorem tyM_ok {Rs F H : Hp} {r : List Addr} {st : Store} {v : V} {d : D} {t : String} {K : PySem.W.Frag} (h : Holds W Rs F H r st) (k : Rep F r v d) (e : tyM st d = some t) : tyV K t v H := by
  cases k with
  | str => cases e; rfl
  | lst q k => cases e; exact .inl ⟨rfl, _, .of (h.sF _ _ q)⟩
  | @scr a ns q => cases e; exact .inl ⟨rfl, _, q.sq h.sF⟩
  | @ref a n q =>
    unfold tyM at e
    simp only at e
    split at e
    · rename_i e1; cases e; obtain ⟨vs, q1, _⟩ := h.ob _ a _ q e1; exact .inl ⟨rfl, _, .of q1⟩
    · rename_i e1; cases e; obtain ⟨vs, q1, _⟩ := h.ob _ a _ q e1; exact .inr (.inr (.inl ⟨rfl, .inl ⟨_, q1⟩⟩))
    · rename_i e1; cases e; obtain ⟨vs, q1, _⟩ := h.ob _ a _ q e1; exact .inr (.inr (.inl ⟨rfl, .inr ⟨_, q1⟩⟩))
    · cases e
  | _ => cases e
def eMt (T : String) (g : GM) (fo : EV) (ga : AV) : EV := fun env st => (fo env st).bind fun o => if tyM o.2 o.1 = some T then (ga env o.2).bind fun a => g a.2 o.1 a.1 else .bad
section
variable {o e : Expr} {es : List Expr} {fo : EV} {ga : AV} {name : Str} {apos cpos : Pos} {T id : String} {g : GM}
theorem de_mt (pa : PlainAttrs T) (slot : Slot T name id) (hty : typeOf (.builtin id) = pure (.type "method_descriptor")) (hm : DM W X id g) (ho : DE W X E o fo) (ha : DA W X E (e :: es) ga)
    (h : ∀ {r : V → List V → Hp → VK → Prop} {to : TE} {t : TA}, MtR X id r → PE X o to → PA X (e :: es) t → PE X (.Call (.Attribute o name apos) (e :: es) [] cpos) (tBM X.K T r to t)) :
    DE W X E (.Call (.Attribute o name apos) (e :: es) [] cpos) (eMt T g fo ga) := by
  obtain ⟨r, hr, qr⟩ := hm
  obtain ⟨to, po, qo⟩ := ho.ex
  obtain ⟨t, pa, qa⟩ := ha.ex
  refine .mk (h hr po pa) fun Rs F H rr sg env st Q hH hE hP => ?_
  refine qo Rs F H rr sg env st _ hH hE (bindX hP fun b eb z F1 H1 r1 v1 s1 x1 h1 k1 => ?_)
  split at z
  · rename_i ht
    refine ⟨tyM_ok h1 k1 ht, ?_⟩
    refine qa Rs F1 H1 r1 sg env b.2 _ h1 (hE.mono s1 x1) (bindX (Post.later s1 x1 z) fun c ec z2 F2 H2 r2 vs s2 x2 h2 k2 => ?_)
    exact qr Rs F2 H2 r2 c.2 v1 b.1 vs c.1 Q E h2 (k1.mono s2 x2) k2 (Post.later s2 x2 z2)
  · exact z.elim
theorem de_mt0 (pa : PlainAttrs T) (slot : Slot T name id) (hty : typeOf (.builtin id) = pure (.type "method_descriptor")) (hm : DM W X id g) (ho : DE W X E o fo)
    (h : ∀ {r : V → List V → Hp → VK → Prop} {to : TE}, MtR X id r → PE X o to → PE X (.Call (.Attribute o name apos) [] [] cpos) (tBM0 X.K T r to)) :
    DE W X E (.Call (.Attribute o name apos) [] [] cpos) (eMt T g fo aNil) := by
  obtain ⟨r, hr, qr⟩ := hm
  obtain ⟨to, po, qo⟩ := ho.ex
  refine .mk (h hr po) fun Rs F H rr sg env st Q hH hE hP => ?_
  refine qo Rs F H rr sg env st _ hH hE (bindX hP fun b eb z F1 H1 r1 v1 s1 x1 h1 k1 => ?_)
  split at z
  · rename_i ht
    exact ⟨tyM_ok h1 k1 ht, qr Rs F1 H1 r1 b.2 v1 b.1 [] [] Q E h1 k1 .nil (Post.later s1 x1 z)⟩
  · exact z.elim
end
def appendG : GM := fun st o ds => match o, ds with
  | .ref n, [d] => match st[n]? with
    | some (.lst xs) => if xs.length < LIM then .ok (.non, st.set n (.lst (xs ++ [d]))) else .bad
    | _ => .bad
  | _, _ => .bad
theorem dm_append : DM W X "list.append" appendG := ⟨_, mt_append, fun Rs F H rr st v d vs ds Q E h ko k hP => by
  unfold appendG at hP
  split at hP
  · split at hP
    · rename_i n d xs e1
      split at hP
      · rename_i hl
        cases ko with
        | @ref a n q =>
          match k with
          | .cons k .nil =>
            obtain ⟨ws, q1, k1⟩ := h.ob _ a _ q e1
            exact ⟨a, ws, _, rfl, rfl, q1, by rw [k1.length]; exact lim_lt (Nat.le_of_lt hl), onE_here (h.write (b := .lst _) q ⟨_, upd_same, Reps.snoc k1 k⟩) .non hP⟩
      · exact hP.elim
    · exact hP.elim
  · exact hP.elim⟩
def extendG : GM := fun st o ds => match o, ds with
  | .ref n, [d] => match st[n]?, lstOf st d with
    | some (.lst xs), some zs => if xs.length + zs.length ≤ LIM then .ok (.non, st.set n (.lst (xs ++ zs))) else .bad
    | _, _ => .bad
  | _, _ => .bad
theorem dm_extend : DM W X "list.extend" extendG := ⟨_, mt_extend, fun Rs F H rr st v d vs ds Q E h ko k hP => by
  unfold extendG at hP
  split at hP
  · split at hP
    · rename_i n d _ _ xs zs e1 e2
      split at hP
      · rename_i hl
        cases ko with
        | @ref a n q =>
          match k with
          | .cons k .nil =>
            obtain ⟨ws, q1, k1⟩ := h.ob _ a _ q e1
            obtain ⟨b, us, rfl, q2, k2⟩ := lstOf_ok h k e2
            exact ⟨a, b, ws, us, rfl, rfl, q1, q2, by rw [k1.length, k2.length]; exact lim_line hl, onE_here (h.write (b := .lst _) q ⟨_, upd_same, Reps.append k1 k2⟩) .non hP⟩
      · exact hP.elim
    · exact hP.elim
  · exact hP.elim⟩
def popG : GM := fun st o ds => match o, ds with
  | .ref n, [] => match st[n]? with
    | some (.lst xs) => match xs[xs.length - 1]? with
      | some y => .ok (y, st.set n (.lst xs.dropLast))
      | none => .bad
    | _ => .bad
  | .ref n, [.int i] => match st[n]? with
    | some (.lst xs) => match ixN xs.length i with
      | some j => match xs[j]? with
        | some y => if -1000000 ≤ i ∧ i ≤ 1000000 then .ok (y, st.set n (.lst (xs.eraseIdx j))) else .bad
        | none => .bad
      | none => .bad
    | _ => .bad
  | _, _ => .bad
theorem Reps.dropLast {F : Hp} {r : List Addr} {vs : List V} {ds : List D} (h : Reps F r vs ds) : Reps F r vs.dropLast ds.dropLast := by
  rw [List.dropLast_eq_take, List.dropLast_eq_take, h.length]
  exact h.take _
theorem dm_pop : DM W X "list.pop" popG := ⟨_, MtR.or mt_pop mt_popAt, fun Rs F H rr st v d vs ds Q E h ko k hP => by
  unfold popG at hP
  split at hP
  · split at hP
    · rename_i n xs e1
      split at hP
      · rename_i y e2
        cases ko with
        | @ref a n q =>
          match k with
          | .nil =>
            obtain ⟨ws, q1, k1⟩ := h.ob _ a _ q e1
            obtain ⟨z, e3, k3⟩ := k1.get e2
            exact .inl ⟨a, ws, z, rfl, rfl, q1, by rw [k1.length]; exact e3, onE_here (h.write (b := .lst _) q ⟨_, upd_same, k1.dropLast⟩) k3 hP⟩
      · exact hP.elim
    · exact hP.elim
  · split at hP
    · rename_i n i xs e1
      split at hP
      · rename_i j e2
        split at hP
        · rename_i y e3
          split at hP
          · rename_i hb
            cases ko with
            | @ref a n q =>
              match k with
              | .cons (.int _) .nil =>
                obtain ⟨ws, q1, k1⟩ := h.ob _ a _ q e1
                obtain ⟨z, e4, k4⟩ := k1.get e3
                exact .inr ⟨a, ws, _, j, z, rfl, rfl, q1, by omega, by omega, by rw [k1.length]; exact (ixN_seq e2).1, e4, onE_here (h.write (b := .lst _) q ⟨_, upd_same, k1.eraseIdx _⟩) k4 hP⟩
          · exact hP.elim
        · exact hP.elim
      · exact hP.elim
    · exact hP.elim
  · exact hP.elim⟩
def asciiS (s : List Nat) : Bool := s.all fun c => decide (c < 128)
def strsOf : List D → Option (List (List Nat))
  | [] => some []
  | .str s :: r => match strsOf r with
    | some l => some (s :: l)
    | none => none
  | _ => none
@[simp] theorem strsOf_map (ss : List (List Nat)) : strsOf (ss.map D.str) = some ss := by
  induction ss with
  | nil => rfl
  | cons s ss ih => simp [strsOf, ih]
theorem strsOf_ok {F : Hp} {r : List Addr} : ∀ {ds : List D} {vs : List V} {ss : List (List Nat)}, Reps F r vs ds → strsOf ds = some ss → vs = (ss.map fun s => (⟨s.toArray⟩ : Str)).map V.str ∧ ∀ s ∈ ss, asciiS s = true
  | [], _, _, .nil, e => by cases e; exact ⟨rfl, fun _ h => nomatch h⟩
  | .str s :: ds, _, ns, .cons (.str _ h1 h2) k, e => by
    unfold strsOf at e
    cases q : strsOf ds with
    | none => rw [q] at e; cases e
    | some l =>
      rw [q] at e
      cases e
      obtain ⟨a, b⟩ := strsOf_ok k q
      rw [a]
      refine ⟨rfl, fun t ht => ?_⟩
      rcases List.mem_cons.mp ht with rfl | ht
      · exact h1
      · exact b t ht
  | .non :: _, _, _, _, e => by cases e
  | .bl _ :: _, _, _, _, e => by cases e
  | .int _ :: _, _, _, _, e => by cases e
  | .tup _ :: _, _, _, _, e => by cases e
  | .lst _ :: _, _, _, _, e => by cases e
  | .ref _ :: _, _, _, _, e => by cases e
  | .scr _ :: _, _, _, _, e => by cases e
  | .exn _ _ :: _, _, _, _, e => by cases e
def joinG : GM := fun st o ds => match o, ds with
  | .str s, [d] => match (lstOf st d).bind strsOf with
    | some ss => if (ss.map List.length).sum + ss.length * s.length ≤ LIM then .ok (.str (TL.joinL s ss), st) else .bad
    | none => .bad
  | _, _ => .bad
theorem joinL_len (s : List Nat) : ∀ ss : List (List Nat), (TL.joinL s ss).length ≤ (ss.map List.length).sum + ss.length * s.length
  | [] => by simp [TL.joinL]
  | [p] => by simp [TL.joinL]
  | p :: q :: r => by
    have ih := joinL_len s (q :: r)
    simp only [TL.joinL, List.length_append, List.map_cons, List.sum_cons, List.length_cons, Nat.succ_mul] at ih ⊢
    omega
theorem joinL_all {s : List Nat} (hs : asciiS s = true) : ∀ {ss : List (List Nat)}, (∀ t ∈ ss, asciiS t = true) → asciiS (TL.joinL s ss) = true
  | [], _ => rfl
  | [p], h => by simpa [TL.joinL] using h p (by simp)
  | p :: q :: r, h => by
    have ih := joinL_all hs (ss := q :: r) fun t ht => h t (by simp at ht ⊢; exact .inr ht)
    have hp := h p (by simp)
    unfold asciiS at *
    simp only [TL.joinL, List.all_append, hp, hs, ih, Bool.and_self]
theorem join_mk (s : List Nat) (ss : List (List Nat)) : Txt.join ⟨s.toArray⟩ (ss.map fun s => (⟨s.toArray⟩ : Str)) = ⟨(TL.joinL s ss).toArray⟩ := by
  apply TL.ext_tl
  rw [TL.join_eq, TL.tl_join]
  have e : ∀ t : List Nat, TL.tl ⟨t.toArray⟩ = t := fun t => TL.tl_mk t
  rw [List.map_map]
  have e2 : (TL.tl ∘ fun s => (⟨List.toArray s⟩ : Str)) = fun (t : List Nat) => t := by funext t; exact e t
  rw [e, e, e2, List.map_id']
theorem dm_join : DM W X "str.join" joinG := ⟨_, mt_join, fun Rs F H rr st v d vs ds Q E h ko k hP => by
  unfold joinG at hP
  split at hP
  · rename_i s d
    match k with
    | .cons k .nil =>
      cases e1 : lstOf st d with
      | none => rw [e1] at hP; exact hP.elim
      | some ds =>
        rw [e1] at hP
        simp only [Option.bind_some] at hP
        split at hP
        · rename_i ss e2
          split at hP
          · rename_i hl
            cases ko with
            | str s hs hsl =>
              obtain ⟨p, ws, rfl, h1, k1⟩ := lstOf_ok h k e1
              obtain ⟨ev, ha⟩ := strsOf_ok k1 e2
              refine ⟨_, p, ss.map fun s => (⟨s.toArray⟩ : Str), rfl, rfl, .inl (.of (by rw [← ev]; exact h1)), ?_, ?_⟩
              · rw [List.map_map, List.length_map, len_mk]
                have e3 : ((fun (x : Str) => x.length) ∘ fun (s : List Nat) => (⟨s.toArray⟩ : Str)) = List.length := by funext t; exact len_mk t
                rw [e3]
                exact Nat.le_trans hl (by decide)
              · rw [join_mk]
                exact onE_here h (.str _ (joinL_all hs ha) (Nat.le_trans (joinL_len s ss) hl)) hP
          · exact hP.elim
        · exact hP.elim
  · exact hP.elim⟩
end
mutual
def D.wf (n : Nat) : D → Bool
  | .ref k => decide (k < n)
  | .tup ds => D.wfs n ds
  | .lst ds => D.wfs n ds
  | _ => true
def D.wfs (n : Nat) : List D → Bool
  | [] => true
  | d :: ds => D.wf n d && D.wfs n ds
end
def Ob.wf (n : Nat) : Ob → Bool
  | .lst ds => D.wfs n ds
  | .ins _ fs => fs.all fun p => p.2.wf n
  | .dK kvs => kvs.all fun p => p.2.wf n
  | .dT kvs => kvs.all fun p => p.2.wf n
  | .dead => true
def wfS (st : Store) : Prop := ∀ o ∈ st, o.wf st.length = true
section
variable {F F' : Hp} {r : List Addr}
mutual
theorem Rep.wf : ∀ {d : D} {v : V}, Rep F r v d → d.wf r.length = true
  | _, _, .non => rfl
  | _, _, .bl _ => rfl
  | _, _, .int _ => rfl
  | _, _, .str _ _ _ => rfl
  | _, _, .tup _ k => by unfold D.wf; exact Reps.wf k
  | _, _, .lst _ k => by unfold D.wf; exact Reps.wf k
  | _, _, .ref h => by unfold D.wf; exact decide_eq_true (List.getElem?_eq_some_iff.mp h).1
  | _, _, .scr _ => rfl
  | _, _, .exn0 _ => rfl
  | _, _, .exn1 _ => rfl
theorem Reps.wf : ∀ {ds : List D} {vs : List V}, Reps F r vs ds → D.wfs r.length ds = true
  | _, _, .nil => rfl
  | _, _, .cons h k => by unfold D.wfs; rw [Rep.wf h, Reps.wf k]; rfl
end
theorem Flds.wf {vs : List (Str × V)} {fs : List (Str × D)} (h : Flds F r vs fs) : (fs.all fun p => p.2.wf r.length) = true := by
  induction fs generalizing vs with
  | nil => rfl
  | cons p fs ih =>
    cases vs with
    | nil => exact h.elim
    | cons q vs =>
      obtain ⟨_, k, t⟩ := h
      rw [List.all_cons, k.wf, ih t]; rfl
theorem KVr.wf {A : Type} {vs : List (A × V)} {fs : List (A × D)} (h : KVr F r vs fs) : (fs.all fun p => p.2.wf r.length) = true := by
  induction fs generalizing vs with
  | nil => rfl
  | cons p fs ih =>
    cases vs with
    | nil => exact h.elim
    | cons q vs =>
      obtain ⟨_, k, t⟩ := h
      rw [List.all_cons, k.wf, ih t]; rfl
theorem Holds.wf {W : Wd} {Rs H : Hp} {st : Store} (h : Holds W Rs F H r st) : wfS st := fun o m => by
  obtain ⟨i, hi, rfl⟩ := List.mem_iff_getElem.mp m
  obtain ⟨a, e, k⟩ := h.get (n := i) (o := st[i]) (by simp [hi])
  rw [← h.len]
  cases eo : st[i] with
  | lst ds => rw [eo] at k; obtain ⟨vs, _, k⟩ := k; exact k.wf
  | ins C fs => rw [eo] at k; obtain ⟨dx, vs, _, k⟩ := k; exact k.wf
  | dK kvs => rw [eo] at k; obtain ⟨vs, _, k⟩ := k; exact k.wf
  | dT kvs => rw [eo] at k; obtain ⟨vs, _, k⟩ := k; exact k.wf
  | dead => rfl
end
/-- the new references of d told by what they hold -/
def rsv (n : Nat) (st : Store) : Nat → D → Option D
  | 0, _ => none
  | k + 1, d => match d with
    | .tup ds => match optAll (ds.map (rsv n st k)) with
      | some es => some (.tup es)
      | none => none
    | .lst ds => match optAll (ds.map (rsv n st k)) with
      | some es => some (.lst es)
      | none => none
    | .ref i => if i < n then some (.ref i) else match st[i]? with
      | some (.lst ds) => match optAll (ds.map (rsv n st k)) with
        | some es => some (.lst es)
        | none => none
      | _ => none
    | d => some d
section
variable {W : Wd} {Rs F F' H H' : Hp} {r r' : List Addr} {st st1 junk : Store} {E : XK}
/-- the frozen part with all that was laid -/
def froz (F' H' : Hp) (js : List Addr) : Hp := fun a => if a ∈ js then H' a else F' a
theorem froz_same (h : Holds W Rs F' H' r' st) {js : List Addr} (hj : ∀ a ∈ js, a ∈ r') : Same F' (froz F' H' js) := fun a o e => by
  unfold froz
  rw [if_neg fun m => by rw [(h.own a (hj a m)).1] at e; cases e]
  exact e
theorem rep_cut {n : Nat} : ∀ {d : D} {v : V}, Rep F' r' v d → d.wf n = true → Rep F' (r'.take n) v d := by
  have : (∀ (d : D) (v : V), Rep F' r' v d → d.wf n = true → Rep F' (r'.take n) v d) := by
    intro d
    refine D.rec (motive_1 := fun d => ∀ (v : V), Rep F' r' v d → d.wf n = true → Rep F' (r'.take n) v d) (motive_2 := fun ds => ∀ (vs : List V), Reps F' r' vs ds → D.wfs n ds = true → Reps F' (r'.take n) vs ds) ?_ ?_ ?_ ?_ ?_ ?_ ?_ ?_ ?_ ?_ ?_ d
    · intro v k _; cases k; exact .non
    · intro b v k _; cases k; exact .bl b
    · intro b v k _; cases k; exact .int b
    · intro b v k _; cases k with | str _ h1 h2 => exact .str b h1 h2
    · intro ds ih v k w; cases k with | tup q k => exact .tup q (ih _ k (by unfold D.wf at w; exact w))
    · intro ds ih v k w; cases k with | lst q k => exact .lst q (ih _ k (by unfold D.wf at w; exact w))
    · intro i v k w
      cases k with
      | ref q =>
        unfold D.wf at w
        exact .ref (by rw [List.getElem?_take_of_lt (of_decide_eq_true w)]; exact q)
    · intro ns v k _; cases k with | scr q => exact .scr q
    · intro a o v k _; cases k with
      | exn0 => exact .exn0 _
      | exn1 q => exact .exn1 q
    · intro vs k _; cases k; exact .nil
    · intro d ds ih1 ih2 vs k w
      cases k with
      | cons k1 k2 =>
        unfold D.wfs at w
        rw [Bool.and_eq_true] at w
        exact .cons (ih1 _ k1 w.1) (ih2 _ k2 w.2)
  exact fun {d v} => this d v
theorem reps_cut {n : Nat} : ∀ {ds : List D} {vs : List V}, Reps F' r' vs ds → D.wfs n ds = true → Reps F' (r'.take n) vs ds
  | [], _, .nil, _ => .nil
  | d :: ds, _, .cons k1 k2, w => by
    unfold D.wfs at w
    rw [Bool.and_eq_true] at w
    exact .cons (rep_cut k1 w.1) (reps_cut k2 w.2)
theorem flds_cut {n : Nat} : ∀ {vs : List (Str × V)} {fs : List (Str × D)}, Flds F' r' vs fs → (fs.all fun p => p.2.wf n) = true → Flds F' (r'.take n) vs fs
  | [], [], _, _ => trivial
  | _ :: _, _ :: _, ⟨e, k, t⟩, w => by
    rw [List.all_cons, Bool.and_eq_true] at w
    exact ⟨e, rep_cut k w.1, flds_cut t w.2⟩
  | [], _ :: _, h, _ => h.elim
  | _ :: _, [], h, _ => h.elim
theorem kvr_cut {A : Type} {n : Nat} : ∀ {vs : List (A × V)} {fs : List (A × D)}, KVr F' r' vs fs → (fs.all fun p => p.2.wf n) = true → KVr F' (r'.take n) vs fs
  | [], [], _, _ => trivial
  | _ :: _, _ :: _, ⟨e, k, t⟩, w => by
    rw [List.all_cons, Bool.and_eq_true] at w
    exact ⟨e, rep_cut k w.1, kvr_cut t w.2⟩
  | [], _ :: _, h, _ => h.elim
  | _ :: _, [], h, _ => h.elim
/-- the store cut off at n, the rest frozen -/
theorem Holds.cut (h : Holds W Rs F' H' r' (st1 ++ junk)) (w : ∀ o ∈ st1, o.wf st1.length = true) : Holds W Rs (froz F' H' (r'.drop st1.length)) H' (r'.take st1.length) st1 := by
  have sF := froz_same h (js := r'.drop st1.length) fun a m => List.mem_of_mem_drop m
  have hl : st1.length ≤ r'.length := by rw [h.len]; simp
  refine ⟨fun a o e => ?_, h.sR, fun a e => ?_, by simp [hl], h.nd.sublist (List.take_sublist _ _), fun a m => ?_, fun i a o e1 e2 => ?_, ⟨fun t ht => ?_, fun a ps z => ?_, h.tb.nR⟩⟩
  · unfold froz at e
    split at e
    · exact e
    · exact h.sF _ _ e
  · unfold froz at e
    split at e
    · rename_i m; exact (h.own a (List.mem_of_mem_drop m)).2
    · exact h.dj a e
  · have o := h.own a (List.mem_of_mem_take m)
    refine ⟨?_, o.2⟩
    unfold froz
    rw [if_neg fun m2 => ?_]
    · exact o.1
    · have nd := h.nd
      rw [← List.take_append_drop st1.length r', List.nodup_append] at nd
      exact nd.2.2 a m a m2 rfl
  · have hi : i < st1.length := (List.getElem?_eq_some_iff.mp e2).1
    rw [List.getElem?_take_of_lt hi] at e1
    have k := h.ob i a o e1 (by rw [List.getElem?_append_left hi]; exact e2)
    have wo := w o (List.mem_of_getElem? e2)
    cases o with
    | lst ds => obtain ⟨vs, q, k⟩ := k; exact ⟨vs, q, (reps_cut k wo).mono sF (Ext.refl _)⟩
    | ins C fs => obtain ⟨dx, vs, q, k⟩ := k; exact ⟨dx, vs, q, (flds_cut k wo).mono sF (Ext.refl _)⟩
    | dK kvs => obtain ⟨vs, q, k⟩ := k; exact ⟨vs, q, (kvr_cut k wo).mono sF (Ext.refl _)⟩
    | dT kvs => obtain ⟨vs, q, k⟩ := k; exact ⟨vs, q, (kvr_cut k wo).mono sF (Ext.refl _)⟩
    | dead => exact k
  · obtain ⟨t1, t2, t3, t4⟩ := h.tb.at_ t ht
    refine ⟨t1, ?_, t3, fun m => t4 (List.mem_of_mem_take m)⟩
    unfold froz
    rw [if_neg fun m => t4 (List.mem_of_mem_drop m)]
    exact t2
  · unfold froz at z
    split at z
    · rename_i m
      obtain ⟨u, hu, k1, _⟩ := h.kindOf (List.mem_of_mem_drop m)
      rw [hu] at z
      exact k1 ps (Option.some.inj z)
    · exact h.tb.nF a ps z
/-- res is res' but for what was laid on the way -/
def Frz (n : Nat) (res res' : R (D × Store)) : Prop := match res' with
  | .ok (d', st1) => ∃ d junk, res = .ok (d, st1 ++ junk) ∧ st1.length = n ∧ (∀ o ∈ st1, o.wf n = true) ∧ rsv n (st1 ++ junk) 50 d = some d'
  | .exc c none st1 => ∃ junk, res = .exc c none (st1 ++ junk) ∧ st1.length = n ∧ (∀ o ∈ st1, o.wf n = true)
  | .exc c (some d') st1 => ∃ d junk, res = .exc c (some d) (st1 ++ junk) ∧ st1.length = n ∧ (∀ o ∈ st1, o.wf n = true) ∧ rsv n (st1 ++ junk) 50 d = some d'
  | .bad => True
end
end Dl
namespace Dl
open PySem L2
section
variable {P : Program} {w : World} {W : Wd} {mg : Str → Option Value} {base : Heap} {X : Cx} {E : XK}
/-- a def of the text that means g -/
structure Fn (P : Program) (w : World) (W : Wd) (mg : Str → Option Value) (base : Heap) (x : Str) (k n : Nat) (g : FV) : Prop where
  ex : ∃ f fd ps, FnOk P w W.K mg base (L2.CX P w) k f fd ps (spD W n g) ∧ mg x = some (.ref f) ∧ PySem.W.keepIn W.K (.ref f) = true ∧ Binds W.K fd ps []
/-- a method of the class c -/
structure Mt (P : Program) (w : World) (W : Wd) (mg : Str → Option Value) (base : Heap) (c : Nat) (m : Str) (k n : Nat) (g : FV) : Prop where
  ex : ∃ f fd ps, FnOk P w W.K mg base (L2.CX P w) k f fd ps (spD W n g) ∧ Meth W.K (W.cls c) m f ∧ Binds W.K fd ps []
  cl : Cls W.K (W.cls c)
/-- the class c by its __init__ -/
structure Nw (P : Program) (w : World) (W : Wd) (mg : Str → Option Value) (base : Heap) (x : Str) (c : Nat) (k n : Nat) (g : FV) : Prop where
  ex : ∃ f fd ps, FnOk P w W.K mg base (L2.CX P w) k f fd ps (spD W n g) ∧ Mk W.K (W.cls c) f ∧ mg x = some (.ref (W.cls c)) ∧ Binds W.K fd ps []
/-- the meaning said otherwise where it is said at all -/
theorem Frz.same {n : Nat} {res : R (D × Store)} : ∀ {d : D} {st : Store}, res = .ok (d, st) → st.length = n → (∀ o ∈ st, o.wf n = true) → rsv n st 50 d = some d → Frz n res (.ok (d, st)) := fun e h1 h2 h3 => ⟨_, [], by rw [List.append_nil]; exact e, h1, h2, by rw [List.append_nil]; exact h3⟩
theorem dv (i : Nat) {x : Str} {pos : Pos} (hN : X.N[i]? = some x := by rfl) (hv : Vis X.env.scope x := by first | exact Or.inl rfl | exact Or.inr (Or.inl rfl) | exact Or.inr (Or.inr rfl)) (hd : (x == ("__debug__" : Str)) = false := by decide)
    (hcd : (x == ("__classdict__" : Str)) = false := by decide) : DE W X E (.Name x pos) (eV i) := de_var hN hv hd hcd
def eNeg (f : EV) : EV := fun env st => (f env st).bind fun a => match a.1 with
  | .int i => .ok (.int (-i), a.2)
  | _ => .bad
theorem de_neg {e : Expr} {f : EV} {pos : Pos} (h : DE W X E e f) : DE W X E (.UnaryOp .USub e pos) (eNeg f) := by
  obtain ⟨t, p, q⟩ := h.ex
  refine .mk (pe_un un_neg p) fun Rs F H rr sg env st Q hH hE hP => ?_
  refine q Rs F H rr sg env st _ hH hE (bindX hP fun a ea z F1 H1 r1 v1 s1 x1 h1 k1 => ?_)
  obtain ⟨d, st1⟩ := a
  cases k1 with
  | int i => exact ⟨i, rfl, z F1 H1 r1 _ s1 x1 h1 (.int _)⟩
  | _ => exact z.elim
section
variable {k j n : Nat} {g : FV} {x : Str} {e : Expr} {es : List Expr} {p pos apos : Pos} {ga : AV}
theorem dcall (c : Fn X.prog X.w W X.mg X.base x k n g) (hr : Room j X.A) (hx : Passes (L2.CX X.prog X.w) X E) (ha : DA W X E (e :: es) ga) (hK : X.K = W.K := by rfl) (hj : k ≤ j := by decide) (hg : Gl X x := by rfl)
    (hdb : (x == ("__debug__" : Str)) = false := by decide) (he : starEach (e :: es) X.env = (false, eval e X.env) :: starEach es X.env := by rfl) (hpl : (backTo pos (starEach es X.env)).any (·.1) = false := by rfl) :
    DE W X E (.Call (.Name x p) (e :: es) [] pos) (eCall n g ga) := let ⟨f, fd, ps, F, a, b, c⟩ := c.ex; de_call hK F hr hj hg a b c hx ha hdb he hpl
theorem dmake {c : Nat} (c' : Nw X.prog X.w W X.mg X.base x c k n g) (hr : Room (j + 1) X.A) (hx : Passes (L2.CX X.prog X.w) X E) (ha : DA W X E (e :: es) ga) (hK : X.K = W.K := by rfl) (hj : k ≤ j := by decide) (hg : Gl X x := by rfl)
    (hdb : (x == ("__debug__" : Str)) = false := by decide) (he : starEach (e :: es) X.env = (false, eval e X.env) :: starEach es X.env := by rfl) (hpl : (backTo pos (starEach es X.env)).any (·.1) = false := by rfl) :
    DE W X E (.Call (.Name x p) (e :: es) [] pos) (eMake c n g ga) := let ⟨f, fd, ps, F, a, b, c⟩ := c'.ex; de_make hK a F hr hj hg b c hx ha hdb he hpl
theorem dmeth {o : Expr} {fo : EV} {c : Nat} {m : Str} {pl : Sem Bool} (c' : Mt X.prog X.w W X.mg X.base c m k n g) (he : DE W X E o fo) (hr : Room j X.A) (hx : Passes (L2.CX X.prog X.w) X E) (ha : DA W X E (e :: es) ga) (hK : X.K = W.K := by rfl) (hj : k ≤ j := by decide)
    (hst : starEach (e :: es) X.env = (false, eval e X.env) :: starEach es X.env := by rfl) (hpl : (backTo pos (starEach es X.env)).any (·.1) = false := by rfl)
    (ht : eval (.Call (.Attribute o m apos) (e :: es) [] pos) X.env = (do
      let ov ← eval o X.env
      standAt apos.atName
      let (f, first) ← holding [ov] (getMethod ov m pl)
      callWith pos f first (backTo pos (starEach (e :: es) X.env)) (backToKw pos (keywordEach [] X.env))) := by rfl) :
    DE W X E (.Call (.Attribute o m apos) (e :: es) [] pos) (eMeth c m n g fo ga) := let ⟨f, fd, ps, F, a, b⟩ := c'.ex; de_meth (pl := pl) hK he c'.cl a F hr hj b hx ha hst hpl ht
theorem dmeth0 {o : Expr} {fo : EV} {c : Nat} {m : Str} {pl : Sem Bool} (c' : Mt X.prog X.w W X.mg X.base c m k n g) (he : DE W X E o fo) (hr : Room j X.A) (hx : Passes (L2.CX X.prog X.w) X E) (hK : X.K = W.K := by rfl) (hj : k ≤ j := by decide)
    (ht : eval (.Call (.Attribute o m apos) [] [] pos) X.env = (do
      let ov ← eval o X.env
      standAt apos.atName
      let (f, first) ← holding [ov] (getMethod ov m pl)
      callWith pos f first [] []) := by rfl) :
    DE W X E (.Call (.Attribute o m apos) [] [] pos) (eMeth c m n g fo aNil) := let ⟨f, fd, ps, F, a, b⟩ := c'.ex; de_meth0 (pl := pl) hK he c'.cl a F hr hj b hx fun {to} po => by
      refine pe_meth0 (pl := pl) (C := W.cls c) (sp := spD W n g) po (by rw [hK]; exact c'.cl) (by rw [hK]; exact a) (by rw [hK]; exact F) (hr.mono hj) (by rw [hK]; exact b) .nil hx ht
end
theorem passD {qual : Str} {N : List Str} {sc : Scope} {f : Addr} {cd : Value} {A : Around} {outer : List PySem.Env} {s : Shared} {H : Hp} {K : PySem.W.Frag} : Passes (L2.CX P w) (cxOf (L2.CX P w) P w K mg base N qual sc f cd A outer s H E) E :=
  passes_call (takes_of rfl rfl rfl rfl) fun _ _ _ _ h => h
theorem passF {qual : Str} {N : List Str} {sc : Scope} {f : Addr} {cd : Value} {A : Around} {outer : List PySem.Env} {s : Shared} {H : Hp} {K : PySem.W.Frag} : PassesOwn (model P w) (cxOf (L2.CX P w) P w K mg base N qual sc f cd A outer s H E).A (cxOf (L2.CX P w) P w K mg base N qual sc f cd A outer s H E).env (cxOf (L2.CX P w) P w K mg base N qual sc f cd A outer s H E).xe :=
  passes_of (X := cxOf (L2.CX P w) P w K mg base N qual sc f cd A outer s H E) rfl
end
end Dl
namespace Dl
open PySem L2
def SR.andThen (r : SR) (g : SV) : SR := match r with
  | .nx e s => g e s
  | .rt d s => .rt d s
  | .bk e s => .bk e s
  | .ct e s => .ct e s
  | .exc c p s => .exc c p s
  | .bad => .bad
@[simp] theorem then_nx (e : Env) (s : Store) (g : SV) : (SR.nx e s).andThen g = g e s := (rfl)
@[simp] theorem then_rt (d : D) (s : Store) (g : SV) : (SR.rt d s).andThen g = .rt d s := (rfl)
@[simp] theorem then_bk (e : Env) (s : Store) (g : SV) : (SR.bk e s).andThen g = .bk e s := (rfl)
@[simp] theorem then_ct (e : Env) (s : Store) (g : SV) : (SR.ct e s).andThen g = .ct e s := (rfl)
@[simp] theorem then_exc (c : Nat) (p : Option D) (s : Store) (g : SV) : (SR.exc c p s).andThen g = .exc c p s := (rfl)
@[simp] theorem then_bad (g : SV) : (SR.bad).andThen g = .bad := (rfl)
def R.ifS (r : R (Bool × Store)) (f g : SV) (env : Env) : SR := match r with
  | .ok a => if a.1 = true then f env a.2 else g env a.2
  | .exc c p st => .exc c p st
  | .bad => .bad
@[simp] theorem ifS_ok (a : Bool × Store) (f g : SV) (env : Env) : (R.ok a).ifS f g env = if a.1 = true then f env a.2 else g env a.2 := (rfl)
@[simp] theorem ifS_exc (c : Nat) (p : Option D) (st : Store) (f g : SV) (env : Env) : (R.exc c p st : R (Bool × Store)).ifS f g env = .exc c p st := (rfl)
@[simp] theorem ifS_bad (f g : SV) (env : Env) : (R.bad : R (Bool × Store)).ifS f g env = .bad := (rfl)
def R.forS (r : R (Wk × Store)) (g : GV) (b : SV) (env : Env) : SR := match r with
  | .ok a => forGo a.1.2 g b a.1.1 env a.2
  | .exc c p st => .exc c p st
  | .bad => .bad
@[simp] theorem forS_ok (ds : List D) (sub : List (Nat × List D)) (s : Store) (g : GV) (b : SV) (env : Env) : (R.ok ((ds, sub), s)).forS g b env = forGo sub g b ds env s := (rfl)
@[simp] theorem forS_exc (c : Nat) (p : Option D) (st : Store) (g : GV) (b : SV) (env : Env) : (R.exc c p st : R (Wk × Store)).forS g b env = .exc c p st := (rfl)
@[simp] theorem forS_bad (g : GV) (b : SV) (env : Env) : (R.bad : R (Wk × Store)).forS g b env = .bad := (rfl)
def R.lcS (r : R (Wk × Store)) (m : Bool) (t : Tg1) (tt : TV) (te : EV) (env : Env) : R (D × Store) := match r with
  | .ok a => if a.1.1.length ≤ LIM then (lcGo a.1.2 t tt te env a.1.1 [] a.2).bind fun b => newL m b.1 b.2 else .bad
  | .exc c p st => .exc c p st
  | .bad => .bad
@[simp] theorem lcS_ok (ds : List D) (sub : List (Nat × List D)) (s : Store) (m : Bool) (t : Tg1) (tt : TV) (te : EV) (env : Env) : (R.ok ((ds, sub), s)).lcS m t tt te env = if ds.length ≤ LIM then (lcGo sub t tt te env ds [] s).bind fun b => newL m b.1 b.2 else .bad := (rfl)
@[simp] theorem lcS_exc (c : Nat) (p : Option D) (st : Store) (m : Bool) (t : Tg1) (tt : TV) (te : EV) (env : Env) : (R.exc c p st : R (Wk × Store)).lcS m t tt te env = .exc c p st := (rfl)
@[simp] theorem lcS_bad (m : Bool) (t : Tg1) (tt : TV) (te : EV) (env : Env) : (R.bad : R (Wk × Store)).lcS m t tt te env = .bad := (rfl)
section
variable (env : Env) (st : Store)
@[simp] theorem r_eV (i : Nat) : eV i env st = match env[i]? with
  | some (some d) => .ok (d, st)
  | _ => .bad := (rfl)
@[simp] theorem r_eC (d : D) : eC d env st = .ok (d, st) := (rfl)
@[simp] theorem r_eOp (g : G2) (fa fb : EV) : eOp g fa fb env st = (fa env st).bind fun a => (fb env a.2).bind fun b => g b.2 a.1 b.1 := (rfl)
@[simp] theorem r_tv (f : EV) : tv f env st = (f env st).bind fun a => match a.1 with
  | .bl b => .ok (b, a.2)
  | _ => .bad := (rfl)
@[simp] theorem r_eChain (g g' : G2) (fa fb fc : EV) : eChain g g' fa fb fc env st = (fa env st).bind fun a => (fb env a.2).bind fun b => (g b.2 a.1 b.1).bind fun z => match z.1 with
  | .bl true => (fc env z.2).bind fun c => g' c.2 b.1 c.1
  | .bl false => .ok (.bl false, z.2)
  | _ => .bad := (rfl)
@[simp] theorem r_tAndD (f g : TV) : tAndD f g env st = (f env st).bind fun a => if a.1 = true then g env a.2 else .ok (false, a.2) := (rfl)
@[simp] theorem r_tOrD (f g : TV) : tOrD f g env st = (f env st).bind fun a => if a.1 = true then .ok (true, a.2) else g env a.2 := (rfl)
@[simp] theorem r_tNotD (f : TV) : tNotD f env st = (f env st).bind fun a => .ok (!a.1, a.2) := (rfl)
@[simp] theorem r_eAnd (f g : EV) : eAnd f g env st = (f env st).bind fun a => match a.1 with
  | .bl true => g env a.2
  | .bl false => .ok (.bl false, a.2)
  | _ => .bad := (rfl)
@[simp] theorem r_eOr (f g : EV) : eOr f g env st = (f env st).bind fun a => match a.1 with
  | .bl true => .ok (.bl true, a.2)
  | .bl false => g env a.2
  | _ => .bad := (rfl)
@[simp] theorem r_eNot (f : EV) : eNot f env st = (f env st).bind fun a => match a.1 with
  | .bl b => .ok (.bl (!b), a.2)
  | _ => .bad := (rfl)
@[simp] theorem r_eIf (t : TV) (f g : EV) : eIf t f g env st = (t env st).bind fun a => if a.1 = true then f env a.2 else g env a.2 := (rfl)
@[simp] theorem r_aNil : aNil env st = .ok ([], st) := (rfl)
@[simp] theorem r_aCons (f : EV) (g : AV) : aCons f g env st = (f env st).bind fun a => (g env a.2).bind fun b => .ok (a.1 :: b.1, b.2) := (rfl)
@[simp] theorem r_newF (ds : List D) : newL false ds st = .ok (.lst ds, st) := (rfl)
@[simp] theorem r_newT (ds : List D) : newL true ds st = .ok (.ref st.length, st ++ [.lst ds]) := (rfl)
@[simp] theorem r_eTup (g : AV) : eTup g env st = (g env st).bind fun a => if a.1.length ≤ LIM then .ok (.tup a.1, a.2) else .bad := (rfl)
@[simp] theorem r_eLst (m : Bool) (g : AV) : eLst m g env st = (g env st).bind fun a => if a.1.length ≤ LIM then newL m a.1 a.2 else .bad := (rfl)
@[simp] theorem r_sNext : sNext env st = .nx env st := (rfl)
@[simp] theorem r_sCons (f g : SV) : sCons f g env st = (f env st).andThen g := by unfold sCons SR.andThen; cases f env st <;> rfl
@[simp] theorem r_sExpr (f : EV) : sExpr f env st = sOf (f env st) fun a => .nx env a.2 := (rfl)
@[simp] theorem r_sRet (f : EV) : sRet f env st = sOf (f env st) fun a => .rt a.1 a.2 := (rfl)
@[simp] theorem r_sIf (t : TV) (f g : SV) : sIf t f g env st = (t env st).ifS f g env := by unfold sIf R.ifS sOf; cases t env st <;> rfl
@[simp] theorem r_sBad : sBad env st = .bad := (rfl)
@[simp] theorem r_sAsg (f : EV) (g : GV) : sAsg f g env st = sOf (f env st) fun a => sOf (g a.1 env a.2) fun b => .nx b.1 b.2 := (rfl)
@[simp] theorem r_sPar (i j : Nat) (f : AV) : sPar i j f env st = sOf (f env st) fun a => match a.1 with
  | [d, e] => .nx ((env.set i (some d)).set j (some e)) a.2
  | _ => .bad := (rfl)
@[simp] theorem r_sPar3 (i j l : Nat) (f : AV) : sPar3 i j l f env st = sOf (f env st) fun a => match a.1 with
  | [d, e, c] => .nx (((env.set i (some d)).set j (some e)).set l (some c)) a.2
  | _ => .bad := (rfl)
@[simp] theorem r_gN (i : Nat) (d : D) : gN i d env st = .ok (env.set i (some d), st) := (rfl)
@[simp] theorem r_gsNil : gsNil [] env st = .ok (env, st) := (rfl)
@[simp] theorem r_gsCons (g : GV) (h : GVs) (d : D) (ds : List D) : gsCons g h (d :: ds) env st = (g d env st).bind fun a => h ds a.1 a.2 := (rfl)
@[simp] theorem r_gTp (n : Nat) (h : GVs) (ds : List D) : gTp n h (.tup ds) env st = if ds.length = n then h ds env st else .bad := (rfl)
@[simp] theorem r_gSb (fo fi : EV) (g : SetV) (d : D) : gSb fo fi g d env st = (fo env st).bind fun a => (fi env a.2).bind fun b => match g b.2 a.1 b.1 d with
  | some st' => .ok (env, st')
  | none => .bad := (rfl)
@[simp] theorem r_iSeq (f : EV) : iSeq f env st = (f env st).bind fun a => match itemsOf a.2 a.1 with
  | some w => .ok (w, a.2)
  | none => .bad := (rfl)
@[simp] theorem r_sFor (it : IV) (g : GV) (b : SV) : sFor it g b env st = (it env st).forS g b env := by unfold sFor R.forS sOf; cases it env st <;> rfl
@[simp] theorem r_tYesD : tYesD env st = .ok (true, st) := (rfl)
@[simp] theorem r_eLc (m : Bool) (it : IV) (vs : List Nat) (t : Tg1) (tt : TV) (te : EV) : eLc m it vs t tt te env st = (it env st).lcS m t tt te (wipeD env vs) := by unfold eLc R.lcS R.bind; cases it env st <;> rfl
@[simp] theorem r_iR1 (g : AV) : iR1 g env st = (g env st).bind fun a => match a.1 with
  | [.int n] => if -1000000 ≤ n ∧ n ≤ 1000000 then .ok ((intsD 0 n.toNat, []), a.2) else .bad
  | _ => .bad := (rfl)
@[simp] theorem r_iR2 (g : AV) : iR2 g env st = (g env st).bind fun a => match a.1 with
  | [.int i, .int n] => if (-1000000 ≤ i ∧ i ≤ 1000000) ∧ -1000000 ≤ n ∧ n ≤ 1000000 then .ok ((intsD i (n - i).toNat, []), a.2) else .bad
  | _ => .bad := (rfl)
@[simp] theorem r_iEn (g : AV) : iEn g env st = (g env st).bind fun a => match a.1 with
  | [d] => match listOf a.2 d with
    | some w => .ok ((pairUp w.1, w.2), a.2)
    | none => .bad
  | _ => .bad := (rfl)
@[simp] theorem r_iZp (g : AV) : iZp g env st = (g env st).bind fun a => match a.1 with
  | [d, e] => match listOf a.2 d, listOf a.2 e with
    | some w, some w' => .ok ((zipUp w.1 w'.1, w.2 ++ w'.2), a.2)
    | _, _ => .bad
  | _ => .bad := (rfl)
@[simp] theorem r_eCall (n : Nat) (g : FV) (ga : AV) : eCall n g ga env st = (ga env st).bind fun a => if a.1.length = n then g a.1 a.2 else .bad := (rfl)
@[simp] theorem r_eB (g : GA) (ga : AV) : eB g ga env st = (ga env st).bind fun a => g a.2 a.1 := (rfl)
@[simp] theorem r_eIs (T : String) (f : EV) : eIs T f env st = (f env st).bind fun a => isG1 T a.2 [a.1] := (rfl)
@[simp] theorem r_eMt (T : String) (g : GM) (fo : EV) (ga : AV) : eMt T g fo ga env st = (fo env st).bind fun o => if tyM o.2 o.1 = some T then (ga env o.2).bind fun a => g a.2 o.1 a.1 else .bad := (rfl)
@[simp] theorem r_eSl (m : Bool) (f : EV) (l h : Env → Store → R (Option Int × Store)) : eSl m f l h env st = (f env st).bind fun a => (l env a.2).bind fun b => (h env b.2).bind fun c => slG m c.2 a.1 b.1 c.1 := (rfl)
@[simp] theorem r_poNone : poNone env st = .ok (none, st) := (rfl)
@[simp] theorem r_poSome (f : EV) : poSome f env st = (f env st).bind fun a => match a.1 with
  | .int i => .ok (some i, a.2)
  | _ => .bad := (rfl)
@[simp] theorem r_eNeg (f : EV) : eNeg f env st = (f env st).bind fun a => match a.1 with
  | .int i => .ok (.int (-i), a.2)
  | _ => .bad := (rfl)
@[simp] theorem r_eFld (c : Nat) (f : Str) (fo : EV) : eFld c f fo env st = (fo env st).bind fun o => match o.1 with
  | .ref i => match o.2[i]? with
    | some (.ins c' fs) => if c' = c then (match fs.lookup f with
      | some d => .ok (d, o.2)
      | none => .bad) else .bad
    | _ => .bad
  | _ => .bad := (rfl)
@[simp] theorem r_isG1 (T : String) (d : D) : isG1 T st [d] = match tyOf st d with
    | some t => .ok (.bl (subTy t T), st)
    | none => .bad := (rfl)
end
theorem le_LIM {n : Nat} (h : n ≤ 1000000) : n ≤ LIM := h
theorem lt_LIM {n : Nat} (h : n < 1000000) : n < LIM := h
theorem lcGo_nil {sub : List (Nat × List D)} {t : Tg1} {tt : TV} {te : EV} {env : Env} {acc : List D} {st : Store} (h : still sub st = true) : lcGo sub t tt te env [] acc st = .ok (acc, st) := by
  unfold lcGo; rw [if_pos h]
theorem lcGo_cons {sub : List (Nat × List D)} {t : Tg1} {tt : TV} {te : EV} {env : Env} {d : D} {ds acc : List D} {st : Store} (h : still sub st = true) : lcGo sub t tt te env (d :: ds) acc st = match t.put d env with
    | some env1 => (noX (tt env1 st)).bind fun b => if b.1 = true then (noX (te env1 b.2)).bind fun y => lcGo sub t tt te env ds (acc ++ [y.1]) y.2 else lcGo sub t tt te env ds acc b.2
    | none => .bad := by
  rw [lcGo, if_pos h]
  all_goals rfl
theorem forGo_nil {sub : List (Nat × List D)} {g : GV} {b : SV} {env : Env} {st : Store} (h : still sub st = true) : forGo sub g b [] env st = .nx env st := by
  unfold forGo; rw [if_pos h]
theorem forGo_cons {sub : List (Nat × List D)} {g : GV} {b : SV} {d : D} {ds : List D} {env : Env} {st : Store} (h : still sub st = true) : forGo sub g b (d :: ds) env st = sOf (g d env st) fun a => (match b a.1 a.2 with
      | .nx e s => forGo sub g b ds e s
      | .ct e s => forGo sub g b ds e s
      | .bk e s => .nx e s
      | .rt d s => .rt d s
      | .exc c p s => .exc c p s
      | .bad => .bad) := by
  rw [forGo, if_pos h]
  all_goals rfl
/-- a comprehension that changes nothing -/
theorem lc_pure {sub : List (Nat × List D)} {t : Tg1} {tt : TV} {te : EV} {env : Env} {st : Store} (hs : still sub st = true) (p : D → Bool) (f : D → D) : ∀ (ds acc : List D),
    (∀ d ∈ ds, ∃ env1, t.put d env = some env1 ∧ tt env1 st = .ok (p d, st) ∧ (p d = true → te env1 st = .ok (f d, st))) → lcGo sub t tt te env ds acc st = .ok (acc ++ (ds.filter p).map f, st)
  | [], acc, _ => by rw [lcGo_nil hs]; simp
  | d :: ds, acc, h => by
    obtain ⟨env1, h1, h2, h3⟩ := h d (by simp)
    have ih := fun acc => lc_pure hs p f ds acc fun e he => h e (by simp [he])
    rw [lcGo_cons hs, h1]
    simp only [h2, noX_ok, R.bind_ok]
    cases e : p d with
    | true => simp [h3 e, ih, e]
    | false => simp [ih, e]
theorem lc_map {sub : List (Nat × List D)} {t : Tg1} {te : EV} {env : Env} {st : Store} (hs : still sub st = true) (f : D → D) (ds : List D) (h : ∀ d ∈ ds, ∃ env1, t.put d env = some env1 ∧ te env1 st = .ok (f d, st)) : lcGo sub t tYesD te env ds [] st = .ok (ds.map f, st) := by
  have := lc_pure (tt := tYesD) hs (fun _ => true) f ds [] fun d hd => let ⟨e, a, b⟩ := h d hd; ⟨e, a, rfl, fun _ => b⟩
  rw [this, List.filter_eq_self.mpr (by simp)]
  simp
/-- a loop by its invariant: what is so ahead of the i-th turn -/
theorem for_inv {sub : List (Nat × List D)} {g : GV} {b : SV} (I : Nat → Env → Store → Prop) {ds : List D} {env : Env} {st : Store} (h0 : I 0 env st) (hst : ∀ i env st, i ≤ ds.length → I i env st → still sub st = true)
    (turn : ∀ i d env st, ds[i]? = some d → I i env st → ∃ e1 s1 e2 s2, g d env st = .ok (e1, s1) ∧ (b e1 s1 = .nx e2 s2 ∨ b e1 s1 = .ct e2 s2) ∧ I (i + 1) e2 s2) : ∃ e s, forGo sub g b ds env st = .nx e s ∧ I ds.length e s := by
  have gen : ∀ (es : List D) (i : Nat) (env : Env) (st : Store), i + es.length = ds.length → ds.drop i = es → I i env st → ∃ e s, forGo sub g b es env st = .nx e s ∧ I ds.length e s := by
    intro es
    induction es with
    | nil =>
      intro i env st hl hd hI
      refine ⟨env, st, forGo_nil (hst i env st (by omega) hI), ?_⟩
      have : i = ds.length := by simpa using hl
      rw [← this]; exact hI
    | cons d es ih =>
      intro i env st hl hd hI
      have hi : ds[i]? = some d := by
        have := congrArg (fun l => l[0]?) hd
        simpa using this
      obtain ⟨e1, s1, e2, s2, a1, a2, a3⟩ := turn i d env st hi hI
      obtain ⟨e, s, r1, r2⟩ := ih (i + 1) e2 s2 (by simp at hl; omega) (by
        have : ds.drop (i + 1) = (ds.drop i).drop 1 := by rw [List.drop_drop]
        rw [this, hd]; rfl) a3
      refine ⟨e, s, ?_, r2⟩
      rw [forGo_cons (hst i env st (by simp at hl; omega) hI), a1]
      rcases a2 with a2 | a2 <;> simp [a2, r1]
  exact gen ds 0 env st (by simp) (by simp) h0
/-- a loop that looks for something, and returns or raises -/
theorem for_inv_end {sub : List (Nat × List D)} {g : GV} {b : SV} (I : Nat → Env → Store → Prop) (P : SR → Prop) {ds : List D} {env : Env} {st : Store} (h0 : I 0 env st) (hst : ∀ i env st, i ≤ ds.length → I i env st → still sub st = true)
    (turn : ∀ i d env st, ds[i]? = some d → I i env st → ∃ e1 s1, g d env st = .ok (e1, s1) ∧ ((∃ e2 s2, (b e1 s1 = .nx e2 s2 ∨ b e1 s1 = .ct e2 s2) ∧ I (i + 1) e2 s2) ∨ (∃ e2 s2, b e1 s1 = .bk e2 s2 ∧ P (.nx e2 s2)) ∨ (∃ d s2, b e1 s1 = .rt d s2 ∧ P (.rt d s2)) ∨ (∃ c p s2, b e1 s1 = .exc c p s2 ∧ P (.exc c p s2))))
    (done : ∀ e s, I ds.length e s → P (.nx e s)) : P (forGo sub g b ds env st) := by
  have gen : ∀ (es : List D) (i : Nat) (env : Env) (st : Store), i + es.length = ds.length → ds.drop i = es → I i env st → P (forGo sub g b es env st) := by
    intro es
    induction es with
    | nil =>
      intro i env st hl hd hI
      rw [forGo_nil (hst i env st (by omega) hI)]
      have : i = ds.length := by simpa using hl
      exact done env st (by rw [← this]; exact hI)
    | cons d es ih =>
      intro i env st hl hd hI
      have hi : ds[i]? = some d := by
        have := congrArg (fun l => l[0]?) hd
        simpa using this
      obtain ⟨e1, s1, a1, a2⟩ := turn i d env st hi hI
      rw [forGo_cons (hst i env st (by simp at hl; omega) hI), a1]
      rcases a2 with ⟨e2, s2, a2, a3⟩ | ⟨e2, s2, a2, a3⟩ | ⟨d', s2, a2, a3⟩ | ⟨c, p, s2, a2, a3⟩
      · have r := ih (i + 1) e2 s2 (by simp at hl; omega) (by
          have : ds.drop (i + 1) = (ds.drop i).drop 1 := by rw [List.drop_drop]
          rw [this, hd]; rfl) a3
        rcases a2 with a2 | a2 <;> simpa [a2] using r
      · simpa [a2] using a3
      · simpa [a2] using a3
      · simpa [a2] using a3
  exact gen ds 0 env st (by simp) (by simp) h0
end Dl
namespace Dl
open PySem L2
theorem fnE {P : Program} {w : World} {W : Wd} {mg : Str → Option Value} {base : Heap} {x qual : Str} {s : Stmt} {f : Addr} {fd : FuncData} {N ps : List Str} {k n q : Nat} {b : SV} (F : Fun W.K x qual s f fd) (S : FnScope N ps (defScope s)) (hn : ps.length = n) (hq : N.length = q)
    (hbody : ∀ (cdv : Value) (A : Around) (outer : List PySem.Env) (sh : Shared) (H : Hp) (E : XK), Room k (A.deeper (PyProof.Rows.envOfC qual (defScope s) sh.heap.objs.size f cdv)) →
      DB W (cxOf (L2.CX P w) P w W.K mg base N qual (defScope s) f cdv A outer sh H E) E (defBody s) b) : FnOk P w W.K mg base (L2.CX P w) (k + 1) f fd ps (spD W n (funD q b)) := by
  subst hq
  exact fnD F S hn hbody
/-- the law's promise: from a script that the caller holds -/
def spLaw (n : Nat) : Sp := fun vs H Q _ => ∃ (a : Addr) (o : Obj) (ns : List Int), vs = [.ref a] ∧ H a = some (.frz o (.lst (ns.map V.int))) ∧ ns.length ≤ n ∧ ∀ H', Q (.bl true) H'
theorem isTbl_some {o : Option HO} (h : isTbl o = true) : ∃ ps, o = some (.tbl ps) := by
  unfold isTbl at h
  split at h
  · exact ⟨_, rfl⟩
  · cases h
def noTbl (H : Hp) : Hp := fun a => if isTbl (H a) = true then none else H a
theorem noTbl_same (H : Hp) : Same (noTbl H) H := fun a o e => by
  unfold noTbl at e
  split at e
  · cases e
  · exact e
theorem noTbl_ne (H : Hp) (a : Addr) (ps : Array Value) : noTbl H a ≠ some (.tbl ps) := fun e => by
  unfold noTbl at e
  split at e
  · cases e
  · rename_i n
    exact n (by rw [e]; rfl)
theorem noTbl_at {H : Hp} {a : Addr} {o : HO} (e : H a = some o) (n : ∀ ps, o ≠ .tbl ps) : noTbl H a = some o := by
  unfold noTbl
  rw [if_neg fun z => ?_]
  · exact e
  · obtain ⟨ps, q⟩ := isTbl_some z
    rw [e] at q
    exact n ps (Option.some.inj q)
/-- the law's promise, from a script that the caller holds, and empty tables at T -/
def spLawT (T : List Addr) (n : Nat) : Sp := fun vs H Q _ => ∃ (a : Addr) (ns : List Int), vs = [.ref a] ∧ ScrAt H a ns ∧ (∀ P ∈ T, H P = some (.tbl #[])) ∧ ns.length ≤ n ∧ ∀ H', Q (.bl true) H'
theorem law_ofT {P : Program} {w : World} {W : Wd} {mg : Str → Option Value} {base : Heap} {k n : Nat} {g : FV} {f : Addr} {fd : FuncData} {ps : List Str} {T : List Addr} (F : FnOk P w W.K mg base (L2.CX P w) k f fd ps (spD W 1 g))
    (h : ∀ ns : List Int, ns.length ≤ n → ∃ st, g [.scr ns] [] = .ok (.bl true, st)) (hT : ∀ p ∈ W.tabs, p.1 ∈ T) : FnOk P w W.K mg base (L2.CX P w) k f fd ps (spLawT T n) := by
  refine F.imp fun vs H Q E ⟨a, ns, e, hH, hP, hl, hQ⟩ => ?_
  subst e
  have hN : ScrAt (noTbl H) a ns := by
    rcases hH with ⟨o, hH⟩ | hH
    · exact .inl ⟨o, noTbl_at hH fun _ z => by cases z⟩
    · exact .inr (noTbl_at hH fun _ z => by cases z)
  obtain ⟨st, hst⟩ := h ns hl
  refine ⟨fun _ => none, noTbl H, [], [], [.scr ns], ⟨noTbl_same H, fun _ _ z => (by cases z), fun _ _ => rfl, rfl, List.nodup_nil, fun _ m => (by cases m), fun i a o e1 _ => (by simp at e1), ⟨fun t ht => ⟨.nil (hP _ (hT t ht)), ?_, rfl, (by simp)⟩, noTbl_ne H, fun _ _ z => (by cases z)⟩⟩, .cons (.scr hN) .nil, rfl, ?_⟩
  · unfold noTbl
    rw [if_pos (by rw [hP _ (hT t ht)]; rfl)]
  · rw [hst]
    intro F' H' r' v s x h1 k
    cases k
    exact hQ _
theorem law_of {P : Program} {w : World} {W : Wd} {mg : Str → Option Value} {base : Heap} {k n : Nat} {g : FV} {f : Addr} {fd : FuncData} {ps : List Str} (F : FnOk P w W.K mg base (L2.CX P w) k f fd ps (spD W 1 g))
    (h : ∀ ns : List Int, ns.length ≤ n → ∃ st, g [.scr ns] [] = .ok (.bl true, st)) (hT : W.tabs = []) : FnOk P w W.K mg base (L2.CX P w) k f fd ps (spLaw n) :=
  (law_ofT (T := []) F h (by rw [hT]; intro p hp; cases hp)).imp fun vs H Q E ⟨a, o, ns, e, hH, hl, hQ⟩ => ⟨a, ns, e, .inl ⟨o, hH⟩, fun _ h => (by cases h), hl, hQ⟩
/-- no object of the written part is a list -/
def noList (K : PySem.W.Frag) : Prop := ∀ a o, K.lookup a = some o → o.cls ≠ .type "list"
theorem mem_of_look {A B : Type} [BEq A] [LawfulBEq A] {a : A} {b : B} : ∀ {l : List (A × B)}, l.lookup a = some b → (a, b) ∈ l
  | [], e => by simp at e
  | (x, y) :: l, e => by
    rw [List.lookup_cons] at e
    cases h : a == x with
    | true => rw [h] at e; cases e; rw [eq_of_beq h]; exact List.mem_cons_self
    | false => rw [h] at e; exact List.mem_cons_of_mem _ (mem_of_look e)
def noListB (K : PySem.W.Frag) : Bool := K.all fun p => match p.2.cls with
  | .type s => !(s == "list")
  | _ => true
theorem noList_of {K : PySem.W.Frag} (h : noListB K = true) : noList K := fun a o e z => by
  have m : (a, o) ∈ K := by
    exact mem_of_look e
  have q := List.all_eq_true.mp h _ m
  simp only at q
  rw [z] at q
  revert q
  decide +kernel
theorem law_walk {l : PySem.W.OpenLaw} {n k : Nat} {q : Program} {loose : List Str} {XP : (Str → Option Value) → Heap → Prop} {YP : World → Heap → Prop} {d : DefRec} {K : Params → PySem.W.Frag} {x : Str} (hn : l.most = some n) (hn2 : n ≤ sizeLine) (hdf : d.params.defaults = []) (hr : Room k callerA)
    (hL : ∀ w : World, noList (K w.params))
    (hY : ∀ (w : World) (h : Heap), YP w h → (K w.params).In h)
    (F : ∀ (w : World) (mg : Str → Option Value) (fa : Addr) (h : Heap), (K w.params).In h → h.Ns mainGlobals mg → mg d.name = some (.ref fa) →
      ∃ fd : FuncData, (∀ (s : Shared) (u : Value), BindsTo s fd ⟨[u], []⟩ [(x, u)]) ∧ ∀ base : Heap, (K w.params).In base → base.Ns mainGlobals mg → FnOk l.prog w (K w.params) mg base (L2.CX l.prog w) k fa fd [x] (spLaw n)) :
    PySem.W.WalkO q loose XP YP l.row.toRowW d [] (fun f vs => PySem.call f vs) :=
  L2.walk_of (n := n) (k := k) (x := x) (CX := fun w => L2.CX l.prog w) (sp := fun _ => spLaw n) hn hn2 hdf hr hY F (fun w H a ns hl hO hS => by
    rcases hS with hS | ⟨o, its, m, h1, h2, _⟩
    · rcases hS with hS | ⟨o, hS⟩
      · rcases hO a with z | ⟨o, xs, z⟩
        · rw [hS] at z; cases z
        · rw [hS] at z; cases z
      · exact ⟨a, o, ns, rfl, hS, hl, fun _ => rfl⟩
    · exact absurd h2 (hL w a o h1)) fun _ _ _ _ _ ⟨_, _, _, _, _, _, _, _, _, _, _, _, z⟩ => z
end Dl
namespace Dl
open PySem L2
/-- a class of the program under ValueError, without own __init__ -/
structure OwnEx (K : PySem.W.Frag) (mg : Str → Option Value) (x : Str) (C : Addr) : Prop where
  ex : PySem.W.excIn K C [.type "ValueError", .type "Exception", .type "BaseException", .type "object"] "ValueError.__new__" = true
  g : mg x = some (.ref C)
  k : PySem.W.keepIn K (.ref C) = true
  sb : PySem.W.subIn K (.ref C) (.type "BaseException") = some true
  ty : PySem.W.typeIn K (.ref C) = some (.type "type")
section
variable {W : Wd} {X : Cx} {E : XK}
def sRaise (c : Nat) : SV := fun _ st => .exc c none st
@[simp] theorem r_sRaise (c : Nat) (env : Env) (st : Store) : sRaise c env st = .exc c none st := (rfl)
theorem ds_raise {x m : Str} {c j : Nat} {p p2 pos pos2 : Pos} (hK : X.K = W.K) (hc : X.calm = true) (tk : Takes X fun cls d _ H => E cls d H) (o : OwnEx W.K X.mg x (W.cls c)) (hg : Gl X x) (hdb : (x == ("__debug__" : Str)) = false := by decide) :
    DS W X E (.Raise (some (.Call (.Name x p) [.Constant (.str m) j p2] [] pos)) none pos2) (sRaise c) := by
  refine .mk (ps_raise hc tk (pmk_own PySem.F.excBase_ValueError (by rw [hK]; exact o.ex) o.g (by rw [hK]; exact o.k) (raises_own (by rw [hK]; exact o.sb) (by rw [hK]; exact o.ty)) hg hdb)) fun Rs F H rr sg env st D hH hE hP => ?_
  exact hP F H rr none (Same.refl _) (Ext.refl _) hH rfl
/-- try: b / except ..: hb; what is raised is of the classes cs; n slots -/
def sTry (cs : List Nat) (n : Nat) (b hb : SV) : SV := fun env st => match b env st with
  | .exc c p st' => if c ∈ cs then hb (List.replicate n none) st' else .bad
  | .nx e s => .nx e s
  | .rt d s => .rt d s
  | .bk e s => .bk e s
  | .ct e s => .ct e s
  | .bad => .bad
@[simp] theorem r_sTry (cs : List Nat) (n : Nat) (b hb : SV) (env : Env) (st : Store) : sTry cs n b hb env st = match b env st with
  | .exc c p st' => if c ∈ cs then hb (List.replicate n none) st' else .bad
  | .nx e s => .nx e s
  | .rt d s => .rt d s
  | .bk e s => .bk e s
  | .ct e s => .ct e s
  | .bad => .bad := (rfl)
theorem takesN : Takes X (fun _ _ _ _ => False) := fun _ _ x => by
  obtain ⟨_, _, _, _, _, _, _, _, _, _, _, _, _, _, _, _, z⟩ := x
  exact z.elim
theorem ds_try {x : Str} {CG : Addr} {body suite : List Stmt} {b₀ : Stmt} {np pos pos' : Pos} {cs : List Nat} {n : Nat} {b hb : SV} (hK : X.K = W.K) (hs : X.stack = X.env :: X.outer) (hf : X.env.frame = some X.env.locals) (hn : X.N.length = n)
    (hc : Names X x (.ref CG)) (hcs : ∀ c ∈ cs, PySem.W.exmOne W.K (.ref (W.cls c)) (.ref CG) = some true)
    (hbd : ∀ (E1 : XK) (pn : List (Addr × Obj)) (xe : Value → Shared → Prop), Passes (L2.CX X.prog X.w) (X.tr pn xe) E1 → PassesOwn (model X.prog X.w) X.A X.env xe → DB W (X.tr pn xe) E1 body b)
    (hsu : ∀ (a : Addr) (oe : Obj) (pn : List (Addr × Obj)), DB W (X.suite a ((a, oe) :: pn)) E (b₀ :: suite) hb) :
    DS W X E (.Try body [.ExceptHandler (some (.Name x np)) none (b₀ :: suite) pos'] [] [] pos) (sTry cs n b hb) := by
  refine .mk (ps_try_only (tb := fun Wx D σ H => ∃ E1 : XK, (∀ cls d σ' H', σ'.length = n → E1 cls d H' → Wx cls d σ' H') ∧ tDB W E1 b D σ H) (ts := fun _ _ _ => tDB W E hb) hs hf hc takesN (fun Wx pn xe tk po => ?_) (fun a oe cls d pn _ _ => hsu a oe pn)) fun Rs F H rr sg env st D hH hE hP => ?_
  · refine ⟨fun pins s σ H D I h => ?_⟩
    obtain ⟨E1, hW, hD⟩ := h
    have hx : Passes (L2.CX X.prog X.w) (X.tr pn xe) E1 := fun pins σ H s e s' I c => tk e s' (XE.of_call I (fun cls d H' h => hW cls d σ H' (I.len.trans hn) h) c)
    exact (hbd E1 pn xe hx po).run pins s σ H D I hD
  · refine ⟨fun cls d H' => ∃ c ∈ cs, cls = .ref (W.cls c) ∧ ∃ Rs F r st', Holds W Rs F H' r st' ∧ PostS W Rs F r (hb (List.replicate n none) st') D E, fun cls d σ' H' hl he => ?_, ?_⟩
    · obtain ⟨c, hcc, rfl, Rs, F, r, st', h1, h2⟩ := he
      refine ⟨true, by rw [hK]; exact hcs c hcc, fun _ a _ => ⟨Rs, F, r, List.replicate n none, st', h1, ⟨by rw [List.length_replicate]; exact hl, fun i d e => ?_⟩, h2⟩, fun z => by cases z⟩
      rw [List.getElem?_replicate] at e
      split at e <;> cases e
    · refine ⟨Rs, F, rr, env, st, hH, hE, ?_⟩
      unfold sTry at hP
      cases eb : b env st with
      | exc c p st' =>
        rw [eb] at hP
        simp only at hP
        by_cases z : c ∈ cs
        · rw [if_pos z] at hP
          exact fun F' H' r' od s' x' h' _ => ⟨c, z, rfl, Rs, F', r', st', h', PostS.later s' x' hP⟩
        · rw [if_neg z] at hP
          exact hP.elim
      | nx e s => rw [eb] at hP; exact hP
      | rt d s => rw [eb] at hP; exact hP
      | bk e s => rw [eb] at hP; exact hP
      | ct e s => rw [eb] at hP; exact hP
      | bad => rw [eb] at hP; exact hP
end
section
variable {P : Program} {w : World} {mg : Str → Option Value} {base : Heap} {E : XK}
theorem takesD {qual : Str} {N : List Str} {sc : Scope} {f : Addr} {cd : Value} {A : Around} {outer : List PySem.Env} {s : Shared} {H : Hp} {K : PySem.W.Frag} : Takes (cxOf (L2.CX P w) P w K mg base N qual sc f cd A outer s H E) (fun cls d _ H => E cls d H) :=
  takes_of rfl rfl rfl rfl
end
end Dl
namespace Dl
open PySem L2
section
variable {W : Wd} {X : Cx} {E : XK}
def eLR (m : Bool) (f : EV) : EV := fun env st => (f env st).bind fun a => match a.1 with
  | .int n => if 0 ≤ n ∧ n ≤ 1000000 then newL m (intsD 0 n.toNat) a.2 else .bad
  | _ => .bad
@[simp] theorem r_eLR (m : Bool) (f : EV) (env : Env) (st : Store) : eLR m f env st = (f env st).bind fun a => match a.1 with
  | .int n => if 0 ≤ n ∧ n ≤ 1000000 then newL m (intsD 0 n.toNat) a.2 else .bad
  | _ => .bad := (rfl)
theorem reps_rg {F : Hp} {r : List Addr} (n : Int) : Reps F r (rgV 0 n) (intsD 0 n.toNat) := by
  unfold rgV intsD
  rw [Int.sub_zero]
  generalize List.range n.toNat = l
  induction l with
  | nil => exact .nil
  | cons i l ih => exact .cons (.int _) ih
theorem de_listRange (m : Bool) {e : Expr} {f : EV} {p p2 pos pos2 : Pos} (hc : X.calm = true) (hgl : Gl X "list") (hml : X.mg "list" = none) (hgr : Gl X "range") (hmr : X.mg "range" = none) (he : DE W X E e f)
    (na : starEach [e] X.env = (false, eval e X.env) :: starEach [] X.env := by rfl) (na2 : starEach [.Call (.Name "range" p2) [e] [] pos2] X.env = (false, eval (.Call (.Name "range" p2) [e] [] pos2) X.env) :: starEach [] X.env := by rfl) :
    DE W X E (.Call (.Name "list" p) [.Call (.Name "range" p2) [e] [] pos2] [] pos) (eLR m f) := by
  obtain ⟨t, pe, q⟩ := he.ex
  refine .mk (pe_listRg hc hgl hml (prg_1 hgr hmr pe na) na2) fun Rs F H rr sg env st Q hH hE hP => ?_
  refine q Rs F H rr sg env st _ hH hE (bindX hP fun a ea z F1 H1 r1 v1 s1 x1 h1 k1 => ?_)
  obtain ⟨d, st1⟩ := a
  cases k1 with
  | int n =>
    simp only at z
    split at z
    · rename_i hn
      refine ⟨n, rfl, RgOk.of_le (Int.le_refl 0) (by omega) (by omega) hn.1, fun q hq => ?_⟩
      exact newL_post h1 (reps_rg n) (Post.later s1 x1 z) hq
    · exact z.elim
  | _ => exact z.elim
end
end Dl
namespace Dl
open PySem PySem.Spec PyProof.Rows L2
/-- a lambda's text -/
structure LamD where
  q : Str
  params : Arguments
  body : PySem.Expr
  scope : Scope
/-- whatever it is: the object alone is known -/
def anyO : HO := .ext fun _ => True
/-- the cells that a lambda keeps, by name; what they hold -/
structure CellsAt (H : Hp) (N : List Str) (cl : List (Str × Addr)) (us : List Value) : Prop where
  at_ : ∀ (i : Nat) (y : Str), N[i]? = some y → ∃ c u o, cl.lookup y = some c ∧ us[i]? = some u ∧ H c = some (.frz o anyO) ∧ o.data = .cell (some u)
  all : ∀ y c, cl.lookup y = some c → y ∈ N
  mem : ∀ y c, (y, c) ∈ cl → cl.lookup y = some c
  inj : ∀ y z c, cl.lookup y = some c → cl.lookup z = some c → y = z
  len : us.length = N.length
/-- the lambda's names: captured ones alone, and globals -/
structure LamStat (N : List Str) (sc : Scope) : Prop where
  kind : sc.kind = .function
  co : sc.isCoroutine = false
  gen : sc.isGenerator = false
  own : ∀ y ∈ sc.names, y.2 ≠ .cell ∧ (y.2 = .local → y.1 ∉ N)
  free : ∀ y, sc.names.lookup y = some .free → y ∈ N
  nd : N.Nodup
abbrev lamE (ld : LamD) (cl : List (Str × Addr)) (L f c' : Addr) : PySem.Env := PySem.W.envX ld.q ld.scope L f (.ref c') cl
/-- the lambda's context, entered at s from X's frames -/
def LX (P : Program) (w : World) (K : PySem.W.Frag) (mg : Str → Option Value) (base : Heap) (A : Around) (stack : List PySem.Env) (N : List Str) (ld : LamD) (cl : List (Str × Addr)) (f c' : Addr) (s : Shared) (H : Hp) (E : XK) : Cx where
  prog := P
  w := w
  K := K
  mg := mg
  base := base
  A := A.deeper (lamE ld cl s.heap.objs.size f c')
  N := N
  s_0 := s
  H_0 := H
  env := lamE ld cl s.heap.objs.size f c'
  outer := stack
  stack := lamE ld cl s.heap.objs.size f c' :: stack
  ex := []
  fn := fun _ => false
  calm := true
  pn := []
  xe := fun e s' => wpAny (model P w) (A.deeper (lamE ld cl s.heap.objs.size f c')) (leaving (lamE ld cl s.heap.objs.size f c') e) (fun _ s'' => L2.CX P w stack H s E e s'') (fun e' s'' => L2.CX P w stack H s E e' s'') s'
/-- the body's meaning, wherever it runs -/
def BodyOk (P : Program) (w : World) (W : Wd) (mg : Str → Option Value) (base : Heap) (k : Nat) (ld : LamD) (N : List Str) (fb : EV) : Prop :=
  ∀ (A : Around) (stack : List PySem.Env) (s : Shared) (H : Hp) (E : XK) (f c' : Addr) (cl : List (Str × Addr)), Room k (A.deeper (lamE ld cl s.heap.objs.size f c')) → DE W (LX P w W.K mg base A stack N ld cl f c' s H E) E ld.body fb
/-- the default's tuple -/
def DvH (H : Hp) (dV : Value) (dv : List Value) : Prop := (dV = .none ∧ dv = []) ∨ dv ≠ [] ∧ ∃ T, dV = .ref T ∧ H T = some (.frz (PySem.W.kdv_tup dv) anyO)
theorem DvH.same {H H' : Hp} (s : Same H H') {dV : Value} {dv : List Value} : DvH H dV dv → DvH H' dV dv
  | .inl h => .inl h
  | .inr ⟨n, T, e, h⟩ => .inr ⟨n, T, e, s _ _ h⟩
/-- the lambda's function object, at f -/
def FnStd (H : Hp) (ld : LamD) (cl : List (Str × Addr)) (c' f : Addr) : Prop := ∃ (pm ctv doc dV : Value) (dv : List Value), dv.length = ld.params.defaults.length ∧ DvH H dV dv ∧
  H f = some (.frz (PySem.W.kdv_obj "<lambda>" ld.q ld.params (.expr ld.body) ld.scope cl dV doc pm c' ctv) anyO)
theorem FnStd.same {H H' : Hp} (s : Same H H') {ld : LamD} {cl : List (Str × Addr)} {c' f : Addr} : FnStd H ld cl c' f → FnStd H' ld cl c' f
  | ⟨pm, ctv, doc, dV, dv, h1, h2, h3⟩ => ⟨pm, ctv, doc, dV, dv, h1, h2.same s, s _ _ h3⟩
/-- no parameter need be given: all have a default -/
def Free0 (ld : LamD) : Prop := ∃ xs : List Str, (∀ y ∈ xs, ld.scope.names.lookup y = some .local) ∧ ∀ (s : Shared) (cl : List (Str × Addr)) (doc pm cv ctv dV : Value) (dv : List Value), dv.length = ld.params.defaults.length →
  ((dV = .none ∧ dv = []) ∨ dv ≠ [] ∧ ∃ T, dV = .ref T ∧ s.heap.get? T = some (PySem.W.kdv_tup dv)) → BindsTo s (PySem.W.kdv_fn "<lambda>" ld.q ld.params (.expr ld.body) ld.scope cl dV doc pm cv ctv) ⟨[], []⟩ (xs.zip dv)
end Dl
namespace Dl
open PySem PySem.Spec PyProof.Rows L2 PySem.W PySem.Calls
end Dl
namespace Dl
open PySem L2
/-- the class x at C, its __init__ at fI, its field f -/
structure PayEx (K : PySem.W.Frag) (mg : Str → Option Value) (x : Str) (C fI : Addr) (f : Str) : Prop where
  T : OexC K C
  iC : PySem.W.findIn K (.ref C) "__init__" = some (some (.ref fI))
  tI : PySem.W.typeIn K (.ref fI) = some (.type "function")
  no : PySem.W.findIn K (.ref C) f = some none
  g : mg x = some (.ref C)
/-- the class x at G, that has ValueError's __init__ -/
structure BaseEx (K : PySem.W.Frag) (mg : Str → Option Value) (x : Str) (G : Addr) : Prop where
  g : mg x = some (.ref G)
  sp : PySem.W.specialIn K (.ref G) "__getattribute__" = some (some (.builtin "type.__getattribute__"))
  rd : PySem.W.readsIn K G (.type "type") = true
  fc : PySem.W.findCls K (.ref G) (.type "type") "__init__" = some (.val (.builtin "ValueError.__init__"))
def spInit (K : PySem.W.Frag) (C : Addr) (f : Str) : Sp := fun vs H Q _ => ∃ (a : Addr) (v : V), vs = [.ref a, v] ∧ H a = some (exo a C none) ∧ ∀ dx, H dx = none → dx ≠ a → Q .non (upd (upd H dx (exd dx [(f, v)])) a (exo a C (some dx)))
section
variable {X : Cx} {x : Str} {G : Addr} {e : Expr} {es : List Expr} {ta : TA} {p1 p2 pos : Pos}
theorem pe_binit {pl : Sem Bool} (b : BaseEx X.K X.mg x G) (hg : Gl X x) (ha : PA X (e :: es) ta)
    (hc : eval (.Call (.Attribute (.Name x p1) "__init__" p2) (e :: es) [] pos) X.env = (do
      let ov ← eval (.Name x p1) X.env
      standAt p2.atName
      let (g, one) ← holding [ov] (getMethod ov "__init__" pl)
      callWith pos g one (backTo pos (starEach (e :: es) X.env)) (backToKw pos (keywordEach [] X.env))) := by rfl) (hdb : (x == ("__debug__" : Str)) = false := by decide) (he : starEach (e :: es) X.env = (false, eval e X.env) :: starEach es X.env := by rfl) (hpl : (backTo pos (starEach es X.env)).any (·.1) = false := by rfl) :
    PE X (.Call (.Attribute (.Name x p1) "__init__" p2) (e :: es) [] pos) (tVeI X.K ta) := by
  refine ⟨fun pins s0 σ H Q I h => PySem.W.methodCall_KW (ld_glob I hg b.g (PySem.W.method_cls I.kIn b.sp (PySem.W.cls_value I.kIn b.rd b.fc (by decide +kernel) ?_)) hdb) hc⟩
  have args : wpAny (model X.prog X.w) X.A (spliced (backTo pos (starEach (e :: es) X.env))) (fun us s1 => wpAny (model X.prog X.w) X.A (call (.builtin "ValueError.__init__") us) (EP X pins σ Q) X.xe s1) X.xe { s0 with toks := s0.toks + 1 } :=
    thn (ha.run pos pins _ σ H _ (I.tok _) h) fun us s1 ⟨vs, H1, I1, r1, a, C, ws, ev, hl, T, ea, q⟩ => by
      subst ev
      match us, r1 with
      | u :: ur, .cons ra rr => exact (show u = Value.ref a from ra) ▸ oinit_ok T I1 ea (by have n := rr.length; rw [PySem.sizeLine_eq]; omega) fun s2 J => ⟨.non, H1, J, rfl, q⟩
  exact PyProof.Rows.callWith_method1 args he hpl
end
section
variable {P : Program} {w : World} {W : Wd} {mg : Str → Option Value} {base : Heap}
/-- __init__(self, f): GrowError.__init__(self, text); self.f = f -/
theorem init_fn {s : Stmt} {x G : Str} {qual f : Str} {fI C : Addr} {GC : Addr} {fd : FuncData} {p1 p2 p3 p4 p5 p6 p7 p8 p9 p10 : Pos} {m : Str} {j : Nat} (F : Fun W.K "__init__" qual s fI fd) (S : FnScope ["self", f] ["self", f] (defScope s)) (b : BaseEx W.K mg G GC) (px : PayEx W.K mg x C fI f)
    (hb : defBody s = [.Expr (.Call (.Attribute (.Name G p1) "__init__" p2) [.Name "self" p3, .Constant (.str m) j p4] [] p5) p6, .Assign [.Attribute (.Name "self" p7) f p8] (.Name f p9) p10])
    (hgl : (defScope s).names.lookup G = some .globalImplicit) (hv0 : Vis (defScope s) "self") (hv1 : Vis (defScope s) f) (hdb : (G == ("__debug__" : Str)) = false := by decide) (hf1 : (f == ("__debug__" : Str)) = false := by decide) (hf2 : (f == ("__classdict__" : Str)) = false := by decide)
    (hc : ∀ env : PySem.Env, ∃ pl : Sem Bool, eval (.Call (.Attribute (.Name G p1) "__init__" p2) [.Name "self" p3, .Constant (.str m) j p4] [] p5) env = (do
      let ov ← eval (.Name G p1) env
      standAt p2.atName
      let (g, one) ← holding [ov] (getMethod ov "__init__" pl)
      callWith p5 g one (backTo p5 (starEach [.Name "self" p3, .Constant (.str m) j p4] env)) (backToKw p5 (keywordEach [] env))) := by intro env; exact ⟨_, rfl⟩) :
    FnOk P w W.K mg base (L2.CX P w) 1 fI fd ["self", f] (spInit W.K C f) := by
  refine F.okX S (fun vs H Q E h => ?_) (fun cdv A outer sh H vs Q E hr h => ?_)
  · obtain ⟨a, v, rfl, _⟩ := h
    rfl
  · obtain ⟨a, v, rfl, ha, hq⟩ := h
    rw [hb]
    obtain ⟨pl, hpl⟩ := hc (cxOf (L2.CX P w) P w W.K mg base ["self", f] qual (defScope s) fI cdv A outer sh H E).env
    have i1 := pe_binit (X := cxOf (L2.CX P w) P w W.K mg base ["self", f] qual (defScope s) fI cdv A outer sh H E) (x := G) (G := GC) (pl := pl) (pos := p5) b hgl (pa_cons (pe_var (i := 0) (pos := p3) rfl hv0) (pa_cons (pe_str (x := m) (pos := p4)) pa_nil)) hpl hdb
    have i2 := ps_ost (X := cxOf (L2.CX P w) P w W.K mg base ["self", f] qual (defScope s) fI cdv A outer sh H E) (f := f) (p' := p8) (pos := p10) (pe_var (i := 0) (pos := p7) rfl hv0) (pe_var (i := 1) (x := f) (pos := p9) rfl hv1 hf1 hf2)
    refine ⟨_, pss_cons (ps_expr i1) (pss_one i2), ?_⟩
    refine ⟨_, rfl, ⟨a, C, [.str m], rfl, by simp, px.T, ha, ?_⟩⟩
    refine ⟨v, rfl, .ref a, rfl, a, C, rfl, px.T, px.no, .inl ⟨ha, fun dx n ne => ?_⟩⟩
    exact hq dx n ne
end
section
variable {W : Wd} {X : Cx} {E : XK}
/-- raise C(i) -/
def sRaiseP (c : Nat) (f : EV) : SV := fun env st => sOf (f env st) fun a => match a.1 with
  | .int i => .exc c (some (.int i)) a.2
  | _ => .bad
@[simp] theorem r_sRaiseP (c : Nat) (f : EV) (env : Env) (st : Store) : sRaiseP c f env st = sOf (f env st) fun a => match a.1 with
  | .int i => .exc c (some (.int i)) a.2
  | _ => .bad := (rfl)
theorem ds_raiseP {x f : Str} {c : Nat} {fI : Addr} {fd : FuncData} {e : Expr} {fe : EV} {p pos pos2 : Pos} (hK : X.K = W.K) (hc : X.calm = true) (tk : Takes X fun cls d _ H => E cls d H) (px : PayEx W.K X.mg x (W.cls c) fI f)
    (F1 : FnOk X.prog X.w W.K X.mg X.base (L2.CX X.prog X.w) 1 fI fd ["self", f] (spInit W.K (W.cls c) f)) (hb : Binds W.K fd ["self", f] []) (hpay : W.pay c = some f) (hr : Room 2 X.A) (he : DE W X E e fe) (hg : Gl X x) (hdb : (x == ("__debug__" : Str)) = false := by decide)
    (hst : starEach [e] X.env = (false, eval e X.env) :: starEach [] X.env := by rfl) (hpl : (backTo pos (starEach [] X.env)).any (·.1) = false := by rfl) :
    DS W X E (.Raise (some (.Call (.Name x p) [e] [] pos)) none pos2) (sRaiseP c fe) := by
  obtain ⟨te, pe, qe⟩ := he.ex
  refine .mk (ps_raise hc tk (pmk_oex (CX := L2.CX X.prog X.w) (k := 1) (by rw [hK]; exact px.T) (by rw [hK]; exact px.iC) (by rw [hK]; exact px.tI) (by rw [hK]; exact F1) hr (by rw [hK]; exact hb) .nil (passes_call tk fun _ _ _ _ z => z.elim) hg px.g (pa_cons pe pa_nil (hs := hst)) hdb hst hpl)) fun Rs F H rr sg env st D hH hE hP => ?_
  unfold sRaiseP sOf at hP
  refine qe Rs F H rr sg env st _ hH hE ?_
  cases ef : fe env st with
  | bad => rw [ef] at hP; exact hP.elim
  | exc c' p' st' => rw [ef] at hP; exact hP
  | ok b =>
    rw [ef] at hP
    obtain ⟨d, st1⟩ := b
    intro F1 H1 r1 v s1 x1 h1 k1
    cases k1 with
    | int i =>
      refine ⟨by simp, fun a ha => ⟨a, .int i, rfl, upd_same, fun dx hdx ne => ?_⟩⟩
      have hdn : H1 dx = none := by rw [upd_ne ne] at hdx; exact hdx
      refine ⟨rfl, dx, [(f, .int i)], upd_same, by rw [upd_ne ne, upd_same], hdn, ?_⟩
      have eH : upd (del (upd (upd (upd H1 a (exo a (W.cls c) none)) dx (exd dx [(f, V.int i)])) a (exo a (W.cls c) (some dx))) a) dx (.xd [(f, V.int i)]) = upd H1 dx (.xd [(f, V.int i)]) := by
        funext b
        by_cases h : b = dx
        · rw [h, upd_same, upd_same]
        · rw [upd_ne h, upd_ne h]
          by_cases h2 : b = a
          · rw [h2, del_same, ha]
          · rw [del_ne h2, upd_ne h2, upd_ne h, upd_ne h2]
      rw [eH]
      obtain ⟨s2, h2⟩ := h1.frozen (o := .xd [(f, V.int i)]) hdn
      exact hP _ _ r1 (some dx) (s1.trans s2) x1 h2 ⟨f, dx, i, hpay, rfl, upd_same, rfl⟩
    | _ => exact hP.elim
end
end Dl
namespace Dl
open PySem L2
/-- a lambda that stands aside; what it keeps -/
structure ClosR (P : Program) (w : World) (W : Wd) (mg : Str → Option Value) (base : Heap) (k : Nat) (Rs F : Hp) (r : List Addr) (fb : EV) (caps : List D) (f : Addr) : Prop where
  ex : ∃ (ld : LamD) (N : List Str) (cl : List (Str × Addr)) (c' : Addr) (us : List Value) (vs : List V), BodyOk P w W mg base k ld N fb ∧ Free0 ld ∧ LamStat N ld.scope ∧ FnStd Rs ld cl c' f ∧
    (Rs c' = some (LamX.CodeO c' ld.q) ∨ F c' = some (LamX.CodeO c' ld.q)) ∧ CellsAt Rs N cl us ∧ Vals vs us ∧ Reps F r vs caps
theorem ClosR.mono {P : Program} {w : World} {W : Wd} {mg : Str → Option Value} {base : Heap} {k : Nat} {Rs F F' : Hp} {r r' : List Addr} {fb : EV} {caps : List D} {f : Addr} (c : ClosR P w W mg base k Rs F r fb caps f) (s : Same F F') (x : Ext r r') : ClosR P w W mg base k Rs F' r' fb caps f := by
  obtain ⟨ld, N, cl, c', us, vs, h1, h2, h3, h4, h5, h6, h7, h8⟩ := c.ex
  exact ⟨ld, N, cl, c', us, vs, h1, h2, h3, h4, h5.imp id (s _ _), h6, h7, h8.mono s x⟩
/-- the cells stay what they are -/
theorem CellsAt.same {Rs H : Hp} {N : List Str} {cl : List (Str × Addr)} {us : List Value} (c : CellsAt Rs N cl us) (s : Same Rs H) : CellsAt H N cl us :=
  ⟨fun i y e => let ⟨c2, u, o, h1, h2, h3, h4⟩ := c.at_ i y e; ⟨c2, u, o, h1, h2, s _ _ h3, h4⟩, c.all, c.mem, c.inj, c.len⟩
/-- isinstance(e, ..): e in slot i, as the suite holds it -/
def eIsX (a : Nat) (o : Option (Nat × Str × Int)) (i : Nat) (b : Bool) : EV := fun env st => match env[i]? with
  | some (some (.exn a' o')) => if a' = a ∧ o' = o then .ok (.bl b, st) else .bad
  | _ => .bad
/-- e.f -/
def eXf (a : Nat) (o : Option (Nat × Str × Int)) (i : Nat) (f : Str) : EV := fun env st => match env[i]? with
  | some (some (.exn a' o')) => if a' = a ∧ o' = o then (match o with
    | some (_, g, k) => if g = f then .ok (.int k, st) else .bad
    | none => .bad) else .bad
  | _ => .bad
@[simp] theorem r_eIsX (a : Nat) (o : Option (Nat × Str × Int)) (i : Nat) (b : Bool) (env : Env) (st : Store) : eIsX a o i b env st = match env[i]? with
  | some (some (.exn a' o')) => if a' = a ∧ o' = o then .ok (.bl b, st) else .bad
  | _ => .bad := (rfl)
@[simp] theorem r_eXf (a : Nat) (o : Option (Nat × Str × Int)) (i : Nat) (f : Str) (env : Env) (st : Store) : eXf a o i f env st = match env[i]? with
  | some (some (.exn a' o')) => if a' = a ∧ o' = o then (match o with
    | some (_, g, k) => if g = f then .ok (.int k, st) else .bad
    | none => .bad) else .bad
  | _ => .bad := (rfl)
def toldR (cs : List Nat) (hm : Nat → Option D → Store → R (D × Store)) (res : R (D × Store)) : R (D × Store) := match res with
  | .ok a => .ok a
  | .exc c p st => if c ∈ cs then hm c p st else .bad
  | .bad => .bad
@[simp] theorem told_ok (cs : List Nat) (hm : Nat → Option D → Store → R (D × Store)) (a : D × Store) : toldR cs hm (.ok a) = .ok a := (rfl)
@[simp] theorem told_exc (cs : List Nat) (hm : Nat → Option D → Store → R (D × Store)) (c : Nat) (p : Option D) (st : Store) : toldR cs hm (.exc c p st) = if c ∈ cs then hm c p st else .bad := (rfl)
@[simp] theorem told_bad0 (cs : List Nat) (hm : Nat → Option D → Store → R (D × Store)) : toldR cs hm .bad = .bad := (rfl)
end Dl
namespace Dl
open PySem L2
/-- all are told alike -/
def allR (ga : FV) (cs : List Nat) (hm : Nat → Option D → Store → R (D × Store)) (due : D) : List (EV × List D) → Store → R (D × Store)
  | [], st => .ok (.bl true, st)
  | w :: ws, st => (noX (toldR cs hm (w.1 (w.2.map some) st))).bind fun a => (noX (ga [a.1, due] a.2)).bind fun b => match b.1 with
    | .bl true => allR ga cs hm due ws b.2
    | _ => .bad
@[simp] theorem allR_nil (ga : FV) (cs : List Nat) (hm : Nat → Option D → Store → R (D × Store)) (due : D) (st : Store) : allR ga cs hm due [] st = .ok (.bl true, st) := (rfl)
@[simp] theorem allR_cons (ga : FV) (cs : List Nat) (hm : Nat → Option D → Store → R (D × Store)) (due : D) (w : EV × List D) (ws : List (EV × List D)) (st : Store) : allR ga cs hm due (w :: ws) st = (noX (toldR cs hm (w.1 (w.2.map some) st))).bind fun a => (noX (ga [a.1, due] a.2)).bind fun b => match b.1 with
    | .bl true => allR ga cs hm due ws b.2
    | _ => .bad := (rfl)
end Dl
namespace Dl
open PySem PySem.Spec L2
/-- a lambda of X's own, made: what stands aside of it -/
def MadeAt (Rs F : Hp) (ld : LamD) (cl : List (Str × Addr)) (f : Addr) : Prop := ∃ (c' : Addr), FnStd Rs ld cl c' f ∧ (Rs c' = some (LamX.CodeO c' ld.q) ∨ F c' = some (LamX.CodeO c' ld.q))
theorem MadeAt.mono {Rs Rs' F F' : Hp} {ld : LamD} {cl : List (Str × Addr)} {f : Addr} (m : MadeAt Rs F ld cl f) (s : Same Rs Rs') (s' : Same F F') : MadeAt Rs' F' ld cl f := by
  obtain ⟨c', h1, h2⟩ := m
  exact ⟨c', h1.same s, h2.imp (s _ _) (s' _ _)⟩
end Dl
namespace Dl
open PySem PySem.Spec L2
/-- what slots hold -/
def capsD (env : Env) : List Nat → Option (List D)
  | [] => some []
  | j :: js => match env[j]? with
    | some (some d) => (capsD env js).map (d :: ·)
    | _ => none
@[simp] theorem capsD_nil (env : Env) : capsD env [] = some [] := (rfl)
@[simp] theorem capsD_cons (env : Env) (j : Nat) (js : List Nat) : capsD env (j :: js) = match env[j]? with
    | some (some d) => (capsD env js).map (d :: ·)
    | _ => none := (rfl)
end Dl
namespace Dl
open PySem PySem.Spec L2
/-- a lambda as it's written, and its meaning -/
structure LamW where
  ld : LamD
  pos : Pos
  N : List Str
  sl : List Nat
  fb : EV
def LamW.ex (l : LamW) : PySem.Expr := .Lambda l.ld.params l.ld.body l.ld.scope l.pos
/-- the lambdas' meanings with what they keep -/
def capsAll (env : Env) : List (List Nat × EV) → Option (List (EV × List D))
  | [] => some []
  | l :: ls => match capsD env l.1 with
    | some ds => (capsAll env ls).map ((l.2, ds) :: ·)
    | none => none
@[simp] theorem capsAll_nil (env : Env) : capsAll env [] = some [] := (rfl)
@[simp] theorem capsAll_cons (env : Env) (l : List Nat × EV) (ls : List (List Nat × EV)) : capsAll env (l :: ls) = match capsD env l.1 with
    | some ds => (capsAll env ls).map ((l.2, ds) :: ·)
    | none => none := (rfl)
def eAll (ga : FV) (cs : List Nat) (hm : Nat → Option D → Store → R (D × Store)) (ls : List (List Nat × EV)) (f2 : EV) : EV := fun env st => (f2 env st).bind fun a => match capsAll env ls with
  | some ws => allR ga cs hm a.1 ws a.2
  | none => .bad
@[simp] theorem r_eAll (ga : FV) (cs : List Nat) (hm : Nat → Option D → Store → R (D × Store)) (ls : List (List Nat × EV)) (f2 : EV) (env : Env) (st : Store) : eAll ga cs hm ls f2 env st = (f2 env st).bind fun a => match capsAll env ls with
  | some ws => allR ga cs hm a.1 ws a.2
  | none => .bad := (rfl)
def eTold (cs : List Nat) (hm : Nat → Option D → Store → R (D × Store)) (sl : List Nat) (fb : EV) : EV := fun env st => match capsD env sl with
  | some ds => noX (toldR cs hm (fb (ds.map some) st))
  | none => .bad
@[simp] theorem r_eTold (cs : List Nat) (hm : Nat → Option D → Store → R (D × Store)) (sl : List Nat) (fb : EV) (env : Env) (st : Store) : eTold cs hm sl fb env st = match capsD env sl with
  | some ds => noX (toldR cs hm (fb (ds.map some) st))
  | none => .bad := (rfl)
section
variable {W : Wd} {X : Cx} {E : XK}
theorem PA.imp {es : List PySem.Expr} {t t' : TA} (h : PA X es t) (k : ∀ σ H Q, t' σ H Q → t σ H Q) : PA X es t' := ⟨fun pos pins s σ H Q I q => h.run pos pins s σ H Q I (k _ _ _ q)⟩
end
end Dl
namespace Dl
open PySem PySem.Spec L2
section
variable {P : Program} {w : World} {W : Wd} {mg : Str → Option Value} {base : Heap} {X : Cx} {E : XK}
/-- the class x, made with a number -/
structure IniX (P : Program) (w : World) (W : Wd) (mg : Str → Option Value) (base : Heap) (x : Str) (c : Nat) (f : Str) : Prop where
  ex : ∃ fI fd, PayEx W.K mg x (W.cls c) fI f ∧ FnOk P w W.K mg base (L2.CX P w) 1 fI fd ["self", f] (spInit W.K (W.cls c) f) ∧ Binds W.K fd ["self", f] [] ∧ W.pay c = some f
theorem draiseP {x f : Str} {c j : Nat} {e : PySem.Expr} {fe : EV} {p pos pos2 : Pos} (i : IniX X.prog X.w W X.mg X.base x c f) (hr : Room j X.A) (he : DE W X E e fe) (tk : Takes X fun cls d _ H => E cls d H) (hK : X.K = W.K := by rfl) (hc : X.calm = true := by rfl) (hj : 2 ≤ j := by decide) (hg : Gl X x := by rfl) (hdb : (x == ("__debug__" : Str)) = false := by decide)
    (hst : starEach [e] X.env = (false, eval e X.env) :: starEach [] X.env := by rfl) (hpl : (backTo pos (starEach [] X.env)).any (·.1) = false := by rfl) :
    DS W X E (.Raise (some (.Call (.Name x p) [e] [] pos)) none pos2) (sRaiseP c fe) := by
  obtain ⟨fI, fd, px, F, hb, hp⟩ := i.ex
  exact ds_raiseP hK hc tk px F hb hp (hr.mono hj) he hg hdb hst hpl
end
end Dl
namespace Dl
open PySem L2
end Dl
namespace Dl
open PySem PySem.Spec PyProof.Rows L2
end Dl
namespace Dl
open PySem L2
def ljustL (s : List Nat) (i : Int) : List Nat := s ++ List.replicate (i.toNat - s.length) 32
def ljustG : GM := fun st o ds => match o, ds with
  | .str s, [.int i] => if -1000000 ≤ i ∧ i ≤ 1000000 then .ok (.str (ljustL s i), st) else .bad
  | _, _ => .bad
theorem ljust_mk (s : List Nat) (i : Int) : Txt.ljust ⟨s.toArray⟩ i = ⟨(ljustL s i).toArray⟩ := by
  have hl : (⟨s.toArray⟩ : Str).length = s.length := by simp [Str.length]
  unfold Txt.ljust ljustL
  rw [hl]
  by_cases h : i ≤ s.length
  · rw [if_pos h, show i.toNat - s.length = 0 by omega]
    simp
  · rw [if_neg h]
    unfold Builtin.Str.padded
    congr 1
    apply Array.ext'
    simp
section
variable {W : Wd} {X : Cx} {E : XK}
theorem dm_ljust : DM W X "str.ljust" ljustG := ⟨_, mt_ljust, fun Rs F H rr st v d vs ds Q E h ko k hP => by
  unfold ljustG at hP
  split at hP
  · rename_i s i
    match k with
    | .cons k .nil =>
      cases k
      split at hP
      · rename_i hi
        cases ko with
        | str s hs hsl =>
          have ok : PadOk i = true := by
            unfold PadOk fitsSsize Builtin.Str.tooLong
            have h1 : ¬ i < -(2 ^ 63 : Int) := by omega
            have h2 : ¬ i ≥ (2 ^ 63 : Int) := by omega
            have h3 : ¬ i.toNat > sizeLine := by rw [sizeLine_eq]; omega
            simp [h1, h2, h3]
            omega
          refine ⟨_, i, rfl, rfl, ok, ?_⟩
          rw [ljust_mk]
          refine onE_here h (.str _ ?_ ?_) hP
          · unfold ljustL
            rw [List.all_append, hs, Bool.true_and, List.all_eq_true]
            intro c hc
            rw [(List.mem_replicate.mp hc).2]; decide
          · unfold ljustL LIM at *
            rw [List.length_append, List.length_replicate]
            omega
      · exact hP.elim
  · exact hP.elim⟩
end
end Dl
namespace Dl
open PySem PySem.Spec PySem.Builtin.Str L2
/-- what stands behind the first signs of p -/
def lcut (p : Nat → Bool) (s : List Nat) : List Nat := s.drop (s.takeWhile p).length
def rcut (p : Nat → Bool) (s : List Nat) : List Nat := s.take (s.length - (s.reverse.takeWhile p).length)
def rstripL (t s : List Nat) : List Nat := rcut (fun c => t.contains c) s
def rstripG : GM := fun st o ds => match o, ds with
  | .str s, [.str t] => .ok (.str (rstripL t s), st)
  | _, _ => .bad
theorem has_mk (t : List Nat) : (⟨t.toArray⟩ : Str).cps.contains = fun c => t.contains c := by
  funext c
  simp
theorem sub_mk (s : List Nat) (i j : Nat) : strSub ⟨s.toArray⟩ i j = ⟨((s.drop i).take (j - i)).toArray⟩ := TL.ext_tl (by
  show (strSub ⟨s.toArray⟩ i j).cps.toList = _
  simp [strSub, TL.tl])
theorem rstrip_mk (s t : List Nat) : Txt.rstripChars ⟨s.toArray⟩ ⟨t.toArray⟩ = ⟨(rstripL t s).toArray⟩ := by
  unfold Txt.rstripChars
  rw [PyProof.Rows.stripBy_eq, has_mk, sub_mk]
  unfold stripLo stripHi rstripL rcut
  rw [len_mk]
  rfl
theorem rcut_sub (p : Nat → Bool) (s : List Nat) : ∀ c ∈ rcut p s, c ∈ s := fun c h => List.mem_of_mem_take h
theorem rcut_len (p : Nat → Bool) (s : List Nat) : (rcut p s).length ≤ s.length := by unfold rcut; rw [List.length_take]; omega
section
variable {W : Wd} {X : Cx} {E : XK}
theorem dm_rstrip : DM W X "str.rstrip" rstripG := ⟨_, mt_rstripChars, fun Rs F H rr st v d vs ds Q E h ko k hP => by
  unfold rstripG at hP
  split at hP
  · rename_i s t
    match k with
    | .cons (.str _ _ _) .nil =>
      cases ko with
      | str s hs hsl =>
        refine ⟨_, _, rfl, rfl, by rw [len_mk]; exact lim_line hsl, ?_⟩
        rw [rstrip_mk]
        refine onE_here h (.str _ ?_ ?_) hP
        · exact List.all_eq_true.mpr fun c hc => List.all_eq_true.mp hs c (rcut_sub _ _ c hc)
        · exact Nat.le_trans (rcut_len _ _) hsl
  · exact hP.elim⟩
end
end Dl
namespace Dl
open PySem PySem.Spec L2
section
variable {W : Wd} {X : Cx} {E : XK}
/-- lambdas at these places -/
def MadesAt (X : Cx) (Rs F : Hp) (ls : List LamW) (fs : List Addr) : Prop := fs.length = ls.length ∧ ∀ (i : Nat) (l : LamW) (f : Addr), ls[i]? = some l → fs[i]? = some f → MadeAt Rs F l.ld (cloFrom X.env.cells l.ld.scope.names []) f
theorem MadesAt.mono {Rs Rs' F F' : Hp} {ls : List LamW} {fs : List Addr} (s : Same Rs Rs') (s' : Same F F') (m : MadesAt X Rs F ls fs) : MadesAt X Rs' F' ls fs := ⟨m.1, fun i l f e1 e2 => (m.2 i l f e1 e2).mono s s'⟩
theorem MadesAt.app {Rs F : Hp} {ls ls' : List LamW} {fs fs' : List Addr} (m : MadesAt X Rs F ls fs) (m' : MadesAt X Rs F ls' fs') : MadesAt X Rs F (ls ++ ls') (fs ++ fs') := by
  refine ⟨by simp [m.1, m'.1], fun i l f e1 e2 => ?_⟩
  by_cases h : i < ls.length
  · rw [List.getElem?_append_left h] at e1
    rw [List.getElem?_append_left (by rw [m.1]; exact h)] at e2
    exact m.2 i l f e1 e2
  · rw [List.getElem?_append_right (by omega)] at e1
    rw [List.getElem?_append_right (by rw [m.1]; omega), m.1] at e2
    exact m'.2 _ l f e1 e2
/-- x = [lambda: .., ..]; if not g(x .., e): a / else: b; .. -/
def sLams (i : Nat) (f : SV) : SV := fun env st => f (env.set i none) st
@[simp] theorem r_sLams (i : Nat) (f : SV) (env : Env) (st : Store) : sLams i f env st = f (env.set i none) st := (rfl)
end
end Dl
namespace Dl
open PySem PySem.Spec PyProof.Rows L2
end Dl
namespace Dl
open PySem L2
section
variable {κ : Type} [DecidableEq κ]
/-- what stands at a key -/
def valK (kvs : List (κ × D)) (k : κ) : Option D := (kvs.find? fun kv => decide (kv.1 = k)).map (·.2)
/-- a key's new value, at the old place or at the end -/
def putKD (kvs : List (κ × D)) (k : κ) (v : D) : List (κ × D) :=
  if kvs.any (fun kv => decide (kv.1 = k)) then kvs.map (fun kv => if kv.1 = k then (kv.1, v) else kv) else kvs ++ [(k, v)]
theorem valK_cons (p : κ × D) (r : List (κ × D)) (k : κ) : valK (p :: r) k = if p.1 = k then some p.2 else valK r k := by
  by_cases h : p.1 = k <;> simp [valK, List.find?_cons, h]
theorem valK_repl (k j : κ) (y : D) : ∀ kvs : List (κ × D), valK (kvs.map fun kv => if kv.1 = k then (kv.1, y) else kv) j = (valK kvs j).map fun x => if j = k then y else x
  | [] => rfl
  | p :: r => by
    rw [List.map_cons, valK_cons, valK_cons, valK_repl k j y r]
    by_cases h : p.1 = k
    · by_cases h2 : p.1 = j
      · have : j = k := h2.symm.trans h
        simp [h, this]
      · have : ¬ k = j := fun z => h2 (h.trans z)
        simp [h, this]
    · by_cases h2 : p.1 = j
      · have : ¬ j = k := fun z => h (h2.trans z)
        simp [h2, this]
      · simp [h, h2]
theorem valK_app (k j : κ) (y : D) : ∀ kvs : List (κ × D), valK (kvs ++ [(k, y)]) j = match valK kvs j with
    | some x => some x
    | none => if k = j then some y else none
  | [] => by rw [List.nil_append, valK_cons]; rfl
  | p :: r => by
    rw [List.cons_append, valK_cons, valK_cons, valK_app k j y r]
    by_cases h : p.1 = j <;> simp [h]
theorem valK_any (k : κ) : ∀ kvs : List (κ × D), kvs.any (fun kv => decide (kv.1 = k)) = (valK kvs k).isSome
  | [] => rfl
  | p :: r => by
    rw [List.any_cons, valK_any k r, valK_cons]
    by_cases h : p.1 = k <;> simp [h]
theorem valK_put (kvs : List (κ × D)) (k j : κ) (y : D) : valK (putKD kvs k y) j = if j = k then some y else valK kvs j := by
  unfold putKD
  rw [valK_any]
  cases h : valK kvs k with
  | some x =>
    simp only [Option.isSome_some, if_true]
    rw [valK_repl]
    by_cases z : j = k
    · subst z; simp [h]
    · simp [z]
  | none =>
    simp only [Option.isSome_none, Bool.false_eq_true, if_false]
    rw [valK_app]
    by_cases z : j = k
    · subst z; simp [h]
    · rw [if_neg z, if_neg (Ne.symm z)]
      cases valK kvs j <;> rfl
theorem putKD_len (kvs : List (κ × D)) (k : κ) (v : D) : (putKD kvs k v).length ≤ kvs.length + 1 := by
  unfold putKD
  split <;> simp
section
variable {F : Hp} {r : List Addr}
theorem KVr.val {k : κ} {d : D} : ∀ {vs : List (κ × V)} {kvs : List (κ × D)}, KVr F r vs kvs → valK kvs k = some d → ∃ v, valV vs k = some v ∧ Rep F r v d
  | [], [], _, e => by cases e
  | (f, v) :: vs, (g, d') :: kvs, ⟨e, h, q⟩, z => by
    subst e
    rw [valK_cons] at z
    by_cases hk : f = k
    · rw [if_pos hk] at z
      cases z
      exact ⟨v, valV_pos hk, h⟩
    · rw [if_neg hk] at z
      rw [valV_neg hk]
      exact KVr.val q z
  | [], _ :: _, h, _ => h.elim
  | _ :: _, [], h, _ => h.elim
theorem KVr.valN {k : κ} : ∀ {vs : List (κ × V)} {kvs : List (κ × D)}, KVr F r vs kvs → valK kvs k = none → valV vs k = none
  | [], [], _, _ => rfl
  | (f, v) :: vs, (g, d') :: kvs, ⟨e, h, q⟩, z => by
    subst e
    rw [valK_cons] at z
    by_cases hk : f = k
    · rw [if_pos hk] at z; cases z
    · rw [if_neg hk] at z
      rw [valV_neg hk]
      exact KVr.valN q z
  | [], _ :: _, h, _ => h.elim
  | _ :: _, [], h, _ => h.elim
/-- what is looked up, and its data -/
def RelK (F : Hp) (r : List Addr) : Option D → Option V → Prop
  | none, ov => ov = none
  | some d, ov => ∃ v, ov = some v ∧ Rep F r v d
theorem KVr.rel {k : κ} {vs : List (κ × V)} {kvs : List (κ × D)} (h : KVr F r vs kvs) : RelK F r (valK kvs k) (valV vs k) := by
  cases e : valK kvs k with
  | none => exact h.valN e
  | some d => exact h.val e
theorem KVr.any {k : κ} : ∀ {vs : List (κ × V)} {kvs : List (κ × D)}, KVr F r vs kvs → vs.any (fun kv => decide (kv.1 = k)) = kvs.any (fun kv => decide (kv.1 = k))
  | [], [], _ => rfl
  | (f, v) :: vs, (g, d') :: kvs, ⟨e, h, q⟩ => by
    subst e
    rw [List.any_cons, List.any_cons, KVr.any q]
  | [], _ :: _, h => h.elim
  | _ :: _, [], h => h.elim
theorem KVr.len : ∀ {vs : List (κ × V)} {kvs : List (κ × D)}, KVr F r vs kvs → vs.length = kvs.length
  | [], [], _ => rfl
  | (f, v) :: vs, (g, d') :: kvs, ⟨_, _, q⟩ => by simp [KVr.len q]
  | [], _ :: _, h => h.elim
  | _ :: _, [], h => h.elim
theorem KVr.repl {k : κ} {w : V} {e : D} (hw : Rep F r w e) : ∀ {vs : List (κ × V)} {kvs : List (κ × D)}, KVr F r vs kvs → KVr F r (vs.map fun kv => if kv.1 = k then (kv.1, w) else kv) (kvs.map fun kv => if kv.1 = k then (kv.1, e) else kv)
  | [], [], _ => trivial
  | (f, v) :: vs, (g, d') :: kvs, ⟨z, h, q⟩ => by
    subst z
    rw [List.map_cons, List.map_cons]
    by_cases hk : f = k
    · simp only [hk, if_true]
      exact ⟨rfl, hw, KVr.repl hw q⟩
    · simp only [hk, if_false]
      exact ⟨rfl, h, KVr.repl hw q⟩
  | [], _ :: _, h => h.elim
  | _ :: _, [], h => h.elim
theorem KVr.snoc {k : κ} {w : V} {e : D} (hw : Rep F r w e) : ∀ {vs : List (κ × V)} {kvs : List (κ × D)}, KVr F r vs kvs → KVr F r (vs ++ [(k, w)]) (kvs ++ [(k, e)])
  | [], [], _ => ⟨rfl, hw, trivial⟩
  | (f, v) :: vs, (g, d') :: kvs, ⟨z, h, q⟩ => ⟨z, h, KVr.snoc hw q⟩
  | [], _ :: _, h => h.elim
  | _ :: _, [], h => h.elim
theorem KVr.put {k : κ} {w : V} {e : D} (hw : Rep F r w e) {vs : List (κ × V)} {kvs : List (κ × D)} (h : KVr F r vs kvs) : KVr F r (putK vs k w) (putKD kvs k e) := by
  unfold putK putKD
  rw [h.any]
  split
  · exact h.repl hw
  · exact h.snoc hw
end
end
def keysOf : List D → Option (List L2.Key)
  | [] => some []
  | .int i :: ds => (keysOf ds).map (Sum.inl i :: ·)
  | .str s :: ds => (keysOf ds).map (Sum.inr ⟨s.toArray⟩ :: ·)
  | _ => none
@[simp] theorem keysOf_nil : keysOf [] = some [] := rfl
@[simp] theorem keysOf_int (i : Int) (ds : List D) : keysOf (.int i :: ds) = (keysOf ds).map (Sum.inl i :: ·) := rfl
@[simp] theorem keysOf_str (s : List Nat) (ds : List D) : keysOf (.str s :: ds) = (keysOf ds).map (Sum.inr ⟨s.toArray⟩ :: ·) := rfl
theorem keysOf_ok {F : Hp} {r : List Addr} : ∀ {ds : List D} {vs : List V} {ks : List L2.Key}, Reps F r vs ds → keysOf ds = some ks → vs = ks.map kV
  | [], _, _, .nil, e => by cases e; rfl
  | .int i :: ds, _, ks, .cons h t, e => by
    rw [keysOf_int] at e
    cases q : keysOf ds with
    | none => rw [q] at e; cases e
    | some ks' =>
      rw [q] at e; cases e
      cases h
      rw [keysOf_ok t q]; rfl
  | .str s :: ds, _, ks, .cons h t, e => by
    rw [keysOf_str] at e
    cases q : keysOf ds with
    | none => rw [q] at e; cases e
    | some ks' =>
      rw [q] at e; cases e
      cases h
      rw [keysOf_ok t q]; rfl
  | .non :: ds, _, ks, _, e => by cases e
  | .bl _ :: ds, _, ks, _, e => by cases e
  | .tup _ :: ds, _, ks, _, e => by cases e
  | .lst _ :: ds, _, ks, _, e => by cases e
  | .ref _ :: ds, _, ks, _, e => by cases e
  | .scr _ :: ds, _, ks, _, e => by cases e
  | .exn _ _ :: ds, _, ks, _, e => by cases e
/-- what the dict d holds at the key e; none where no word is said -/
def dvalG (st : Store) (d e : D) : Option (Option D) := match d with
  | .ref n => match st[n]? with
    | some (.dT kvs) => match e with
      | .tup ks => (keysOf ks).map (valK kvs)
      | _ => none
    | some (.dK kvs) => match e with
      | .int i => some (valK kvs (.inl i))
      | .str s => some (valK kvs (.inr ⟨s.toArray⟩))
      | _ => none
    | _ => none
  | _ => none
theorem dval_ok {W : Wd} {Rs F H : Hp} {r : List Addr} {st : Store} {x y : V} {dx dy : D} {o : Option D} (h : Holds W Rs F H r st) (kx : Rep F r x dx) (ky : Rep F r y dy) (e : dvalG st dx dy = some o) :
    ∃ a ov, x = .ref a ∧ DGet H a y ov ∧ RelK F r o ov := by
  cases kx with
  | @ref a n q =>
    unfold dvalG at e
    simp only at e
    split at e
    · rename_i kvs e1
      obtain ⟨vs, h1, k1⟩ := h.ob n a _ q e1
      cases ky with
      | @tup b vs2 ds qb kb =>
        simp only at e
        cases e2 : keysOf ds with
        | none => rw [e2] at e; cases e
        | some ks =>
          rw [e2] at e
          cases e
          have e3 := keysOf_ok kb e2
          subst e3
          exact ⟨a, _, rfl, DGet.t h1 (h.sF _ _ qb), k1.rel⟩
      | _ => cases e
    · rename_i kvs e1
      obtain ⟨vs, h1, k1⟩ := h.ob n a _ q e1
      cases ky with
      | int i =>
        cases e
        exact ⟨a, _, rfl, DGet.k (k := .inl i) h1, k1.rel⟩
      | str s hs hl =>
        cases e
        exact ⟨a, _, rfl, DGet.k (k := .inr ⟨s.toArray⟩) h1, k1.rel⟩
      | _ => cases e
    · cases e
  | _ => cases e
section
variable {W : Wd} {X : Cx} {E : XK}
theorem hu_of {j : Nat} {A : Around} (hr : Room j A) : A.units + 1 < cLine := by
  have := hr.units
  omega
def dgetG : G2 := fun st d e => match dvalG st d e with
  | some (some v) => .ok (v, st)
  | _ => .bad
theorem de_dget {a b : Expr} {fa fb : EV} {pos : Pos} (hu : X.A.units + 1 < cLine) (ha : DE W X E a fa) (hb : DE W X E b fb) (hs : NoSl b) : DE W X E (.Subscript a b pos) (eOp dgetG fa fb) := by
  obtain ⟨ta, pa, qa⟩ := ha.ex
  obtain ⟨tb, pb, qb⟩ := hb.ex
  refine .mk (pe_dget hu pa pb hs) fun Rs F H rr sg env st Q hH hE hP => eOp_post (rd := fun x y H Q => ∃ a v, x = .ref a ∧ DGet H a y (some v) ∧ Q v H) qa qb ?_ hH hE hP
  intro Rs F H rr st x y dx dy Q E h kx ky hP
  unfold dgetG at hP
  cases e : dvalG st dx dy with
  | none => rw [e] at hP; exact hP.elim
  | some o =>
    rw [e] at hP
    cases o with
    | none => exact hP.elim
    | some d =>
      obtain ⟨a, ov, rfl, g, v, rfl, k⟩ := dval_ok h kx ky e
      exact ⟨a, v, rfl, g, onE_here h k hP⟩
def dsetG : SetV := fun st o i v => match o with
  | .ref n => match st[n]? with
    | some (.dT kvs) => match i with
      | .tup ks => match keysOf ks with
        | some k => if kvs.length < LIM then some (st.set n (.dT (putKD kvs k v))) else none
        | none => none
      | _ => none
    | some (.dK kvs) => match i with
      | .int j => if kvs.length < LIM then some (st.set n (.dK (putKD kvs (.inl j) v))) else none
      | .str s => if kvs.length < LIM then some (st.set n (.dK (putKD kvs (.inr ⟨s.toArray⟩) v))) else none
      | _ => none
    | _ => none
  | _ => none
def rDPut : V → V → V → Hp → (Hp → Prop) → Prop := fun o i v H Q => ∃ a H', o = .ref a ∧ DPut H a i v H' ∧ Q H'
theorem set_dictD (hu : X.A.units + 1 < cLine) : PSet X rDPut := by
  intro pins s σ H o i v ov iv u Q I ro ri rv h
  obtain ⟨a, H', rfl, g, q⟩ := h
  obtain rfl : ov = Value.ref a := ro
  exact d_setItem hu I g ri rv fun s' I' => ⟨H', I', q⟩
theorem lim_size {n : Nat} (h : n < LIM) : n < sizeLine := Nat.lt_of_lt_of_le h (lim_line (Nat.le_refl _))
theorem dset_dict (hu : X.A.units + 1 < cLine) : DSet W X dsetG := ⟨_, set_dictD hu, fun Rs F H r st o i v dO di dv N hH ko ki kv st' e hN => by
  cases ko with
  | @ref a n q =>
    unfold dsetG at e
    simp only at e
    split at e
    · rename_i kvs e1
      obtain ⟨vs, h1, k1⟩ := hH.ob n a _ q e1
      cases ki with
      | @tup b vs2 ds qb kb =>
        simp only at e
        cases e2 : keysOf ds with
        | none => rw [e2] at e; cases e
        | some ks =>
          rw [e2] at e
          simp only at e
          split at e
          · rename_i hl
            cases e
            have e3 := keysOf_ok kb e2
            subst e3
            exact ⟨a, _, rfl, DPut.t h1 (hH.sF _ _ qb) (by rw [k1.len]; exact lim_size hl), hN _ (hH.write q ⟨_, upd_same, k1.put kv⟩)⟩
          · cases e
      | _ => cases e
    · rename_i kvs e1
      obtain ⟨vs, h1, k1⟩ := hH.ob n a _ q e1
      cases ki with
      | int j =>
        simp only at e
        split at e
        · rename_i hl
          cases e
          exact ⟨a, _, rfl, DPut.k (k := .inl j) h1 (by rw [k1.len]; exact lim_size hl), hN _ (hH.write q ⟨_, upd_same, k1.put kv⟩)⟩
        · cases e
      | str s hs hl0 =>
        simp only at e
        split at e
        · rename_i hl
          cases e
          exact ⟨a, _, rfl, DPut.k (k := .inr ⟨s.toArray⟩) h1 (by rw [k1.len]; exact lim_size hl), hN _ (hH.write q ⟨_, upd_same, k1.put kv⟩)⟩
        · cases e
      | _ => cases e
    · cases e
  | _ => cases e⟩
def eDictT : EV := fun _ st => .ok (.ref st.length, st ++ [.dT []])
def eDictK : EV := fun _ st => .ok (.ref st.length, st ++ [.dK []])
@[simp] theorem r_eDictT (env : Env) (st : Store) : eDictT env st = .ok (.ref st.length, st ++ [.dT []]) := (rfl)
@[simp] theorem r_eDictK (env : Env) (st : Store) : eDictK env st = .ok (.ref st.length, st ++ [.dK []]) := (rfl)
theorem new_at {Rs F H : Hp} {r : List Addr} {st : Store} {p : Addr} {o : HO} {b : Ob} {Q : VK} (hH : Holds W Rs F H r st) (hp : H p = none) (k : ObOk W F (r ++ [p]) (upd H p o) p b) (h : onE W Rs F r Q (.ref st.length, st ++ [b])) : Q (.ref p) (upd H p o) :=
  h F _ _ _ (Same.refl _) (Ext.snoc _ _) (hH.fresh hp k) (.ref (by rw [← hH.len]; simp))
theorem de_dictT {pos : Pos} : DE W X E (.Dict [] [] pos) eDictT :=
  .mk pe_dnewT fun Rs F H r sg env st Q hH hE hP p hp => new_at (b := .dT []) hH hp ⟨[], upd_same, trivial⟩ hP
theorem de_dictK {pos : Pos} : DE W X E (.Dict [] [] pos) eDictK :=
  .mk pe_dnewK fun Rs F H r sg env st Q hH hE hP p hp => new_at (b := .dK []) hH hp ⟨[], upd_same, trivial⟩ hP
end
end Dl
namespace Dl
open PySem PySem.Spec PyProof.Rows L2
/-- a tuple and a list, as they stand at each turn, in new pairs -/
def ItM (K : PySem.W.Frag) (a b : Addr) : It where
  go i H := ∃ xs ys : List V, ∃ x y : V, (SqT K H a xs ∧ SqL K H b ys) ∧ xs[i]? = some x ∧ ys[i]? = some y
  yld i H v H' := ∃ T : Addr, ∃ x y : V, (v = .ref T ∧ H T = none ∧ H' = upd H T (.tup [x, y])) ∧ (∀ xs, SqT K H a xs → xs[i]? = some x) ∧ (∀ ys, SqL K H b ys → ys[i]? = some y)
  stop i H := ∃ xs ys : List V, (SqT K H a xs ∧ SqL K H b ys) ∧ (xs.length ≤ i ∨ ys.length ≤ i)
section
variable {prog : Program} {w : World} {A : Around}
/-- a tuple's walk that is at its end -/
theorem overT (hh : A.handled = none) (it t : Addr) (zs : Array Value) (i : Nat) (h : zs.size ≤ i) (P : Nat → Value → Prop) : Draws prog w A it [it, t] i P (fun j hp => (hp.IsTupleIter it t j ∧ hp.IsTuple t zs) ∧ i ≤ j) where
  live _ _ q := by obtain ⟨⟨⟨o, e, _⟩, _⟩, _⟩ := q; exact ⟨o, e⟩
  frame _ _ _ q k := ⟨⟨q.1.1.at (k it (by simp)), q.1.2.at (k t (by simp))⟩, q.2⟩
  item j _ _ _ hj q _ := absurd q.2 (Nat.not_le.mpr hj)
  done _ _ _ q hE := wpAny_nextOf_tuple_end hh q.1.1 q.1.2 (Array.getElem?_eq_none h) hE
/-- a list's walk that is at its end -/
theorem overL (hh : A.handled = none) (it t : Addr) (zs : Array Value) (i : Nat) (h : zs.size ≤ i) (P : Nat → Value → Prop) : Draws prog w A it [it, t] i P (fun j hp => (hp.IsListIter it t j ∧ hp.IsList t zs) ∧ i ≤ j) where
  live _ _ q := by obtain ⟨⟨⟨o, e, _⟩, _⟩, _⟩ := q; exact ⟨o, e⟩
  frame _ _ _ q k := ⟨⟨q.1.1.at (k it (by simp)), q.1.2.at (k t (by simp))⟩, q.2⟩
  item j _ _ _ hj q _ := absurd q.2 (Nat.not_le.mpr hj)
  done _ _ _ q hE := wpAny_nextOf_list_end hh q.1.1 q.1.2 (Array.getElem?_eq_none h) hE
end
theorem nin {x a b : Addr} (h : x ≠ a) (k : x ≠ b) : x ∉ [a, b] := by simp [h, k]
theorem sepM {z TI TO i1 i2 a b : Addr} (D : ZipApart z TI TO i1 i2 a b) : ZipSep2 z TI TO i1 i2 [i1, a] [i2, b] :=
  ⟨D.TIz, D.TOz, D.TITO, D.TIi1, List.mem_cons_self, nin D.i1z.symm D.l1z.symm, nin D.TOi1 D.l1TO.symm, D.TIi2, List.mem_cons_self, nin D.i2z.symm D.l2z.symm, nin D.TOi2 D.l2TO.symm, nin D.i12 D.l2i1.symm, nin D.i12.symm D.l1i2.symm⟩
theorem turn_M {P : Program} {w : World} {K : PySem.W.Frag} {es : List Expr} {n : Nat} {tp : Pos} {a b z TI TO i1 i2 : Addr} (D : ZipApart z TI TO i1 i2 a b) :
    Turn P w K (.Tuple es n tp) (ItM K a b) [z, TI, TO, i1, i2] z (fun i hp => (IsZip hp z TI TO .none ∧ IsPair hp TI (.ref i1) (.ref i2) ∧ ∃ x y, IsPair hp TO x y) ∧ hp.IsTupleIter i1 a i ∧ hp.IsListIter i2 b i) where
  mem := List.mem_cons_self
  obj i hp st c hc := by
    obtain ⟨⟨k1, k2, x, y, k3⟩, ⟨o1, e1, _, d1⟩, o2, e2, _, d2⟩ := st
    simp only [List.mem_cons, List.not_mem_nil, or_false] at hc
    rcases hc with rfl | rfl | rfl | rfl | rfl
    · exact ⟨_, k1, fun _ u => nomatch u⟩
    · exact ⟨_, k2, fun _ u => nomatch u⟩
    · exact ⟨_, k3, fun _ u => nomatch u⟩
    · refine ⟨o1, e1, fun v u => ?_⟩
      rw [d1] at u; cases u
    · refine ⟨o2, e2, fun v u => ?_⟩
      rw [d2] at u; cases u
  keep i hp hp' st k := by
    obtain ⟨⟨k1, k2, x, y, k3⟩, k4, k5⟩ := st
    exact ⟨⟨k z (by simp) _ k1, k TI (by simp) _ k2, x, y, k TO (by simp) _ k3⟩, k4.at (k i1 (by simp)), k5.at (k i2 (by simp))⟩
  item X e1 e2 e3 hcalm i pins s sg H E I fp st gg := by
    subst e1 e2 e3
    obtain ⟨⟨k1, k2, x0, y0, k3⟩, k4, k5⟩ := st
    obtain ⟨xs, ys, x, y, ⟨sx, sy⟩, hx, hy⟩ := gg
    obtain ⟨ts, rt, pt, _⟩ := I.tuple sx
    obtain ⟨ls, rl, pl, _⟩ := I.list sy
    obtain ⟨u, hu, ru⟩ := rt.get hx
    obtain ⟨v, hv, rv⟩ := rl.get hy
    have in1 : i < ts.toArray.size := by simpa using (List.getElem?_eq_some_iff.mp hu).1
    have in2 : i < ls.toArray.size := by simpa using (List.getElem?_eq_some_iff.mp hv).1
    have zs : z < s.heap.objs.size := Heap.lt_size k1
    have hh : X.A.in1.handled = none := I.ok.hd hcalm
    refine wpAny_pyNext_zipD2_item (sepM D) (Draws.tuple (A := X.A.in1) hh i1 a D.l1i1 ts.toArray) (Draws.list (A := X.A.in1) hh i2 b D.l2i2 ls.toArray) k1 k2 k3 ⟨k4, pt⟩ ⟨k5, pl.isList⟩ in1 in2 fun u' v' hp' tk q1 q2 z1 TO1 t1 t2 nT nsz old => ?_
    have hu' : u' = u := by
      have : ts[i]? = some u' := by simpa using q1
      rw [hu] at this; exact (Option.some.inj this).symm
    have hv' : v' = v := by
      have : ls[i]? = some v' := by simpa using q2
      rw [hv] at this; exact (Option.some.inj this).symm
    subst hu' hv'
    refine ⟨_, rfl, wpAny_letOwnedTupleGo_zip (s := { s with heap := hp', toks := tk }) z1 fun hp'' z2 sb => ?_⟩
    have zne : s.heap.objs.size ≠ z := Nat.ne_of_gt zs
    have at'' : hp''.get? s.heap.objs.size = some { cls := .type "tuple", data := .seq #[u', v'] } := (sb.2 _ zne).trans nT
    have two : (2 : Nat) ≤ sizeLine := by decide
    have ok : ObjOk X.prog X.w (upd H s.heap.objs.size (.tup [x, y])) hp'' s.heap.objs.size (.tup [x, y]) := ⟨two, [u', v'], .cons ru (.cons rv .nil), _, at'', rfl, _, rfl⟩
    have J := I.turnedNew (t' := tk) (ch := [z, TI, TO, i1, i2]) (h' := hp'') (fun c o nc e => by
      simp only [List.mem_cons, List.not_mem_nil, or_false, not_or] at nc
      exact (sb.2 c nc.1).trans (old c o nc.1 nc.2.2.1 nc.2.2.2.1 nc.2.2.2.2 e)) fp (Nat.le_refl _) ok
    have up : ∀ (c : Addr) (o : Obj), c ≠ z → hp'.get? c = some o → hp''.get? c = some o := fun c o nc e => (sb.2 c nc).trans e
    refine ⟨.ref s.heap.objs.size, _, J, rfl, ⟨_, x, y, ⟨rfl, I.hok.fresh (Nat.le_refl _), rfl⟩, fun l hl => ?_, fun l hl => ?_⟩, ⟨⟨z2, up _ _ D.TIz (old _ _ D.TIz D.TITO D.TIi1 D.TIi2 k2), u', v', up _ _ D.TOz TO1⟩, t1.1.at fun o e => up _ o D.i1z e, t2.1.at fun o e => up _ o D.i2z e⟩, fun c hc => ?_⟩
    · rw [I.tuple_inj hl sx]; exact hx
    · rw [I.list_inj hl sy]; exact hy
    · have below : c < s.heap.objs.size := by
        simp only [List.mem_cons, List.not_mem_nil, or_false] at hc
        rcases hc with rfl | rfl | rfl | rfl | rfl
        · exact zs
        · exact Heap.lt_size k2
        · exact Heap.lt_size k3
        · obtain ⟨_, e, _⟩ := k4; exact Heap.lt_size e
        · obtain ⟨_, e, _⟩ := k5; exact Heap.lt_size e
      rw [upd_ne (Nat.ne_of_lt below)]
      exact (fp c hc).1
  done X e1 e2 e3 hcalm i pins s sg H E I fp st gg := by
    subst e1 e2 e3
    obtain ⟨⟨k1, k2, x0, y0, k3⟩, k4, k5⟩ := st
    obtain ⟨xs, ys, ⟨sx, sy⟩, hend⟩ := gg
    obtain ⟨ts, rt, pt, _⟩ := I.tuple sx
    obtain ⟨ls, rl, pl, _⟩ := I.list sy
    have n1 := rt.length
    have n2 := rl.length
    have hh : X.A.in1.handled = none := I.ok.hd hcalm
    have fin : ∀ (hp' : Heap) (tk : Nat), (∀ c o, c ≠ z → c ≠ TO → c ≠ i1 → c ≠ i2 → s.heap.get? c = some o → hp'.get? c = some o) → (none : Option Value) = none ∧ Inv X pins sg H { s with heap := hp', toks := tk } := fun hp' tk old =>
      ⟨rfl, I.turnedL (t' := tk) (ch := [z, TI, TO, i1, i2]) (fun c o nc e => by
        simp only [List.mem_cons, List.not_mem_nil, or_false, not_or] at nc
        exact old c o nc.1 nc.2.2.1 nc.2.2.2.1 nc.2.2.2.2 e) fp⟩
    by_cases c1 : xs.length ≤ i
    · have D1 := overT (prog := X.prog) (w := X.w) (A := X.A.in1) hh i1 a ts.toArray i (by simp; omega) fun _ _ => True
      by_cases c2 : ys.length ≤ i
      · exact wpAny_pyNext_zipD2_end (sepM D) D1 (overL (A := X.A.in1) hh i2 b ls.toArray i (by simp; omega) fun _ _ => True) k1 k2 k3 ⟨⟨k4, pt⟩, Nat.le_refl _⟩ ⟨⟨k5, pl.isList⟩, Nat.le_refl _⟩ (Nat.le_refl _) (Nat.le_refl _) (.inl rfl) fin
      · exact wpAny_pyNext_zipD2_end (sepM D) D1 (Draws.list (A := X.A.in1) hh i2 b D.l2i2 ls.toArray) k1 k2 k3 ⟨⟨k4, pt⟩, Nat.le_refl _⟩ ⟨k5, pl.isList⟩ (Nat.le_refl _) (by simp; omega) (.inl rfl) fin
    · have c2 : ys.length ≤ i := hend.resolve_left c1
      exact wpAny_pyNext_zipD2_end (sepM D) (Draws.tuple (A := X.A.in1) hh i1 a D.l1i1 ts.toArray) (overL (A := X.A.in1) hh i2 b ls.toArray i (by simp; omega) fun _ _ => True) k1 k2 k3 ⟨k4, pt⟩ ⟨⟨k5, pl.isList⟩, Nat.le_refl _⟩ (by simp; omega) (Nat.le_refl _) (.inr rfl) fin
  self A i s Q E st h := wpAny_pyIter_zip st.1.1 h
def iZpT (K : PySem.W.Frag) (t : TA) : TI := fun sg H Rr => t sg H fun vs H1 => ∃ a b : Addr, ∃ xs ys : List V, vs = [.ref a, .ref b] ∧ (SqT K H1 a xs ∧ SqL K H1 b ys) ∧ Rr (ItM K a b) H1
theorem pi_zipM {X : Cx} {e e2 : Expr} {t : TA} {p pos tpos : Pos} {es : List Expr} {n : Nat} (hg : Gl X "zip") (hm : X.mg "zip" = none) (ha : PA X [e, e2] t)
    (hs : starEach [e, e2] X.env = (false, eval e X.env) :: starEach [e2] X.env := by rfl) (hpl : (backTo pos (starEach [e2] X.env)).any (·.1) = false := by rfl) :
    PI X (.Tuple es n tpos) (.Call (.Name "zip" p) [e, e2] [] pos) (iZpT X.K t) := by
  constructor
  intro pins s sg H Rr I h
  refine Call_ (ld_blt I hg hm PyProof.Rows.boot_zip (PyProof.Rows.callWith_type1 (thn (ha.run pos pins s sg H _ I h) fun us s1 hus => ?_) hs hpl))
  obtain ⟨vs, H1, I1, r1, a, b, xs, ys, rfl, ⟨sx, sy⟩, q⟩ := hus
  match r1 with
  | .cons ra (.cons rb .nil) =>
    cases ra
    cases rb
    obtain ⟨ts, rt, pt, _⟩ := I1.tuple sx
    obtain ⟨ls, rl, pl, _⟩ := I1.list sy
    have ba : a < s1.heap.objs.size := by obtain ⟨_, e, _⟩ := id pt; exact Heap.lt_size e
    refine zip_begins2 (begins_tuple a ts.toArray) (begins_list b ls.toArray) pt pl.isList fun hp' z1 T1 O1 o1 o2 sz old => wpAny_pyIter_zip z1 ?_
    have I2 : Inv X pins sg H1 { s1 with heap := hp' } := I1.kept (t' := s1.toks) old
    refine ⟨_, _, _, _, H1, rfl, I2, turn_M (PySem.W.ktu_apart s1.heap.objs.size a b ba pl.lt), ⟨⟨z1, T1, _, _, O1⟩, ⟨_, o1, rfl, rfl⟩, _, o2, rfl, rfl⟩, fun c hc => ?_, q⟩
    have ge : s1.heap.objs.size ≤ c := by
      simp only [List.mem_cons, List.not_mem_nil, or_false] at hc
      rcases hc with rfl | rfl | rfl | rfl | rfl <;> omega
    exact I1.fpOk ge (I1.hok.fresh ge)
section
variable {W : Wd} {X : Cx} {E : XK}
theorem drv_zipM {K : PySem.W.Frag} {F0 : Hp} {r0 : List Addr} {a b : Addr} {us : List V} {ds : List D} {w' : Wk} (h : F0 a = some (.tup us)) (hk : Reps F0 r0 us ds)
    (h' : ∀ Rs F H r st, Same F0 F → Ext r0 r → Holds W Rs F H r st → still w'.2 st = true → ∃ vs, H b = some (.lst vs) ∧ Reps F r vs w'.1) : Drv W F0 r0 (ItM K a b) (zipUp ds w'.1, w'.2) := fun i Rs F H r st s x hH hst => by
  have k1 := hk.mono s x
  have h1 : SqT K H a us := .of (hH.sF _ _ (s _ _ h))
  obtain ⟨ws, h2, k2⟩ := h' Rs F H r st s x hH hst
  refine ⟨fun d e => ?_, fun hl => ⟨us, ws, ⟨h1, .of h2⟩, ?_⟩⟩
  · obtain ⟨d1, d2, e1, e2, rfl⟩ := zipUp_at e
    obtain ⟨v1, f1, m1⟩ := k1.get e1
    obtain ⟨v2, f2, m2⟩ := k2.get e2
    refine ⟨⟨us, ws, v1, v2, ⟨h1, .of h2⟩, f1, f2⟩, fun y H' yl => ?_⟩
    obtain ⟨T, z1, z2, ⟨rfl, hT, rfl⟩, yl1, yl2⟩ := yl
    have q1 := yl1 us h1
    have q2 := yl2 ws (.of h2)
    rw [f1] at q1; cases q1
    rw [f2] at q2; cases q2
    obtain ⟨s1, h3⟩ := hH.frozen (o := .tup [v1, v2]) hT
    exact ⟨_, s1, h3, .tup upd_same (.cons (m1.mono s1 (Ext.refl _)) (.cons (m2.mono s1 (Ext.refl _)) .nil))⟩
  · rw [zipUp_len] at hl
    rw [k1.length, k2.length]
    omega
/-- zip of a tuple and a list -/
def iZm (g : AV) : IV := fun env st => (g env st).bind fun a => match a.1 with
  | [.tup ds, e] => match listOf a.2 e with
    | some w' => .ok ((zipUp ds w'.1, w'.2), a.2)
    | none => .bad
  | _ => .bad
theorem di_zipM {e e2 : Expr} {g : AV} {p pos tpos : Pos} {elts : List Expr} {kk : Nat} (hg : Gl X "zip") (hm : X.mg "zip" = none) (ha : DA W X E [e, e2] g)
    (hs : starEach [e, e2] X.env = (false, eval e X.env) :: starEach [e2] X.env := by rfl) (hpl : (backTo pos (starEach [e2] X.env)).any (·.1) = false := by rfl) :
    DI W X E (.Tuple elts kk tpos) (.Call (.Name "zip" p) [e, e2] [] pos) (iZm g) := by
  obtain ⟨t, pa, q⟩ := ha.ex
  refine ⟨_, pi_zipM hg hm pa hs hpl, fun Rs F H r sg env st Q hH hE hP => ?_⟩
  refine q Rs F H r sg env st _ hH hE (bindX hP fun a ea z F1 H1 r1 vs s1 x1 h1 k1 => ?_)
  obtain ⟨ds, st1⟩ := a
  simp only at z
  split at z
  · split at z
    · rename_i us e w' e2
      match k1 with
      | .cons k (.cons k' .nil) =>
        obtain ⟨b, rfl, ⟨ws, h3, k3⟩, hh'⟩ := listOf_ok h1 k' e2
        cases k with
        | tup f kk => exact ⟨_, b, _, ws, rfl, ⟨.of (h1.sF _ _ f), .of h3⟩, z _ F1 H1 r1 s1 x1 h1 (drv_zipM f kk hh')⟩
    · exact z.elim
  · exact z.elim
end
end Dl
namespace Dl
open PySem L2
section
variable {W : Wd} {X : Cx} {E : XK}
/-- o.f = .. -/
def gFldD (c : Nat) (f : Str) (fo : EV) : GV := fun d env st => (fo env st).bind fun o => match o.1 with
  | .ref i => match o.2[i]? with
    | some (.ins c' fs) => if c' = c ∧ fs.length < 900 then .ok (env, o.2.set i (.ins c' (putD f d fs))) else .bad
    | _ => .bad
  | _ => .bad
@[simp] theorem r_gFldD (c : Nat) (f : Str) (fo : EV) (d : D) (env : Env) (st : Store) : gFldD c f fo d env st = (fo env st).bind fun o => match o.1 with
  | .ref i => match o.2[i]? with
    | some (.ins c' fs) => if c' = c ∧ fs.length < 900 then .ok (env, o.2.set i (.ins c' (putD f d fs))) else .bad
    | _ => .bad
  | _ => .bad := (rfl)
end
end Dl
namespace PySem
open Sem (wp)
open AutoSeq1 (wpAny_loadPart')
end PySem
namespace Dl
open PySem PySem.Spec PyProof.Rows L2
section
variable {W : Wd} {X : Cx} {E : XK}
/-- enumerate of a tuple -/
def iEnT (g : AV) : IV := fun env st => (g env st).bind fun a => match a.1 with
  | [.tup ds] => .ok ((pairUp ds, []), a.2)
  | _ => .bad
@[simp] theorem r_iEnT (g : AV) (env : Env) (st : Store) : iEnT g env st = (g env st).bind fun a => match a.1 with
  | [.tup ds] => .ok ((pairUp ds, []), a.2)
  | _ => .bad := (rfl)
end
end Dl
namespace Dl
open PySem L2
def isDct (st : Store) : D → Bool
  | .ref n => match st[n]? with
    | some (.dT _) => true
    | some (.dK _) => true
    | _ => false
  | _ => false
theorem isDct_ok {W : Wd} {Rs F H : Hp} {r : List Addr} {st : Store} {x : V} {dx : D} (h : Holds W Rs F H r st) (kx : Rep F r x dx) (e : isDct st dx = true) : ∃ a, x = .ref a ∧ IsD H a := by
  cases kx with
  | @ref a n q =>
    unfold isDct at e
    simp only at e
    split at e
    · rename_i kvs e1
      obtain ⟨vs, h1, _⟩ := h.ob n a _ q e1
      exact ⟨a, rfl, .inr ⟨vs, .inl h1⟩⟩
    · rename_i kvs e1
      obtain ⟨vs, h1, _⟩ := h.ob n a _ q e1
      exact ⟨a, rfl, .inl ⟨vs, .inl h1⟩⟩
    · cases e
  | _ => cases e
/-- d.get(k, x) -/
def eGet2 (fo fk fx : EV) : EV := fun env st => (fo env st).bind fun o => if isDct o.2 o.1 = true then (fk env o.2).bind fun k => (fx env k.2).bind fun x => match dvalG x.2 o.1 k.1 with
  | some v => .ok (v.getD x.1, x.2)
  | none => .bad else .bad
@[simp] theorem r_eGet2 (fo fk fx : EV) (env : Env) (st : Store) : eGet2 fo fk fx env st = (fo env st).bind fun o => if isDct o.2 o.1 = true then (fk env o.2).bind fun k => (fx env k.2).bind fun x => match dvalG x.2 o.1 k.1 with
  | some v => .ok (v.getD x.1, x.2)
  | none => .bad else .bad := (rfl)
theorem de_get2 {W : Wd} {X : Cx} {E : XK} {o k x : Expr} {fo fk fx : EV} {apos cpos : Pos} (hu : X.A.units + 1 < cLine) (ho : DE W X E o fo) (hk : DE W X E k fk) (hx : DE W X E x fx) (m : M2 X o "get" apos k x cpos) : DE W X E (.Call (.Attribute o "get" apos) [k, x] [] cpos) (eGet2 fo fk fx) := by
  obtain ⟨t1, p1, q1⟩ := ho.ex
  obtain ⟨t2, p2, q2⟩ := hk.ex
  obtain ⟨t3, p3, q3⟩ := hx.ex
  refine .mk (pe_dget2 hu p1 p2 p3 m) fun Rs F H r sg env st Q hH hE hP => ?_
  refine q1 Rs F H r sg env st _ hH hE (bindX hP fun a ea z F1 H1 r1 v1 s1 x1 h1 k1 => ?_)
  split at z
  · rename_i hd
    obtain ⟨ad, rfl, isd⟩ := isDct_ok h1 k1 hd
    refine ⟨ad, rfl, isd, ?_⟩
    refine q2 Rs F1 H1 r1 sg env a.2 _ h1 (hE.mono s1 x1) (bindX (Post.later s1 x1 (res := (fk env a.2).bind _) z) fun b eb z2 F2 H2 r2 v2 s2 x2 h2 k2 => ?_)
    refine q3 Rs F2 H2 r2 sg env b.2 _ h2 (hE.mono (s1.trans s2) (x1.trans x2)) (bindX (Post.later s2 x2 (res := (fx env b.2).bind _) z2) fun c ec z3 F3 H3 r3 v3 s3 x3 h3 k3 => ?_)
    replace z3 := Post.later s3 x3 z3
    cases e : dvalG c.2 a.1 b.1 with
    | none => rw [e] at z3; exact z3.elim
    | some ov =>
      rw [e] at z3
      obtain ⟨a', ov', e1, g, kk⟩ := dval_ok h3 (k1.mono (s2.trans s3) (x2.trans x3)) (k2.mono s3 x3) e
      cases e1
      refine ⟨ov', g, ?_⟩
      cases ov with
      | none =>
        obtain rfl : ov' = none := kk
        exact onE_here h3 k3 z3
      | some d =>
        obtain ⟨v, rfl, kv⟩ := kk
        exact onE_here h3 kv z3
  · exact z.elim
end Dl
namespace Dl
open PySem L2
mutual
def D.toQ : D → PyData
  | .non => .none
  | .bl b => .bool b
  | .int i => .int i
  | .str s => .str ⟨s.toArray⟩
  | .tup ds => .tuple (D.toQs ds)
  | .lst ds => .list (D.toQs ds)
  | .ref _ => .none
  | .scr _ => .none
  | .exn _ _ => .none
def D.toQs : List D → List PyData
  | [] => []
  | d :: ds => D.toQ d :: D.toQs ds
end
mutual
/-- no reference, no truth value -/
def D.pl : D → Bool
  | .bl _ => false
  | .tup ds => D.pls ds
  | .lst ds => D.pls ds
  | .ref _ => false
  | .scr _ => false
  | .exn _ _ => false
  | _ => true
def D.pls : List D → Bool
  | [] => true
  | d :: ds => D.pl d && D.pls ds
end
mutual
def D.dp : D → Nat
  | .tup ds => D.dps ds + 1
  | .lst ds => D.dps ds + 1
  | _ => 1
def D.dps : List D → Nat
  | [] => 0
  | d :: ds => max (D.dp d) (D.dps ds)
end
theorem pls_iff : ∀ {ds : List D}, D.pls ds = true ↔ ∀ d ∈ ds, D.pl d = true
  | [] => by simp [D.pls]
  | d :: ds => by simp [D.pls, pls_iff (ds := ds)]
theorem dps_le {n : Nat} : ∀ {ds : List D}, D.dps ds ≤ n ↔ ∀ d ∈ ds, D.dp d ≤ n
  | [] => by simp [D.dps]
  | d :: ds => by simp [D.dps, Nat.max_le, dps_le (ds := ds)]
mutual
theorem toP_pl {st : Store} : ∀ (n : Nat) (d : D), D.pl d = true → D.dp d ≤ n → toP st n d = some (D.toQ d)
  | 0, d, _, h => by cases d <;> simp [D.dp] at h
  | n + 1, .non, _, _ => rfl
  | n + 1, .bl _, h, _ => by simp [D.pl] at h
  | n + 1, .int _, _, _ => rfl
  | n + 1, .str _, _, _ => rfl
  | n + 1, .tup ds, h, k => by
    rw [D.pl] at h
    rw [D.dp] at k
    rw [toP]
    simp only [toPs_pl n ds h (by omega), D.toQ]
  | n + 1, .lst ds, h, k => by
    rw [D.pl] at h
    rw [D.dp] at k
    rw [toP]
    simp only [toPs_pl n ds h (by omega), D.toQ]
  | n + 1, .ref _, h, _ => by simp [D.pl] at h
  | n + 1, .scr _, h, _ => by simp [D.pl] at h
  | n + 1, .exn _ _, h, _ => by simp [D.pl] at h
theorem toPs_pl {st : Store} : ∀ (n : Nat) (ds : List D), D.pls ds = true → D.dps ds ≤ n → optAll (ds.map (toP st n)) = some (D.toQs ds)
  | n, [], _, _ => by simp [optAll, D.toQs]
  | n, d :: ds, h, k => by
    simp only [D.pls, Bool.and_eq_true] at h
    simp only [D.dps, Nat.max_le] at k
    rw [List.map_cons, toP_pl n d h.1 k.1, optAll, toPs_pl n ds h.2 k.2]
    simp only [D.toQs]
end
mutual
theorem eqv_pl : ∀ (d e : D), D.pl d = true → D.pl e = true → PyData.eqv d.toQ e.toQ = D.beq d e
  | .non, e, _, h => by cases e <;> simp_all [D.toQ, PyData.eqv, D.beq, D.pl]
  | .bl _, e, h, _ => by simp [D.pl] at h
  | .int _, e, _, h => by cases e <;> simp_all [D.toQ, PyData.eqv, D.beq, D.pl]
  | .str s, e, _, h => by
    cases e with
    | str t => simp only [D.toQ, PyData.eqv, D.beq, str_beq]
    | _ => simp_all [D.toQ, PyData.eqv, D.beq, D.pl]
  | .tup ds, e, h1, h => by
    cases e with
    | tup es =>
      simp only [D.pl] at h1 h
      simp only [D.toQ, PyData.eqv, D.beq]
      exact eqvs_pl ds es h1 h
    | _ => simp_all [D.toQ, PyData.eqv, D.beq, D.pl]
  | .lst ds, e, h1, h => by
    cases e with
    | lst es =>
      simp only [D.pl] at h1 h
      simp only [D.toQ, PyData.eqv, D.beq]
      exact eqvs_pl ds es h1 h
    | _ => simp_all [D.toQ, PyData.eqv, D.beq, D.pl]
  | .ref _, e, h, _ => by simp [D.pl] at h
  | .scr _, e, h, _ => by simp [D.pl] at h
  | .exn _ _, e, h, _ => by simp [D.pl] at h
theorem eqvs_pl : ∀ (ds es : List D), D.pls ds = true → D.pls es = true → PyData.eqvAll (D.toQs ds) (D.toQs es) = D.beqs ds es
  | [], [], _, _ => by simp only [D.toQs, PyData.eqvAll, D.beqs]
  | [], e :: es, _, _ => by simp only [D.toQs, PyData.eqvAll, D.beqs]
  | d :: ds, [], _, _ => by simp only [D.toQs, PyData.eqvAll, D.beqs]
  | d :: ds, e :: es, h1, h2 => by
    simp only [D.pls, Bool.and_eq_true] at h1 h2
    simp only [D.toQs, PyData.eqvAll, D.beqs]
    rw [eqv_pl d e h1.1 h2.1, eqvs_pl ds es h1.2 h2.2]
end
instance : DecidableEq D := fun d e => if h : D.beq d e = true then isTrue (D.eq_of_beq d e h) else isFalse fun z => h (z ▸ D.beq_refl d)
theorem beq_dec (d e : D) : D.beq d e = decide (d = e) := by
  by_cases h : d = e
  · subst h; simp [D.beq_refl]
  · simp only [h, decide_false]
    cases q : D.beq d e with
    | true => exact absurd (D.eq_of_beq d e q) h
    | false => rfl
/-- equality of plain data -/
theorem eqG_pl {neg : Bool} {st : Store} {d e : D} (h1 : D.pl d = true) (h2 : D.pl e = true) (k1 : D.dp d ≤ 40) (k2 : D.dp e ≤ 40) : eqG neg st d e = .ok (.bl (if neg = true then !decide (d = e) else decide (d = e)), st) := by
  unfold eqG
  rw [toP_pl 40 d h1 k1, toP_pl 40 e h2 k2]
  simp only [eqv_pl d e h1 h2, beq_dec]
theorem toP_ref {n k : Nat} {st : Store} {ds : List D} (h : st[k]? = some (.lst ds)) : toP st (n + 1) (.ref k) = toP st (n + 1) (.lst ds) := by
  rw [toP, toP]
  simp only [h]
theorem eqG_refL {neg : Bool} {st : Store} {k : Nat} {ds : List D} {e : D} (h : st[k]? = some (.lst ds)) : eqG neg st (.ref k) e = eqG neg st (.lst ds) e := by
  unfold eqG; rw [toP_ref (n := 39) h]
@[simp] theorem eqG_int {neg : Bool} {st : Store} (i j : Int) : eqG neg st (.int i) (.int j) = .ok (.bl (if neg = true then !decide (i = j) else decide (i = j)), st) := by
  rw [eqG_pl rfl rfl (by simp [D.dp]) (by simp [D.dp])]
  simp
@[simp] theorem eqG_str {neg : Bool} {st : Store} (i j : List Nat) : eqG neg st (.str i) (.str j) = .ok (.bl (if neg = true then !decide (i = j) else decide (i = j)), st) := by
  rw [eqG_pl rfl rfl (by simp [D.dp]) (by simp [D.dp])]
  simp
@[simp] theorem eqG_bl {neg : Bool} {st : Store} (i j : Bool) : eqG neg st (.bl i) (.bl j) = .ok (.bl (if neg = true then !(i == j) else (i == j)), st) := by
  unfold eqG
  simp [toP, PyData.eqv]
@[simp] theorem pl_int (i : Int) : D.pl (.int i) = true := rfl
@[simp] theorem pl_str (s : List Nat) : D.pl (.str s) = true := rfl
@[simp] theorem pl_non : D.pl .non = true := rfl
@[simp] theorem pl_tup (ds : List D) : D.pl (.tup ds) = D.pls ds := by rw [D.pl]
@[simp] theorem pl_lst (ds : List D) : D.pl (.lst ds) = D.pls ds := by rw [D.pl]
@[simp] theorem pls_nil : D.pls [] = true := rfl
@[simp] theorem pls_cons (d : D) (ds : List D) : D.pls (d :: ds) = (D.pl d && D.pls ds) := by rw [D.pls]
@[simp] theorem dp_int (i : Int) : D.dp (.int i) = 1 := rfl
@[simp] theorem dp_str (s : List Nat) : D.dp (.str s) = 1 := rfl
@[simp] theorem dp_non : D.dp .non = 1 := rfl
@[simp] theorem dp_tup (ds : List D) : D.dp (.tup ds) = D.dps ds + 1 := by rw [D.dp]
@[simp] theorem dp_lst (ds : List D) : D.dp (.lst ds) = D.dps ds + 1 := by rw [D.dp]
@[simp] theorem dps_nil : D.dps [] = 0 := rfl
@[simp] theorem dps_cons (d : D) (ds : List D) : D.dps (d :: ds) = max (D.dp d) (D.dps ds) := by rw [D.dps]
@[simp] theorem pls_strs (ss : List (List Nat)) : D.pls (ss.map D.str) = true := pls_iff.mpr fun d h => by
  obtain ⟨s, _, rfl⟩ := List.mem_map.mp h; rfl
@[simp] theorem pls_ints (ss : List Int) : D.pls (ss.map D.int) = true := pls_iff.mpr fun d h => by
  obtain ⟨s, _, rfl⟩ := List.mem_map.mp h; rfl
theorem dps_strs (ss : List (List Nat)) : D.dps (ss.map D.str) ≤ 1 := dps_le.mpr fun d h => by
  obtain ⟨s, _, rfl⟩ := List.mem_map.mp h; exact Nat.le_refl _
theorem dps_ints (ss : List Int) : D.dps (ss.map D.int) ≤ 1 := dps_le.mpr fun d h => by
  obtain ⟨s, _, rfl⟩ := List.mem_map.mp h; exact Nat.le_refl _
@[simp] theorem lim_0 : (0 ≤ LIM) = True := eq_true (le_LIM (by decide))
@[simp] theorem lim_1 : (1 ≤ LIM) = True := eq_true (le_LIM (by decide))
@[simp] theorem lim_2 : (2 ≤ LIM) = True := eq_true (le_LIM (by decide))
@[simp] theorem lim_3 : (3 ≤ LIM) = True := eq_true (le_LIM (by decide))
@[simp] theorem lim_4 : (4 ≤ LIM) = True := eq_true (le_LIM (by decide))
@[simp] theorem lim_5 : (5 ≤ LIM) = True := eq_true (le_LIM (by decide))
@[simp] theorem lim_6 : (6 ≤ LIM) = True := eq_true (le_LIM (by decide))
@[simp] theorem lim_7 : (7 ≤ LIM) = True := eq_true (le_LIM (by decide))
@[simp] theorem lim_8 : (8 ≤ LIM) = True := eq_true (le_LIM (by decide))
@[simp] theorem lim_9 : (9 ≤ LIM) = True := eq_true (le_LIM (by decide))
@[simp] theorem lim_10 : (10 ≤ LIM) = True := eq_true (le_LIM (by decide))
@[simp] theorem lim_11 : (11 ≤ LIM) = True := eq_true (le_LIM (by decide))
@[simp] theorem lim_12 : (12 ≤ LIM) = True := eq_true (le_LIM (by decide))
@[simp] theorem lim_13 : (13 ≤ LIM) = True := eq_true (le_LIM (by decide))
@[simp] theorem lim_14 : (14 ≤ LIM) = True := eq_true (le_LIM (by decide))
@[simp] theorem lim_15 : (15 ≤ LIM) = True := eq_true (le_LIM (by decide))
@[simp] theorem wipe_nil (env : Env) : wipeD env [] = env := rfl
@[simp] theorem wipe_cons (env : Env) (v : Nat) (vs : List Nat) : wipeD env (v :: vs) = (wipeD env vs).set v none := rfl
@[simp] theorem intsD_len (lo : Int) (n : Nat) : (intsD lo n).length = n := by simp [intsD]
@[simp ↓] theorem bind_m {A B : Type} (r : R A) (f : A → R B) : r.bind f = match r with
  | .ok a => f a
  | .exc c p st => .exc c p st
  | .bad => .bad := (rfl)
@[simp ↓] theorem sOf_m {A : Type} (r : R A) (f : A → SR) : sOf r f = match r with
  | .ok a => f a
  | .exc c p st => .exc c p st
  | .bad => .bad := (rfl)
/-- a turn's end that goes on -/
def SR.turn (r : SR) (J : Env → Store → Prop) : Prop := match r with
  | .nx e s => J e s
  | .ct e s => J e s
  | _ => False
@[simp] theorem turn_nx (e : Env) (s : Store) (J : Env → Store → Prop) : (SR.nx e s).turn J = J e s := rfl
@[simp] theorem turn_ct (e : Env) (s : Store) (J : Env → Store → Prop) : (SR.ct e s).turn J = J e s := rfl
theorem turn_ex {r : SR} {J : Env → Store → Prop} (h : r.turn J) : ∃ e s, (r = .nx e s ∨ r = .ct e s) ∧ J e s := by
  cases r with
  | nx e s => exact ⟨e, s, .inl rfl, h⟩
  | ct e s => exact ⟨e, s, .inr rfl, h⟩
  | _ => exact h.elim
theorem for_at {sub : List (Nat × List D)} {g : GV} {b : SV} {ds : List D} {env : Env} {st : Store} {r : SR} (hf : forGo sub g b ds env st = r) (I : Nat → Env → Store → Prop) (h0 : I 0 env st)
    (hst : ∀ i env st, i ≤ ds.length → I i env st → still sub st = true)
    (turn : ∀ i d env st, ds[i]? = some d → I i env st → (sOf (g d env st) fun a => b a.1 a.2).turn (I (i + 1))) : ∃ e s, r = .nx e s ∧ I ds.length e s := by
  subst hf
  refine for_inv I h0 hst fun i d env st hd hI => ?_
  have t := turn i d env st hd hI
  cases q : g d env st with
  | ok a =>
    obtain ⟨e1, s1⟩ := a
    rw [q] at t
    obtain ⟨e2, s2, t1, t2⟩ := turn_ex t
    exact ⟨e1, s1, e2, s2, rfl, t1, t2⟩
  | exc c p s => rw [q] at t; exact t.elim
  | bad => rw [q] at t; exact t.elim
/-- a turn's end: on, or out -/
def SR.turnE (r : SR) (J : Env → Store → Prop) (P : SR → Prop) : Prop := match r with
  | .nx e s => J e s
  | .ct e s => J e s
  | .bk e s => P (.nx e s)
  | .rt d s => P (.rt d s)
  | .exc c p s => P (.exc c p s)
  | .bad => False
@[simp] theorem turnE_nx (e : Env) (s : Store) (J : Env → Store → Prop) (P : SR → Prop) : (SR.nx e s).turnE J P = J e s := rfl
@[simp] theorem turnE_ct (e : Env) (s : Store) (J : Env → Store → Prop) (P : SR → Prop) : (SR.ct e s).turnE J P = J e s := rfl
@[simp] theorem turnE_bk (e : Env) (s : Store) (J : Env → Store → Prop) (P : SR → Prop) : (SR.bk e s).turnE J P = P (.nx e s) := rfl
@[simp] theorem turnE_rt (d : D) (s : Store) (J : Env → Store → Prop) (P : SR → Prop) : (SR.rt d s).turnE J P = P (.rt d s) := rfl
@[simp] theorem turnE_exc (c : Nat) (p : Option D) (s : Store) (J : Env → Store → Prop) (P : SR → Prop) : (SR.exc c p s).turnE J P = P (.exc c p s) := rfl
theorem for_atE {sub : List (Nat × List D)} {g : GV} {b : SV} {ds : List D} {env : Env} {st : Store} {r : SR} (hf : forGo sub g b ds env st = r) (I : Nat → Env → Store → Prop) (P : SR → Prop) (h0 : I 0 env st)
    (hst : ∀ i env st, i ≤ ds.length → I i env st → still sub st = true)
    (turn : ∀ i d env st, ds[i]? = some d → I i env st → ∃ e1 s1, g d env st = .ok (e1, s1) ∧ (b e1 s1).turnE (I (i + 1)) P)
    (done : ∀ e s, I ds.length e s → P (.nx e s)) : P r := by
  subst hf
  refine for_inv_end I P h0 hst (fun i d env st hd hI => ?_) done
  obtain ⟨e1, s1, q, t⟩ := turn i d env st hd hI
  refine ⟨e1, s1, q, ?_⟩
  cases w : b e1 s1 with
  | nx e s => rw [w] at t; exact .inl ⟨e, s, .inl rfl, t⟩
  | ct e s => rw [w] at t; exact .inl ⟨e, s, .inr rfl, t⟩
  | bk e s => rw [w] at t; exact .inr (.inl ⟨e, s, rfl, t⟩)
  | rt d s => rw [w] at t; exact .inr (.inr (.inl ⟨d, s, rfl, t⟩))
  | exc c p s => rw [w] at t; exact .inr (.inr (.inr ⟨c, p, s, rfl, t⟩))
  | bad => rw [w] at t; exact t.elim
/-- the value of an expression, with what is so behind it -/
def R.to {A : Type} (r : R (A × Store)) (J : A → Store → Prop) : Prop := match r with
  | .ok a => J a.1 a.2
  | _ => False
@[simp] theorem to_ok {A : Type} (a : A × Store) (J : A → Store → Prop) : (R.ok a).to J = J a.1 a.2 := rfl
theorem lc_at {sub : List (Nat × List D)} {t : Tg1} {tt : TV} {te : EV} {env : Env} {ds : List D} {st : Store} {r : R (List D × Store)} (hf : lcGo sub t tt te env ds [] st = r) (I : Nat → List D → Store → Prop) (h0 : I 0 [] st)
    (hst : ∀ i acc st, i ≤ ds.length → I i acc st → still sub st = true)
    (turn : ∀ i d acc st, ds[i]? = some d → I i acc st → ∃ env1, t.put d env = some env1 ∧ (tt env1 st).to fun b st1 => if b = true then (te env1 st1).to fun y st2 => I (i + 1) (acc ++ [y]) st2 else I (i + 1) acc st1) :
    ∃ acc s, r = .ok (acc, s) ∧ I ds.length acc s := by
  subst hf
  have gen : ∀ (es : List D) (i : Nat) (acc : List D) (st : Store), i + es.length = ds.length → ds.drop i = es → I i acc st → ∃ acc' s, lcGo sub t tt te env es acc st = .ok (acc', s) ∧ I ds.length acc' s := by
    intro es
    induction es with
    | nil =>
      intro i acc st hl hd hI
      have : i = ds.length := by simpa using hl
      exact ⟨acc, st, lcGo_nil (hst i acc st (by omega) hI), this ▸ hI⟩
    | cons d es ih =>
      intro i acc st hl hd hI
      have hi : ds[i]? = some d := by
        have := congrArg (fun l => l[0]?) hd
        simpa using this
      have hd' : ds.drop (i + 1) = es := by
        have : ds.drop (i + 1) = (ds.drop i).drop 1 := by rw [List.drop_drop]
        rw [this, hd]; rfl
      have hl' : i + 1 + es.length = ds.length := by simp at hl; omega
      obtain ⟨env1, p1, p2⟩ := turn i d acc st hi hI
      rw [lcGo_cons (hst i acc st (by simp at hl; omega) hI), p1]
      show ∃ acc' s, ((noX (tt env1 st)).bind fun b => if b.1 = true then (noX (te env1 b.2)).bind fun y => lcGo sub t tt te env es (acc ++ [y.1]) y.2 else lcGo sub t tt te env es acc b.2) = .ok (acc', s) ∧ I ds.length acc' s
      cases q : tt env1 st with
      | ok b =>
        obtain ⟨b, st1⟩ := b
        rw [q] at p2
        simp only [to_ok] at p2
        simp only [noX_ok, R.bind_ok]
        cases b with
        | true =>
          simp only [if_true] at p2 ⊢
          cases q2 : te env1 st1 with
          | ok y =>
            rw [q2] at p2
            simp only [noX_ok, R.bind_ok]
            exact ih _ _ _ hl' hd' p2
          | exc c p s => rw [q2] at p2; exact p2.elim
          | bad => rw [q2] at p2; exact p2.elim
        | false => exact ih _ _ _ hl' hd' p2
      | exc c p s => rw [q] at p2; exact p2.elim
      | bad => rw [q] at p2; exact p2.elim
  exact gen ds 0 [] st (by simp) (by simp) h0
end Dl
namespace Dl
open PySem L2
/-- is_sign: 1 slots, 1 parameters -/
def d_is_sign : SV := sRet (eAnd (eChain leG leG (eC (.str [32])) (eV 0) (eC (.str [126]))) (eOp (eqG true) (eB ordG (aCons (eV 0) (aNil))) (eC (.int 37))))
/-- is_cell: 2 slots, 1 parameters -/
def d_is_cell (m_is_sign : FV) : SV := sCons (sIf (tOrD (tNotD (tv (eIs "str" (eV 0)))) (tv (eOp gtG (eB lenG (aCons (eV 0) (aNil))) (eC (.int 10))))) (sRet (eC (.bl false))) (sNext)) (sRet (eOp (eqG false) (eLc false (iSeq (eV 0)) [1] (.one 1) (tNotD (tv (eCall 1 m_is_sign (aCons (eV 1) (aNil))))) (eV 1)) (eLst false (aNil))))
/-- is_row: 2 slots, 1 parameters -/
def d_is_row (m_is_cell : FV) : SV := sCons (sIf (tOrD (tNotD (tv (eIs "tuple" (eV 0)))) (tNotD (tv (eChain leG leG (eC (.int 1)) (eB lenG (aCons (eV 0) (aNil))) (eC (.int 6)))))) (sRet (eC (.bl false))) (sNext)) (sRet (eOp (eqG false) (eLc false (iSeq (eV 0)) [1] (.one 1) (tNotD (tv (eCall 1 m_is_cell (aCons (eV 1) (aNil))))) (eV 1)) (eLst false (aNil))))
/-- need_page: 3 slots, 1 parameters -/
def d_need_page (m_is_row : FV) : SV := sCons (sIf (tOrD (tNotD (tv (eIs "list" (eV 0)))) (tv (eOp (eqG false) (eV 0) (eLst false (aNil))))) (sBad) (sNext)) (sFor (iEn (aCons (eV 0) (aNil))) (gTp 2 (gsCons (gN 1) (gsCons (gN 2) (gsNil)))) (sIf (tOrD (tv (eOp geG (eV 1) (eC (.int 30)))) (tNotD (tv (eCall 1 m_is_row (aCons (eV 2) (aNil)))))) (sBad) (sNext)))
/-- law_begun: 3 slots, 1 parameters -/
def d_law_begun : SV := sCons (sAsg (eC (.int 0)) (gN 1)) (sCons (sFor (iSeq (eV 0)) (gN 2) (sAsg (eOp modG (eOp (addG true) (eOp (addG true) (eOp (mulG true) (eV 1) (eC (.int 48271))) (eOp (mulG true) (eV 2) (eC (.int 69621)))) (eC (.int 11))) (eC (.int 2147483647))) (gN 1))) (sRet (eLst true (aCons (eB (listG true) (aCons (eV 0) (aNil))) (aCons (eOp (mulG true) (eV 1) (eB intG (aCons (eOp gtG (eB lenG (aCons (eV 0) (aNil))) (eC (.int 2))) (aNil)))) (aNil))))))
/-- law_take: 3 slots, 2 parameters -/
def d_law_take : SV := sCons (sIf (tv (eOp (eqG false) (eOp ixG (eV 0) (eC (.int 0))) (eLst false (aNil)))) (sCons (sAsg (eOp modG (eOp (mulG false) (eOp ixG (eV 0) (eC (.int 1))) (eC (.int 48271))) (eC (.int 2147483647))) (gSb (eV 0) (eC (.int 1)) setLG)) (sRet (eOp modG (eOp divG (eOp ixG (eV 0) (eC (.int 1))) (eC (.int 7))) (eV 1)))) (sNext)) (sCons (sAsg (eOp ixG (eOp ixG (eV 0) (eC (.int 0))) (eC (.int 0))) (gN 2)) (sCons (sAsg (eOp divG (eV 2) (eV 1)) (gSb (eOp ixG (eV 0) (eC (.int 0))) (eC (.int 0)) setLG)) (sCons (sIf (tOrD (tv (eOp (eqG false) (eOp ixG (eOp ixG (eV 0) (eC (.int 0))) (eC (.int 0))) (eC (.int 0)))) (tv (eOp (eqG false) (eOp ixG (eOp ixG (eV 0) (eC (.int 0))) (eC (.int 0))) (eNeg (eC (.int 1)))))) (sExpr (eMt "list" (popG) (eOp ixG (eV 0) (eC (.int 0))) (aCons (eC (.int 0)) (aNil)))) (sNext)) (sRet (eOp modG (eV 2) (eV 1))))))
/-- law_sign: 2 slots, 1 parameters -/
def d_law_sign (m_law_take : FV) : SV := sCons (sAsg (eC (.str [32, 33, 34, 35, 36, 38, 39, 40, 41, 42, 43, 44, 45, 46, 47, 48, 49, 50, 51, 52, 53, 54, 55, 56, 57, 58, 59, 60, 61, 62, 63, 64, 65, 66, 67, 68, 69, 70, 71, 72, 73, 74, 75, 76, 77, 78, 79, 80, 81, 82, 83, 84, 85, 86, 87, 88, 89, 90, 91, 92, 93, 94, 95, 96, 97, 98, 99, 100, 101, 102, 103, 104, 105, 106, 107, 108, 109, 110, 111, 112, 113, 114, 115, 116, 117, 118, 119, 120, 121, 122, 123, 124, 125, 126])) (gN 1)) (sRet (eOp ixG (eV 1) (eCall 2 m_law_take (aCons (eV 0) (aCons (eC (.int 94)) (aNil))))))
/-- law_cell: 6 slots, 2 parameters -/
def d_law_cell (m_law_take : FV) (m_law_sign : FV) : SV := sCons (sAsg (eCall 2 m_law_take (aCons (eV 0) (aCons (eC (.int 9)) (aNil)))) (gN 2)) (sCons (sIf (tv (eOp (eqG false) (eV 2) (eC (.int 0)))) (sRet (eC (.str []))) (sNext)) (sCons (sIf (tOrD (tv (eOp (eqG false) (eV 2) (eC (.int 1)))) (tAndD (tv (eOp (eqG false) (eV 1) (eC (.int 0)))) (tv (eOp ltG (eV 2) (eC (.int 7)))))) (sRet (eOp (addG false) (eOp ixG (eLst false (aCons (eC (.str [])) (aCons (eC (.str [45])) (aNil)))) (eOp divG (eCall 2 m_law_take (aCons (eV 0) (aCons (eC (.int 3)) (aNil)))) (eC (.int 2)))) (eB strG (aCons (eCall 2 m_law_take (aCons (eV 0) (aCons (eOp ixG (eLst false (aCons (eC (.int 10)) (aCons (eC (.int 1000)) (aCons (eOp powG (eC (.int 10)) (eC (.int 9))) (aNil))))) (eCall 2 m_law_take (aCons (eV 0) (aCons (eC (.int 3)) (aNil))))) (aNil)))) (aNil))))) (sNext)) (sCons (sIf (tv (eOp (eqG false) (eV 2) (eC (.int 2)))) (sCons (sAsg (eLst false (aCons (eC (.str [45])) (aCons (eC (.str [45, 45, 49])) (aCons (eC (.str [49, 45])) (aCons (eC (.str [48, 120])) (aCons (eC (.str [32, 49])) (aCons (eC (.str [49, 32])) (aCons (eC (.str [45, 48])) (aCons (eC (.str [48, 48, 55])) (aCons (eC (.str [32])) (aCons (eC (.str [32, 32, 32])) (aCons (eC (.str [49, 50, 51, 52, 53, 54, 55, 120])) (aCons (eC (.str [49, 50, 51, 52, 53, 54, 55, 56, 45])) (aCons (eC (.str [45, 48, 48, 48, 48, 48, 48, 48, 32, 49])) (aNil))))))))))))))) (gN 3)) (sRet (eOp ixG (eV 3) (eCall 2 m_law_take (aCons (eV 0) (aCons (eC (.int 13)) (aNil))))))) (sNext)) (sCons (sAsg (eOp (addG false) (eC (.int 1)) (eCall 2 m_law_take (aCons (eV 0) (aCons (eOp ixG (eLst false (aCons (eC (.int 3)) (aCons (eC (.int 10)) (aNil)))) (eCall 2 m_law_take (aCons (eV 0) (aCons (eC (.int 2)) (aNil))))) (aNil))))) (gN 4)) (sCons (sIf (tv (eOp ltG (eV 2) (eC (.int 6)))) (sRet (eMt "str" (joinG) (eC (.str [])) (aCons (eLc false (iR1 (aCons (eV 4) (aNil))) [5] (.one 5) (tYesD) (eOp ixG (eC (.str [97, 98, 99, 100, 101, 102, 103, 104, 105, 106])) (eCall 2 m_law_take (aCons (eV 0) (aCons (eC (.int 10)) (aNil)))))) (aNil)))) (sNext)) (sRet (eMt "str" (joinG) (eC (.str [])) (aCons (eLc false (iR1 (aCons (eV 4) (aNil))) [5] (.one 5) (tYesD) (eCall 1 m_law_sign (aCons (eV 0) (aNil)))) (aNil)))))))))
/-- law_row: 4 slots, 3 parameters -/
def d_law_row (m_law_cell : FV) : SV := sRet (eB tupG (aCons (eLc false (iR1 (aCons (eV 2) (aNil))) [3] (.one 3) (tYesD) (eCall 2 m_law_cell (aCons (eV 0) (aCons (eOp ixG (eV 1) (eV 3)) (aNil))))) (aNil)))
/-- law_page: 8 slots, 2 parameters -/
def d_law_page (m_law_take : FV) (m_law_row : FV) : SV := sCons (sAsg (eLc false (iR1 (aCons (eC (.int 6)) (aNil))) [7] (.one 7) (tYesD) (eCall 2 m_law_take (aCons (eV 0) (aCons (eC (.int 2)) (aNil))))) (gN 2)) (sCons (sPar 3 4 (aCons (eOp (addG false) (eC (.int 1)) (eCall 2 m_law_take (aCons (eV 0) (aCons (eC (.int 6)) (aNil))))) (aCons (eLst true (aNil)) (aNil)))) (sCons (sFor (iR1 (aCons (eOp (addG false) (eC (.int 1)) (eCall 2 m_law_take (aCons (eV 0) (aCons (eV 1) (aNil))))) (aNil))) (gN 5) (sCons (sAsg (eCall 2 m_law_take (aCons (eV 0) (aCons (eC (.int 8)) (aNil)))) (gN 6)) (sCons (sAsg (eOp ixG (eLst false (aCons (eOp (addG false) (eC (.int 1)) (eCall 2 m_law_take (aCons (eV 0) (aCons (eC (.int 6)) (aNil))))) (aCons (eB maxG (aCons (eC (.int 1)) (aCons (eOp subG (eV 3) (eC (.int 1))) (aNil)))) (aCons (eB minG (aCons (eC (.int 6)) (aCons (eOp (addG false) (eV 3) (eC (.int 1))) (aNil)))) (aCons (eV 3) (aNil)))))) (eB minG (aCons (eV 6) (aCons (eC (.int 3)) (aNil))))) (gN 3)) (sCons (sExpr (eMt "list" (appendG) (eV 4) (aCons (eCall 3 m_law_row (aCons (eV 0) (aCons (eV 2) (aCons (eV 3) (aNil))))) (aNil)))) (sIf (tv (eOp (eqG false) (eV 6) (eC (.int 7)))) (sCons (sAsg (eOp ixG (eV 4) (eCall 2 m_law_take (aCons (eV 0) (aCons (eB lenG (aCons (eV 4) (aNil))) (aNil))))) (gSb (eV 4) (eNeg (eC (.int 1))) setLG)) (sAsg (eB lenG (aCons (eOp ixG (eV 4) (eNeg (eC (.int 1)))) (aNil))) (gN 3))) (sNext)))))) (sRet (eV 4))))
/-- law_style: 2 slots, 1 parameters -/
def d_law_style (m_law_take : FV) : SV := sCons (sAsg (eOp ixG (eLst false (aCons (eCall 2 m_law_take (aCons (eV 0) (aCons (eC (.int 5)) (aNil)))) (aCons (eC (.int 1)) (aCons (eC (.int 2)) (aNil))))) (eCall 2 m_law_take (aCons (eV 0) (aCons (eC (.int 3)) (aNil))))) (gN 1)) (sRet (eTup (aCons (eV 1) (aCons (eOp ixG (eLst false (aCons (eC (.int 0)) (aCons (eCall 2 m_law_take (aCons (eV 0) (aCons (eC (.int 13)) (aNil)))) (aCons (eCall 2 m_law_take (aCons (eV 0) (aCons (eC (.int 13)) (aNil)))) (aNil))))) (eCall 2 m_law_take (aCons (eV 0) (aCons (eC (.int 3)) (aNil))))) (aNil)))))
end Dl
namespace Dl
open PySem L2
def okSign (c : Nat) : Bool := decide (32 ≤ c) && decide (c ≤ 126) && decide (c ≠ 37)
def okCell (s : List Nat) : Bool := decide (s.length ≤ 10) && s.all okSign
def okRow (r : List (List Nat)) : Bool := decide (1 ≤ r.length) && decide (r.length ≤ 6) && r.all okCell
abbrev Row := List (List Nat)
abbrev Page := List Row
def okPage (p : Page) : Bool := decide (1 ≤ p.length) && decide (p.length ≤ 30) && p.all okRow
def encR (r : Row) : D := .tup (r.map .str)
def encP (p : Page) : List D := p.map encR
@[simp] theorem encP_len (p : Page) : (encP p).length = p.length := by simp [encP]
@[simp] theorem pl_encR (r : Row) : D.pl (encR r) = true := by simp [encR]
@[simp] theorem pls_encP (p : Page) : D.pls (encP p) = true := pls_iff.mpr fun d h => by
  obtain ⟨s, _, rfl⟩ := List.mem_map.mp h; exact pl_encR s
theorem dp_encR (r : Row) : D.dp (encR r) ≤ 2 := by
  have := dps_strs r
  simp only [encR, dp_tup]; omega
theorem dps_encP (p : Page) : D.dps (encP p) ≤ 2 := dps_le.mpr fun d h => by
  obtain ⟨s, _, rfl⟩ := List.mem_map.mp h; exact dp_encR s
theorem ltc (a b : Nat) : ([a] < [b]) ↔ a < b := by
  rw [List.cons_lt_cons_iff]
  simp
def m_is_sign : FV := funD 1 d_is_sign
theorem is_sign_str (c : Nat) (st : Store) : m_is_sign [.str [c]] st = .ok (.bl (okSign c), st) := by
  unfold m_is_sign funD d_is_sign
  simp [leG, ordG, ltc]
  by_cases h1 : 32 ≤ c
  · by_cases h2 : c ≤ 126
    · simp [okSign, h1, h2, Nat.not_lt.mpr h1, Nat.not_lt.mpr h2]
      omega
    · simp [okSign, h1, h2, Nat.not_lt.mpr h1, Nat.lt_of_not_le h2]
  · simp [okSign, h1, Nat.lt_of_not_le h1]
theorem still_list {st : Store} {d : D} {w : Wk} (h : listOf st d = some w) : still w.2 st = true := by
  unfold listOf at h
  split at h
  · cases h; rfl
  · split at h
    · cases h; exact still_one ‹_›
    · cases h
  · cases h
theorem items_list {st : Store} {d : D} {w : Wk} (h : listOf st d = some w) : itemsOf st d = some w := by
  unfold listOf at h
  split at h
  · exact h
  · exact h
  · cases h
theorem lst_list {st : Store} {d : D} {w : Wk} (h : listOf st d = some w) : lstOf st d = some w.1 := by
  unfold listOf at h
  split at h
  · cases h; rfl
  · split at h
    · cases h
      rename_i e
      simp [lstOf, e]
    · cases h
  · cases h
theorem ty_list {st : Store} {d : D} {w : Wk} (h : listOf st d = some w) : tyOf st d = some "list" := by
  unfold listOf at h
  split at h
  · rfl
  · split at h
    · cases h
      rename_i e
      simp [tyOf, e]
    · cases h
  · cases h
theorem len_list {st : Store} {d : D} {w : Wk} (h : listOf st d = some w) : lenG st [d] = .ok (.int w.1.length, st) := by
  have e := lst_list h
  unfold listOf at h
  split at h
  · simp [lenG, e]
  · simp [lenG, e]
  · cases h
theorem eq_list {neg : Bool} {st : Store} {d e : D} {w : Wk} (h : listOf st d = some w) : eqG neg st d e = eqG neg st (.lst w.1) e := by
  unfold listOf at h
  split at h
  · cases h; rfl
  · split at h
    · cases h; exact eqG_refL ‹_›
    · cases h
  · cases h
/-- a comprehension that keeps what p likes -/
theorem lc_keep {sub : List (Nat × List D)} {j : Nat} {tt : TV} {env : Env} {st : Store} (hs : still sub st = true) (p : D → Bool) (ds : List D)
    (h : ∀ d ∈ ds, tt (env.set j (some d)) st = .ok (p d, st)) (hj : j < env.length) : lcGo sub (.one j) tt (eV j) env ds [] st = .ok (ds.filter p, st) := by
  have := lc_pure (t := .one j) (te := eV j) (env := env) (tt := tt) hs p (fun d => d) ds [] fun d hd => ⟨_, rfl, h d hd, fun _ => by simp [hj]⟩
  simpa using this
theorem eq_nilD {st : Store} {ds : List D} (h : D.pls ds = true) (k : D.dps ds ≤ 39) : eqG false st (.lst ds) (.lst []) = .ok (.bl (decide (ds = [])), st) := by
  rw [eqG_pl (by simpa using h) rfl (by simp; omega) (by simp)]
  simp
def m_is_cell : FV := funD 2 (d_is_cell m_is_sign)
theorem is_cell_str (s : List Nat) (st : Store) : m_is_cell [.str s] st = .ok (.bl (okCell s), st) := by
  unfold m_is_cell funD d_is_cell
  simp [tyOf, subTy, gtG, lenG, itemsOf]
  by_cases h : s.length ≤ 10
  · have h' : ¬ ((10 : Int) < s.length) := by omega
    simp only [h', if_false]
    have hl : s.length ≤ LIM := le_LIM (by omega)
    simp [hl, itemsOf]
    rw [lc_keep rfl (fun d => match d with | .str [c] => !okSign c | _ => true) _ (fun d hd => ?_) (by simp [wipeD])]
    · have e : (s.map fun c => D.str [c]).filter (fun d => match d with | .str [c] => !okSign c | _ => true) = ((s.filter fun c => !okSign c).map fun c => [c]).map D.str := by
        rw [List.filter_map, List.map_map]; rfl
      simp only [R.bind_ok, e]
      rw [eq_nilD (pls_strs _) (Nat.le_trans (dps_strs _) (by decide))]
      simp only [R.bind_ok, sOf_ok, List.map_eq_nil_iff]
      congr 3
      rw [okCell, decide_eq_true h, Bool.true_and, Bool.eq_iff_iff]
      simp [List.filter_eq_nil_iff]
    · obtain ⟨c, _, rfl⟩ := List.mem_map.mp hd
      simp [wipeD, is_sign_str]
  · have h' : (10 : Int) < s.length := by omega
    simp [h', h, okCell]
def m_is_row : FV := funD 2 (d_is_row m_is_cell)
theorem is_row_tup (r : Row) (st : Store) : m_is_row [encR r] st = .ok (.bl (okRow r), st) := by
  unfold m_is_row funD d_is_row encR
  simp [tyOf, subTy, leG, lenG, itemsOf]
  by_cases h : 1 ≤ r.length
  · have h1 : (1 : Int) ≤ r.length := by omega
    by_cases h2 : r.length ≤ 6
    · have h3 : (r.length : Int) ≤ 6 := by omega
      have hl : r.length ≤ LIM := le_LIM (by omega)
      simp [h1, h3, hl, itemsOf]
      rw [lc_keep rfl (fun d => match d with | .str c => !okCell c | _ => true) _ (fun d hd => ?_) (by simp [wipeD])]
      · have e : (r.map D.str).filter (fun d => match d with | .str c => !okCell c | _ => true) = (r.filter fun c => !okCell c).map D.str := by
          rw [List.filter_map]; rfl
        simp only [R.bind_ok, e]
        rw [eq_nilD (pls_strs _) (Nat.le_trans (dps_strs _) (by decide))]
        simp only [R.bind_ok, sOf_ok, List.map_eq_nil_iff]
        congr 3
        rw [okRow, decide_eq_true h, decide_eq_true h2, Bool.true_and, Bool.true_and, Bool.eq_iff_iff]
        simp [List.filter_eq_nil_iff]
      · obtain ⟨c, _, rfl⟩ := List.mem_map.mp hd
        simp [wipeD, is_cell_str]
    · have h3 : ¬ (r.length : Int) ≤ 6 := by omega
      simp [h1, h3, h2, okRow]
  · have h1 : ¬ (1 : Int) ≤ r.length := by omega
    simp [h1, h, okRow]
def m_need_page : FV := funD 3 (d_need_page m_is_row)
theorem need_page_ok {p : Page} {d : D} {w : List (Nat × List D)} {st : Store} (h : listOf st d = some (encP p, w)) (hp : okPage p = true) : m_need_page [d] st = .ok (.non, st) := by
  unfold m_need_page funD d_need_page
  simp only [okPage, Bool.and_eq_true, decide_eq_true_eq, List.all_eq_true] at hp
  obtain ⟨⟨h1, h2⟩, h3⟩ := hp
  have ne : encP p ≠ [] := fun z => by rw [← encP_len, z] at h1; simp at h1
  simp [ty_list h, subTy, eq_list h, eq_nilD (pls_encP p) (Nat.le_trans (dps_encP p) (by decide)), ne, h]
  generalize hf : forGo _ _ _ _ _ _ = r
  obtain ⟨e, s, rfl, rfl, e2⟩ := for_at hf (fun i env st' => st' = st ∧ ∃ a b, env = [some d, a, b]) ⟨rfl, _, _, rfl⟩ (fun i env st' _ hI => by rw [hI.1]; exact still_list h) (fun i x env st' hi hI => by
      obtain ⟨rfl, a, b, rfl⟩ := hI
      obtain ⟨y, hy, rfl⟩ := pairUp_at hi
      unfold encP at hy
      rw [List.getElem?_map] at hy
      cases q : p[i]? with
      | none => rw [q] at hy; cases hy
      | some r =>
        rw [q] at hy
        cases hy
        have hr := h3 r (List.mem_of_getElem? q)
        have hi := (List.getElem?_eq_some_iff.mp q).1
        have hi2 : ¬ (30 : Int) ≤ i := by omega
        simp [geG, hi2, is_row_tup, hr])
  rfl
end Dl
namespace Dl
open PySem L2
/-- the box stands first in the store -/
structure Box where
  ns : List Int
  s : Int
def Bx (b : Box) (rest : Store) : Store := .lst (b.ns.map .int) :: .lst [.ref 0, .int b.s] :: rest
@[simp] theorem Bx_len (b : Box) (rest : Store) : (Bx b rest).length = rest.length + 2 := rfl
@[simp] theorem Bx_app (b : Box) (rest more : Store) : Bx b rest ++ more = Bx b (rest ++ more) := rfl
@[simp high] theorem Bx_get (b : Box) (rest : Store) (k : Nat) : (Bx b rest)[k + 2]? = rest[k]? := by simp [Bx]
@[simp] theorem Bx_set (b : Box) (rest : Store) (k : Nat) (o : Ob) : (Bx b rest).set (k + 2) o = Bx b (rest.set k o) := by simp [Bx]
/-- what is taken, and the box behind -/
def tk (b : Box) (n : Int) : Int × Box := match b.ns with
  | [] => (b.s * 48271 % 2147483647 / 7 % n, ⟨[], b.s * 48271 % 2147483647⟩)
  | x :: ns => (x % n, if x / n = 0 ∨ x / n = -1 then ⟨ns, b.s⟩ else ⟨x / n :: ns, b.s⟩)
theorem tk_lo (b : Box) {n : Int} (h : 0 < n) : 0 ≤ (tk b n).1 := by
  obtain ⟨ns, s⟩ := b
  cases ns <;> exact Int.emod_nonneg _ (by omega)
theorem tk_hi (b : Box) {n : Int} (h : 0 < n) : (tk b n).1 < n := by
  obtain ⟨ns, s⟩ := b
  cases ns <;> exact Int.emod_lt_of_pos _ h
@[simp] theorem atI_0 {A : Type} (a : A) (l : List A) : atI (a :: l) 0 = some a := by
  have : (0 : Int) < ↑(l.length + 1) := by omega
  simp [atI, ixN, this]
@[simp] theorem atI_1 {A : Type} (a b : A) (l : List A) : atI (a :: b :: l) 1 = some b := by
  have : (1 : Int) < (l.length : Int) + 1 + 1 := by omega
  simp [atI, ixN, this]
theorem atI_nat {A : Type} (l : List A) (i : Nat) : atI l (i : Int) = l[i]? := by
  by_cases h : i < l.length
  · have : (i : Int) < l.length := by omega
    simp [atI, ixN, h]
  · have : ¬ (i : Int) < l.length := by omega
    simp [atI, ixN, h]
theorem atI_int {A : Type} (l : List A) (i : Int) (h0 : 0 ≤ i) : atI l i = l[i.toNat]? := by
  have := atI_nat l i.toNat
  rwa [Int.toNat_of_nonneg h0] at this
theorem atI_last {A : Type} (l : List A) (a : A) : atI (l ++ [a]) (-1) = some a := by
  have h : -(((l ++ [a]).length : Nat) : Int) ≤ -1 := by simp; omega
  have h1 : ¬ (0 : Int) ≤ -1 := by decide
  simp only [atI, ixN, if_neg h1, if_pos h]
  have : (-1 + (((l ++ [a]).length : Nat) : Int)).toNat = l.length := by simp; omega
  rw [Option.bind_some, this]
  simp
theorem eq_intsR {st : Store} {k : Nat} {ns : List Int} (h : st[k]? = some (.lst (ns.map .int))) : eqG false st (.ref k) (.lst []) = .ok (.bl (decide (ns = [])), st) := by
  rw [eqG_refL h, eq_nilD (pls_ints _) (Nat.le_trans (dps_ints _) (by decide))]
  simp
def m_law_begun : FV := funD 3 d_law_begun
def m_law_take : FV := funD 3 d_law_take
theorem begun_ok (ns : List Int) : ∃ b, m_law_begun [.scr ns] [] = .ok (.ref 1, Bx b []) := by
  unfold m_law_begun funD d_law_begun
  simp [itemsOf]
  generalize hf : forGo _ _ _ _ _ _ = r
  obtain ⟨e, s, rfl, rfl, i, v, rfl⟩ := for_at hf (fun i env st' => st' = [] ∧ ∃ i v, env = [some (.scr ns), some (.int i), v]) ⟨rfl, 0, none, rfl⟩ (fun i env st' _ hI => rfl) (fun i x env st' hi hI => by
    obtain ⟨rfl, a, b, rfl⟩ := hI
    rw [List.getElem?_map] at hi
    cases q : ns[i]? with
    | none => rw [q] at hi; cases hi
    | some r =>
      rw [q] at hi
      cases hi
      simp [mulG, addG, modG])
  have h3 : ∀ b : Bool, -18446744073709551616 < (if b = true then (1 : Int) else 0) ∧ (if b = true then (1 : Int) else 0) < 18446744073709551616 := fun b => by cases b <;> decide
  simp [listG, lenG, gtG, intG, mulG, newL]
  by_cases hb : (2 : Int) < ns.length
  · exact ⟨⟨ns, _⟩, by simp [hb, Bx]; rfl⟩
  · exact ⟨⟨ns, _⟩, by simp [hb, Bx]; rfl⟩
theorem take_eq (b : Box) (rest : Store) (n : Int) (h : 0 < n) (hn : n < 18446744073709551616) : m_law_take [.ref 1, .int n] (Bx b rest) = .ok (.int (tk b n).1, Bx (tk b n).2 rest) := by
  unfold m_law_take funD d_law_take
  obtain ⟨ns, s⟩ := b
  cases ns with
  | nil =>
    have e := eq_intsR (st := Bx ⟨[], s⟩ rest) (k := 0) (ns := []) rfl
    simp only [Bx, List.map_nil] at e
    simp [Bx, ixG, lstOf, e, mulG, modG, divG, setLG, ixN, h, tk]
  | cons x ns =>
    have e := eq_intsR (st := Bx ⟨x :: ns, s⟩ rest) (k := 0) (ns := x :: ns) rfl
    simp only [Bx, List.map_cons] at e
    have hl : (0 : Int) < (ns.length : Int) + 1 := by omega
    by_cases h1 : x / n = 0
    · simp [Bx, ixG, lstOf, e, mulG, modG, divG, setLG, ixN, h, hl, hn, h1, tyM, popG, tk]
    · by_cases h2 : x / n = -1
      · simp [Bx, ixG, lstOf, e, mulG, modG, divG, setLG, ixN, h, hl, hn, h2, tyM, popG, tk]
      · simp [Bx, ixG, lstOf, e, mulG, modG, divG, setLG, ixN, h, hl, hn, h1, h2, tk]
theorem take_ok (b : Box) (rest : Store) (n : Int) (h : 0 < n) (hn : n < 2 ^ 64) : ∃ i b', (0 ≤ i ∧ i < n) ∧ m_law_take [.ref 1, .int n] (Bx b rest) = .ok (.int i, Bx b' rest) :=
  ⟨_, _, ⟨tk_lo b h, tk_hi b h⟩, take_eq b rest n h hn⟩
theorem atI_mem {A : Type} {l : List A} {i : Int} (h0 : 0 ≤ i) (h1 : i < l.length) : ∃ x, atI l i = some x ∧ x ∈ l := by
  rw [atI_int l i h0]
  have : i.toNat < l.length := by omega
  exact ⟨l[i.toNat], by simp [this], by simp⟩
def m_law_sign : FV := funD 2 (d_law_sign m_law_take)
def everySign : List Nat := [32, 33, 34, 35, 36, 38, 39, 40, 41, 42, 43, 44, 45, 46, 47, 48, 49, 50, 51, 52, 53, 54, 55, 56, 57, 58, 59, 60, 61, 62, 63, 64, 65, 66, 67, 68, 69, 70, 71, 72, 73, 74, 75, 76, 77, 78, 79, 80, 81, 82, 83, 84, 85, 86, 87, 88, 89, 90, 91, 92, 93, 94, 95, 96, 97, 98, 99, 100, 101, 102, 103, 104, 105, 106, 107, 108, 109, 110, 111, 112, 113, 114, 115, 116, 117, 118, 119, 120, 121, 122, 123, 124, 125, 126]
theorem sign_ok (b : Box) (rest : Store) : ∃ c b', okSign c = true ∧ m_law_sign [.ref 1] (Bx b rest) = .ok (.str [c], Bx b' rest) := by
  obtain ⟨c, e, m⟩ := atI_mem (l := everySign) (tk_lo b (n := 94) (by decide)) (tk_hi b (n := 94) (by decide))
  refine ⟨c, (tk b 94).2, ?_, ?_⟩
  · have : ∀ c ∈ everySign, okSign c = true := by decide
    exact this c m
  · unfold m_law_sign funD d_law_sign
    unfold everySign at e
    simp [take_eq, ixG, e]
theorem joinL_ones (cs : List Nat) : TL.joinL [] (cs.map fun c => [c]) = cs := by
  induction cs with
  | nil => rfl
  | cons c cs ih =>
    cases cs with
    | nil => rfl
    | cons d cs =>
      simp only [List.map_cons] at ih ⊢
      rw [TL.joinL, ih]; rfl
theorem join_ones (cs : List Nat) (st : Store) (h : cs.length ≤ LIM) : joinG st (.str []) [.lst ((cs.map fun c => [c]).map D.str)] = .ok (.str cs, st) := by
  unfold joinG
  simp only [lstOf, Option.bind_some, strsOf_map]
  have e : ((cs.map fun c => [c]).map List.length).sum = cs.length := by
    induction cs with
    | nil => rfl
    | cons c cs ih => simp_all; omega
  rw [e, joinL_ones]
  simp [h]
theorem join_ones' (cs : List Nat) (st : Store) (h : cs.length ≤ LIM) : joinG st (.str []) [.lst (cs.map (D.str ∘ fun c => [c]))] = .ok (.str cs, st) := by
  rw [← List.map_map]; exact join_ones cs st h
def m_law_cell : FV := funD 6 (d_law_cell m_law_take m_law_sign)
theorem okCell_num {k : Int} (h0 : 0 ≤ k) (h : k < 10 ^ 9) : okCell (TL.numL k.toNat) = true ∧ okCell (45 :: TL.numL k.toNat) = true := by
  have hl : (TL.numL k.toNat).length ≤ 9 := TL.numL_len (by decide) (by omega)
  have ha : ∀ c ∈ TL.numL k.toNat, okSign c = true := fun c hc => by
    have := TL.numL_digits _ c hc
    simp [okSign]
    omega
  have hb : okSign 45 = true := by decide
  refine ⟨?_, ?_⟩
  · simp only [okCell, Bool.and_eq_true, decide_eq_true_eq, List.all_eq_true]
    exact ⟨by omega, ha⟩
  · simp only [okCell, Bool.and_eq_true, decide_eq_true_eq, List.all_eq_true, List.length_cons, List.mem_cons]
    refine ⟨by omega, fun c hc => ?_⟩
    rcases hc with rfl | hc
    · exact hb
    · exact ha c hc
theorem cell_ok (b : Box) (rest : Store) (sort : Int) : ∃ s b', okCell s = true ∧ m_law_cell [.ref 1, .int sort] (Bx b rest) = .ok (.str s, Bx b' rest) := by
  unfold m_law_cell funD d_law_cell
  simp [take_eq]
  have h0 := tk_lo b (n := 9) (by decide)
  have h9 := tk_hi b (n := 9) (by decide)
  generalize tk b 9 = p at h0 h9 ⊢
  obtain ⟨way, b⟩ := p
  simp only at h0 h9 ⊢
  by_cases h : way = 0
  · exact ⟨[], by decide, b, by simp [h]⟩
  simp [h]
  have len2 : (([D.str [], D.str [45]] : List D).length : Int) = 2 := rfl
  have t3 := tk_lo b (n := 3) (by decide)
  have t3' := tk_hi b (n := 3) (by decide)
  obtain ⟨x, ex, mx⟩ := atI_mem (l := [D.str [], D.str [45]]) (i := (tk b 3).1 / 2) (by omega) (by rw [len2]; omega)
  obtain ⟨y, ey, my⟩ := atI_mem (l := [D.int 10, D.int 1000, D.int 1000000000]) (i := (tk (tk b 3).2 3).1) (tk_lo _ (by decide)) (tk_hi _ (by decide))
  have hy : ∃ n : Int, y = .int n ∧ 0 < n ∧ n ≤ 1000000000 := by
    simp at my
    rcases my with rfl | rfl | rfl <;> exact ⟨_, rfl, by decide, by decide⟩
  obtain ⟨n, rfl, n0, n9⟩ := hy
  have n64 : n < 18446744073709551616 := by omega
  have k0 := tk_lo (tk (tk b 3).2 3).2 n0
  have k1 := tk_hi (tk (tk b 3).2 3).2 n0
  by_cases hc : way = 1 ∨ sort = 0 ∧ way < 7
  · have q := okCell_num k0 (by omega)
    have ql : (TL.numL (tk (tk (tk b 3).2 3).2 n).1.toNat).length + 1 ≤ LIM := le_LIM (by have := q.2; simp [okCell] at this; omega)
    have ql' : (TL.numL (tk (tk (tk b 3).2 3).2 n).1.toNat).length ≤ LIM := Nat.le_trans (Nat.le_succ _) ql
    have e18 : (tk (tk (tk b 3).2 3).2 n).1 < 1000000000000000000 := by omega
    simp at mx
    rcases hc with hc | ⟨hc, hc'⟩ <;> rcases mx with rfl | rfl <;> simp [*, Nat.add_comm 1, ltG, ixG, lstOf, divG, powG, strG, addG, take_eq]
    all_goals first | exact ⟨_, q.1, _, rfl, rfl⟩ | exact ⟨_, q.2, _, rfl, rfl⟩ | exact ⟨_, q.1, rfl, _, rfl⟩ | exact ⟨_, q.2, rfl, _, rfl⟩
  · have c1 : ¬ way = 1 := fun z => hc (.inl z)
    have step : ∀ st : Store, (if way = 1 then R.ok (true, st) else if sort = 0 then R.ok (decide (way < 7), st) else R.ok (false, st)) = R.ok (false, st) := fun st => by
      by_cases hs : sort = 0
      · have : ¬ way < 7 := fun z => hc (.inr ⟨hs, z⟩)
        simp [c1, hs, this]
      · simp [c1, hs]
    simp [ltG, step]
    by_cases h2 : way = 2
    · obtain ⟨z, ez, mz⟩ := atI_mem (l := [D.str [45], D.str [45, 45, 49], D.str [49, 45], D.str [48, 120], D.str [32, 49], D.str [49, 32], D.str [45, 48], D.str [48, 48, 55], D.str [32], D.str [32, 32, 32], D.str [49, 50, 51, 52, 53, 54, 55, 120], D.str [49, 50, 51, 52, 53, 54, 55, 56, 45], D.str [45, 48, 48, 48, 48, 48, 48, 48, 32, 49]]) (i := (tk b 13).1) (tk_lo _ (by decide)) (tk_hi _ (by decide))
      have hz : ∃ s, z = .str s ∧ okCell s = true := by
        simp at mz
        rcases mz with rfl | rfl | rfl | rfl | rfl | rfl | rfl | rfl | rfl | rfl | rfl | rfl | rfl <;> exact ⟨_, rfl, by decide⟩
      obtain ⟨s, rfl, hs⟩ := hz
      simp [h2, take_eq, ixG, lstOf, ez]
      exact ⟨s, hs, rfl, _, rfl⟩
    · obtain ⟨y, ey, my⟩ := atI_mem (l := [D.int 3, D.int 10]) (i := (tk b 2).1) (tk_lo _ (by decide)) (tk_hi _ (by decide))
      have hy : ∃ n : Int, y = .int n ∧ 0 < n ∧ n ≤ 10 := by
        simp at my
        rcases my with rfl | rfl <;> exact ⟨_, rfl, by decide, by decide⟩
      obtain ⟨n, rfl, n0, n9⟩ := hy
      have n64 : n < 18446744073709551616 := by omega
      have k0 := tk_lo (tk b 2).2 n0
      have k1 := tk_hi (tk b 2).2 n0
      simp [h2, take_eq, ixG, lstOf, addG, ey, n0, n64]
      generalize tk (tk b 2).2 n = p at k0 k1 ⊢
      obtain ⟨m, b⟩ := p
      simp only at k0 k1 ⊢
      have m1 : -1000000 ≤ 1 + m ∧ 1 + m ≤ 1000000 := by omega
      have m2 : (1 + m).toNat ≤ LIM := le_LIM (by omega)
      by_cases h6 : way < 6
      · simp [ltG, h6, m1, m2]
        generalize hf : lcGo _ _ _ _ _ _ _ _ = r
        obtain ⟨acc, s, rfl, cs, b', hc1, hc2, rfl, hc3⟩ := lc_at hf (fun i acc st' => ∃ cs b', cs.length = i ∧ (∀ c ∈ cs, okSign c = true) ∧ acc = (cs.map fun c => [c]).map D.str ∧ st' = Bx b' rest) ⟨[], b, rfl, by simp, rfl, rfl⟩ (fun _ _ _ _ _ => rfl) (fun i x acc st' hi ⟨cs, b', e1, e2, e3, e4⟩ => by
          subst e3 e4
          obtain ⟨c, ec, mc⟩ := atI_mem (l := [97, 98, 99, 100, 101, 102, 103, 104, 105, 106]) (i := (tk b' 10).1) (tk_lo _ (by decide)) (tk_hi _ (by decide))
          have hc : okSign c = true := by
            have : ∀ c ∈ ([97, 98, 99, 100, 101, 102, 103, 104, 105, 106] : List Nat), okSign c = true := by decide
            exact this c mc
          refine ⟨_, rfl, ?_⟩
          simp [take_eq, ixG, ec]
          exact ⟨cs ++ [c], by simp [e1], fun x hx => by simp at hx; rcases hx with hx | rfl <;> first | exact e2 _ hx | exact hc, by simp, _, rfl⟩)
        have hcl : cs.length ≤ 10 := by simp at hc1; omega
        have hk : okCell cs = true := by
          simp only [okCell, Bool.and_eq_true, decide_eq_true_eq, List.all_eq_true]
          exact ⟨hcl, hc2⟩
        subst hc3
        simp [tyM, join_ones' cs _ (le_LIM (by omega))]
        exact ⟨cs, hk, rfl, _, rfl⟩
      · simp [ltG, h6, m1, m2]
        generalize hf : lcGo _ _ _ _ _ _ _ _ = r
        obtain ⟨acc, s, rfl, cs, b', hc1, hc2, rfl, hc3⟩ := lc_at hf (fun i acc st' => ∃ cs b', cs.length = i ∧ (∀ c ∈ cs, okSign c = true) ∧ acc = (cs.map fun c => [c]).map D.str ∧ st' = Bx b' rest) ⟨[], b, rfl, by simp, rfl, rfl⟩ (fun _ _ _ _ _ => rfl) (fun i x acc st' hi ⟨cs, b', e1, e2, e3, e4⟩ => by
          subst e3 e4
          obtain ⟨c, b2, hc, ec⟩ := sign_ok b' rest
          refine ⟨_, rfl, ?_⟩
          simp [ec]
          exact ⟨cs ++ [c], by simp [e1], fun x hx => by simp at hx; rcases hx with hx | rfl <;> first | exact e2 _ hx | exact hc, by simp, _, rfl⟩)
        have hcl : cs.length ≤ 10 := by simp at hc1; omega
        have hk : okCell cs = true := by
          simp only [okCell, Bool.and_eq_true, decide_eq_true_eq, List.all_eq_true]
          exact ⟨hcl, hc2⟩
        subst hc3
        simp [tyM, join_ones' cs _ (le_LIM (by omega))]
        exact ⟨cs, hk, rfl, _, rfl⟩
end Dl
namespace Dl
open PySem L2
theorem ints_get {n : Nat} {i : Nat} {x : D} (h : (intsD 0 n)[i]? = some x) : i < n ∧ x = .int i := by
  have hi := (List.getElem?_eq_some_iff.mp h).1
  rw [intsD_len] at hi
  rw [ints_at 0 n i hi] at h
  cases h
  exact ⟨hi, by simp⟩
theorem ixN_last (n : Nat) : ixN (n + 1) (-1) = some n := by
  have h1 : ¬ (0 : Int) ≤ -1 := by decide
  have h2 : -(((n + 1 : Nat)) : Int) ≤ -1 := by omega
  rw [ixN, if_neg h1, if_pos h2]
  congr 1
  omega
theorem mem_encP {p : Page} {y : D} (h : y ∈ encP p) : ∃ r, r ∈ p ∧ y = encR r := by
  obtain ⟨r, hr, rfl⟩ := List.mem_map.mp h; exact ⟨r, hr, rfl⟩
def m_law_row : FV := funD 4 (d_law_row m_law_cell)
theorem row_ok (b : Box) (rest : Store) (sorts : List Int) (n : Int) (h1 : 1 ≤ n) (h6 : n ≤ 6) (hs : sorts.length = 6) : ∃ r b', okRow r = true ∧ m_law_row [.ref 1, .lst (sorts.map .int), .int n] (Bx b rest) = .ok (encR r, Bx b' rest) := by
  unfold m_law_row funD d_law_row
  have m1 : -1000000 ≤ n ∧ n ≤ 1000000 := by omega
  have m2 : n.toNat ≤ LIM := le_LIM (by omega)
  simp [m1, m2]
  generalize hf : lcGo _ _ _ _ _ _ _ _ = r
  obtain ⟨acc, s, rfl, cs, b', hc1, hc2, rfl, hc3⟩ := lc_at hf (fun i acc st' => ∃ cs b', cs.length = i ∧ (∀ c ∈ cs, okCell c = true) ∧ acc = cs.map D.str ∧ st' = Bx b' rest) ⟨[], b, rfl, by simp, rfl, rfl⟩ (fun _ _ _ _ _ => rfl) (fun i x acc st' hi ⟨cs, b', e1, e2, e3, e4⟩ => by
    subst e3 e4
    obtain ⟨hi, rfl⟩ := ints_get hi
    have his : i < sorts.length := by omega
    obtain ⟨c, b2, hc, ec⟩ := cell_ok b' rest sorts[i]
    have ei : atI (sorts.map D.int) (i : Int) = some (.int sorts[i]) := by rw [atI_nat]; simp [his]
    refine ⟨_, rfl, ?_⟩
    simp [ixG, lstOf, ei, ec]
    exact ⟨cs ++ [c], by simp [e1], fun x hx => by simp at hx; rcases hx with hx | rfl <;> first | exact e2 _ hx | exact hc, by simp, _, rfl⟩)
  subst hc3
  rw [intsD_len] at hc1
  simp [tupG, lstOf]
  refine ⟨cs, ?_, rfl, _, rfl⟩
  simp only [okRow, Bool.and_eq_true, decide_eq_true_eq, List.all_eq_true]
  exact ⟨⟨by omega, by omega⟩, hc2⟩
def m_law_page : FV := funD 8 (d_law_page m_law_take m_law_row)
theorem page_ok (b : Box) (rest : Store) (n : Int) (h1 : 1 ≤ n) (h6 : n ≤ 30) : ∃ p b', okPage p = true ∧ (p.length : Int) ≤ n ∧ m_law_page [.ref 1, .int n] (Bx b rest) = .ok (.ref (rest.length + 2), Bx b' (rest ++ [.lst (encP p)])) := by
  unfold m_law_page funD d_law_page
  have m1 : -1000000 ≤ n ∧ n ≤ 1000000 := by omega
  have m2 : n.toNat ≤ LIM := le_LIM (by omega)
  simp [show (6 : Int).toNat = 6 from rfl]
  generalize hf : lcGo _ _ _ _ _ _ _ _ = r
  obtain ⟨acc, s, rfl, cs, b', hc1, rfl, hc3⟩ := lc_at hf (fun i acc st' => ∃ cs b', cs.length = i ∧ acc = cs.map D.int ∧ st' = Bx b' rest) ⟨[], b, rfl, rfl, rfl⟩ (fun _ _ _ _ _ => rfl) (fun i x acc st' hi ⟨cs, b', e1, e3, e4⟩ => by
    subst e3 e4
    refine ⟨_, rfl, ?_⟩
    simp [take_eq]
    exact ⟨cs ++ [_], by simp [e1], by simp; rfl, _, rfl⟩)
  subst hc3
  rw [intsD_len] at hc1
  simp [take_eq, addG]
  have k0 := tk_lo b' (n := 6) (by decide)
  have k1 := tk_hi b' (n := 6) (by decide)
  generalize tk b' 6 = q at k0 k1 ⊢
  obtain ⟨m, b⟩ := q
  simp only at k0 k1 ⊢
  have n0 : 0 < n := by omega
  have n64 : n < 18446744073709551616 := by omega
  have z0 := tk_lo b n0
  have z1 := tk_hi b n0
  simp [n0, n64, take_eq, addG]
  generalize tk b n = q at z0 z1 ⊢
  obtain ⟨t, b⟩ := q
  simp only at z0 z1 ⊢
  have m1 : -1000000 ≤ 1 + t ∧ 1 + t ≤ 1000000 := by omega
  simp [m1]
  generalize hf : forGo _ _ _ _ _ _ = r
  obtain ⟨e, st, rfl, p, b', many, a5, a6, a7, e1, e2, rfl, e4, he⟩ := for_at hf (fun i env st' => ∃ p b' many a5 a6 a7, p.length = i ∧ (∀ r ∈ p, okRow r = true) ∧ st' = Bx b' (rest ++ [.lst (encP p)]) ∧ (1 ≤ many ∧ many ≤ 6) ∧ env = [some (.ref 1), some (.int n), some (.lst (cs.map D.int)), some (.int many), some (.ref (rest.length + 2)), a5, a6, a7])
    ⟨[], b, _, _, _, _, rfl, by simp, rfl, by omega, rfl⟩ (fun _ _ _ _ _ => rfl) (fun i x env st' hi ⟨p, b, many, a5, a6, a7, e1, e2, e3, e4, e5⟩ => by
      subst e3 e5
      obtain ⟨hi, rfl⟩ := ints_get hi
      have w0 := tk_lo b (n := 8) (by decide)
      have w1 := tk_hi b (n := 8) (by decide)
      have v0 := tk_lo (tk b 8).2 (n := 6) (by decide)
      have v1 := tk_hi (tk b 8).2 (n := 6) (by decide)
      obtain ⟨y, ey, my⟩ := atI_mem (l := [D.int (1 + (tk (tk b 8).2 6).1), D.int (max 1 (many - 1)), D.int (min 6 (many + 1)), D.int many]) (i := min (tk b 8).1 3) (by omega) (by
        show min (tk b 8).1 3 < 4
        omega)
      have hy : ∃ n : Int, y = .int n ∧ 1 ≤ n ∧ n ≤ 6 := by
        simp at my
        rcases my with rfl | rfl | rfl | rfl <;> exact ⟨_, rfl, by omega, by omega⟩
      obtain ⟨k, rfl, k1, k2⟩ := hy
      obtain ⟨r, b2, hr, er⟩ := row_ok (tk (tk b 8).2 6).2 (rest ++ [.lst (encP p)]) cs k k1 k2 hc1
      have pl : p.length < LIM := lt_LIM (by omega)
      simp [take_eq, addG, subG, maxG, minG, ixG, lstOf, ey, er, tyM, appendG, pl]
      by_cases h7 : (tk b 8).1 = 7
      · have c0 : (0 : Int) < p.length + 1 := by omega
        have c1 : (p.length : Int) + 1 < 18446744073709551616 := by omega
        have u0 := tk_lo b2 c0
        have u1 := tk_hi b2 c0
        obtain ⟨y, ey2, my2⟩ := atI_mem (l := encP p ++ [encR r]) (i := (tk b2 ((p.length : Int) + 1)).1) u0 (by simp; omega)
        have hy : ∃ r2, okRow r2 = true ∧ y = encR r2 := by
          rcases List.mem_append.mp my2 with h | h
          · obtain ⟨r2, m, rfl⟩ := mem_encP h; exact ⟨r2, e2 _ m, rfl⟩
          · simp at h; exact ⟨r, hr, h⟩
        obtain ⟨r2, hr2, rfl⟩ := hy
        have er2 : lenG (Bx (tk b2 ((p.length : Int) + 1)).2 (rest ++ [.lst (encP p ++ [encR r2])])) [encR r2] = .ok (.int r2.length, Bx (tk b2 ((p.length : Int) + 1)).2 (rest ++ [.lst (encP p ++ [encR r2])])) := by simp [lenG, encR]
        have es : (encP p ++ [encR r]).set p.length (encR r2) = encP p ++ [encR r2] := by
          rw [← encP_len p, List.set_append_right _ _ (Nat.le_refl _)]; simp
        have el : lenG (Bx b2 (rest ++ [.lst (encP p ++ [encR r])])) [.ref (rest.length + 2)] = .ok (.int ((p.length : Int) + 1), Bx b2 (rest ++ [.lst (encP p ++ [encR r])])) := by simp [lenG, lstOf]
        simp [h7, el, ixG, lstOf, take_eq, c0, c1, ey2, setLG, ixN_last, es, atI_last, er2]
        simp only [okRow, Bool.and_eq_true, decide_eq_true_eq] at hr2
        refine ⟨p ++ [r2], by simp [e1], fun x hx => ?_, ⟨_, by simp [encP]; rfl⟩, by omega, by omega⟩
        simp at hx
        rcases hx with hx | rfl
        · exact e2 _ hx
        · simp only [okRow, Bool.and_eq_true, decide_eq_true_eq]; exact hr2
      · simp [h7]
        refine ⟨p ++ [r], by simp [e1], fun x hx => ?_, ⟨_, by simp [encP]; rfl⟩, k1, k2⟩
        simp at hx
        rcases hx with hx | rfl
        · exact e2 _ hx
        · exact hr)
  subst he
  rw [intsD_len] at e1
  simp
  refine ⟨p, ?_, by omega, _, rfl⟩
  simp only [okPage, Bool.and_eq_true, decide_eq_true_eq, List.all_eq_true]
  exact ⟨⟨by omega, by omega⟩, e2⟩
end Dl
namespace Dl
open PySem L2
theorem okRow_parts {r : Row} (h : okRow r = true) : 1 ≤ r.length ∧ r.length ≤ 6 ∧ ∀ c ∈ r, okCell c = true := by
  simp only [okRow, Bool.and_eq_true, decide_eq_true_eq, List.all_eq_true] at h
  exact ⟨h.1.1, h.1.2, h.2⟩
theorem okPage_parts {p : Page} (h : okPage p = true) : 1 ≤ p.length ∧ p.length ≤ 30 ∧ ∀ r ∈ p, okRow r = true := by
  simp only [okPage, Bool.and_eq_true, decide_eq_true_eq, List.all_eq_true] at h
  exact ⟨h.1.1, h.1.2, h.2⟩
theorem okCell_parts {c : List Nat} (h : okCell c = true) : c.length ≤ 10 ∧ ∀ x ∈ c, 32 ≤ x ∧ x ≤ 126 ∧ x ≠ 37 := by
  simp only [okCell, Bool.and_eq_true, decide_eq_true_eq, List.all_eq_true] at h
  refine ⟨h.1, fun x hx => ?_⟩
  have := h.2 x hx
  simp only [okSign, Bool.and_eq_true, decide_eq_true_eq] at this
  omega
theorem take_snoc {A : Type} {l : List A} {i : Nat} {a : A} (h : l[i]? = some a) : l.take (i + 1) = l.take i ++ [a] := by
  rw [List.take_add_one, h]; rfl
theorem ix_list {st : Store} {d : D} {w : Wk} (h : listOf st d = some w) (i : Int) : ixG st d (.int i) = R.of ((atI w.1 i).map fun x => (x, st)) := by
  have e := lst_list h
  unfold listOf at h
  split at h
  · simp [ixG, e]
  · simp [ixG, e]
  · cases h
end Dl
namespace Dl
open PySem L2
/-- the class's field -/
def payOf : Nat → Option Str
  | 1 => some "row" | 8 => some "line" | 9 => some "number" | 10 => some "number" | 11 => some "row" | _ => none
end Dl
namespace Dl
open PySem L2
/-- is_line: 2 slots, 1 parameters -/
def d_is_line (m_is_sign : FV) : SV := sRet (eAnd (eIs "str" (eV 0)) (eAnd (eOp leG (eB lenG (aCons (eV 0) (aNil))) (eC (.int 200))) (eOp (eqG false) (eLc false (iSeq (eV 0)) [1] (.one 1) (tNotD (tv (eCall 1 m_is_sign (aCons (eV 1) (aNil))))) (eV 1)) (eLst false (aNil)))))
/-- need_lines: 3 slots, 1 parameters -/
def d_need_lines (m_is_line : FV) : SV := sFor (iEn (aCons (eV 0) (aNil))) (gTp 2 (gsCons (gN 1) (gsCons (gN 2) (gsNil)))) (sIf (tOrD (tv (eOp geG (eV 1) (eC (.int 30)))) (tNotD (tv (eCall 1 m_is_line (aCons (eV 2) (aNil)))))) (sRaiseP 8 (eV 1)) (sNext))
end Dl
namespace Dl
open PySem L2
theorem while_at {t : TV} {b : SV} (I : Nat → Env → Store → Prop) (Q : Env → Store → Prop)
    (turn : ∀ n env st, I n env st → (t env st).to fun c st1 => if c = true then (b env st1).turn fun e s => ∃ m, m < n ∧ I m e s else Q env st1) :
    ∀ fuel n env st, n < fuel → I n env st → ∃ e s, whileGo t b fuel env st = .nx e s ∧ Q e s := by
  intro fuel
  induction fuel with
  | zero => intro n env st h; omega
  | succ fuel ih =>
    intro n env st h hI
    have z := turn n env st hI
    unfold whileGo
    cases q : t env st with
    | ok a =>
      obtain ⟨c, st1⟩ := a
      rw [q] at z
      simp only [to_ok] at z
      simp only [sOf_ok]
      cases c with
      | true =>
        simp only [if_true] at z ⊢
        obtain ⟨e, s, h1, m, h2, h3⟩ := turn_ex z
        obtain ⟨e', s', r1, r2⟩ := ih m e s (by omega) h3
        rcases h1 with h1 | h1 <;> rw [h1] <;> exact ⟨e', s', r1, r2⟩
      | false => exact ⟨env, st1, rfl, by simpa using z⟩
    | exc c p s => rw [q] at z; exact z.elim
    | bad => rw [q] at z; exact z.elim
theorem while_go {t : TV} {b : SV} {fuel n : Nat} {env : Env} {st : Store} {r : SR} (hw : whileGo t b fuel env st = r) (I : Nat → Env → Store → Prop) (Q : Env → Store → Prop) (hn : n < fuel) (h0 : I n env st)
    (turn : ∀ n env st, I n env st → (t env st).to fun c st1 => if c = true then (b env st1).turn fun e s => ∃ m, m < n ∧ I m e s else Q env st1) : ∃ e s, r = .nx e s ∧ Q e s := by
  subst hw; exact while_at I Q turn fuel n env st hn h0
def All2 {A B : Type} (R : A → B → Prop) : List A → List B → Prop
  | [], [] => True
  | a :: as, b :: bs => R a b ∧ All2 R as bs
  | _, _ => False
theorem All2.len {A B : Type} {R : A → B → Prop} : ∀ {as : List A} {bs : List B}, All2 R as bs → as.length = bs.length
  | [], [], _ => rfl
  | a :: as, b :: bs, h => by simp [All2.len h.2]
  | [], _ :: _, h => h.elim
  | _ :: _, [], h => h.elim
theorem All2.imp {A B : Type} {R S : A → B → Prop} (k : ∀ a b, R a b → S a b) : ∀ {as : List A} {bs : List B}, All2 R as bs → All2 S as bs
  | [], [], _ => trivial
  | a :: as, b :: bs, h => ⟨k _ _ h.1, All2.imp k h.2⟩
  | [], _ :: _, h => h.elim
  | _ :: _, [], h => h.elim
theorem All2.app {A B : Type} {R : A → B → Prop} : ∀ {as as' : List A} {bs bs' : List B}, All2 R as bs → All2 R as' bs' → All2 R (as ++ as') (bs ++ bs')
  | [], _, [], _, _, k => k
  | a :: as, _, b :: bs, _, h, k => ⟨h.1, All2.app h.2 k⟩
  | [], _, _ :: _, _, h, _ => h.elim
  | _ :: _, _, [], _, h, _ => h.elim
theorem All2.get {A B : Type} {R : A → B → Prop} : ∀ {as : List A} {bs : List B} {i : Nat} {a : A}, All2 R as bs → as[i]? = some a → ∃ b, bs[i]? = some b ∧ R a b
  | a :: as, b :: bs, 0, x, h, e => by simp at e; subst e; exact ⟨b, rfl, h.1⟩
  | a :: as, b :: bs, i + 1, x, h, e => by simpa using All2.get h.2 (by simpa using e)
  | [], [], _, _, _, e => by simp at e
  | [], _ :: _, _, _, h, _ => h.elim
  | _ :: _, [], _, _, h, _ => h.elim
mutual
/-- d reads as the plain x -/
def Rd (st : Store) : D → D → Prop
  | d, .tup xs => ∃ ds, d = .tup ds ∧ Rds st ds xs
  | d, .lst xs => ∃ ds w, listOf st d = some (ds, w) ∧ Rds st ds xs
  | d, .non => d = .non
  | d, .bl b => d = .bl b
  | d, .int i => d = .int i
  | d, .str s => d = .str s
  | _, .ref _ => False
  | _, .scr _ => False
  | _, .exn _ _ => False
def Rds (st : Store) : List D → List D → Prop
  | [], [] => True
  | d :: ds, x :: xs => Rd st d x ∧ Rds st ds xs
  | _, _ => False
end
/-- what stays of the store -/
def Stays (st st' : Store) : Prop := ∀ (k : Nat) (ds : List D), st[k]? = some (.lst ds) → st'[k]? = some (.lst ds)
theorem listOf_stays {st st' : Store} (s : Stays st st') {d : D} {w : Wk} (h : listOf st d = some w) : listOf st' d = some w := by
  unfold listOf at h
  split at h
  · exact h
  · split at h
    · rename_i n ds e
      cases h
      have e' := s _ _ e
      simp [listOf, e']
    · cases h
  · cases h
mutual
theorem Rd.stays {st st' : Store} (s : Stays st st') : ∀ {x d : D}, Rd st d x → Rd st' d x
  | .tup xs, d, h => by
    rw [Rd] at h ⊢
    obtain ⟨ds, e, k⟩ := h
    exact ⟨ds, e, Rds.stays s k⟩
  | .lst xs, d, h => by
    rw [Rd] at h ⊢
    obtain ⟨ds, w, e, k⟩ := h
    exact ⟨ds, w, listOf_stays s e, Rds.stays s k⟩
  | .non, d, h => by rw [Rd] at h ⊢; exact h
  | .bl _, d, h => by rw [Rd] at h ⊢; exact h
  | .int _, d, h => by rw [Rd] at h ⊢; exact h
  | .str _, d, h => by rw [Rd] at h ⊢; exact h
  | .ref _, d, h => by rw [Rd] at h; exact h.elim
  | .scr _, d, h => by rw [Rd] at h; exact h.elim
  | .exn _ _, d, h => by rw [Rd] at h; exact h.elim
theorem Rds.stays {st st' : Store} (s : Stays st st') : ∀ {xs ds : List D}, Rds st ds xs → Rds st' ds xs
  | [], [], h => by rw [Rds] at h ⊢; trivial
  | x :: xs, d :: ds, h => by
    rw [Rds] at h ⊢
    exact ⟨Rd.stays s h.1, Rds.stays s h.2⟩
  | [], _ :: _, h => by simp [Rds] at h
  | _ :: _, [], h => by simp [Rds] at h
end
theorem Stays.app (st more : Store) : Stays st (st ++ more) := fun k ds e => by
  have h := (List.getElem?_eq_some_iff.mp e).1
  rw [List.getElem?_append_left h]; exact e
theorem Stays.refl (st : Store) : Stays st st := fun _ _ e => e
theorem Stays.trans {a b c : Store} (x : Stays a b) (y : Stays b c) : Stays a c := fun k ds e => y k ds (x k ds e)
mutual
/-- plain, truth values too -/
def D.pk : D → Bool
  | .tup ds => D.pks ds
  | .lst ds => D.pks ds
  | .ref _ => false
  | .scr _ => false
  | .exn _ _ => false
  | _ => true
def D.pks : List D → Bool
  | [] => true
  | d :: ds => D.pk d && D.pks ds
end
mutual
theorem rd_self {st : Store} : ∀ {x : D}, D.pk x = true → Rd st x x
  | .tup xs, h => by
    rw [D.pk] at h
    rw [Rd]; exact ⟨xs, rfl, rds_self h⟩
  | .lst xs, h => by
    rw [D.pk] at h
    rw [Rd]; exact ⟨xs, [], rfl, rds_self h⟩
  | .non, _ => by rw [Rd]
  | .bl _, _ => by rw [Rd]
  | .int _, _ => by rw [Rd]
  | .str _, _ => by rw [Rd]
  | .ref _, h => by simp [D.pk] at h
  | .scr _, h => by simp [D.pk] at h
  | .exn _ _, h => by simp [D.pk] at h
theorem rds_self {st : Store} : ∀ {xs : List D}, D.pks xs = true → Rds st xs xs
  | [], _ => by rw [Rds]; trivial
  | x :: xs, h => by
    simp only [D.pks, Bool.and_eq_true] at h
    rw [Rds]
    exact ⟨rd_self h.1, rds_self h.2⟩
end
mutual
/-- no list of it is too long -/
def D.sm : D → Bool
  | .tup ds => decide (ds.length ≤ 1000000) && D.sms ds
  | .lst ds => decide (ds.length ≤ 1000000) && D.sms ds
  | _ => true
def D.sms : List D → Bool
  | [] => true
  | d :: ds => D.sm d && D.sms ds
end
end Dl
namespace Dl
open PySem L2
/-- is_number: 3 slots, 3 parameters -/
def d_is_number : SV := sRet (eAnd (eIs "int" (eV 0)) (eAnd (eNot (eIs "bool" (eV 0))) (eChain leG leG (eV 1) (eV 0) (eV 2))))
/-- need_style: 1 slots, 1 parameters -/
def d_need_style (m_is_number : FV) : SV := sCons (sIf (tOrD (tNotD (tv (eIs "tuple" (eV 0)))) (tv (eOp (eqG true) (eB lenG (aCons (eV 0) (aNil))) (eC (.int 2))))) (sBad) (sNext)) (sIf (tOrD (tNotD (tv (eCall 3 m_is_number (aCons (eOp ixG (eV 0) (eC (.int 0))) (aCons (eC (.int 0)) (aCons (eC (.int 4)) (aNil))))))) (tNotD (tv (eCall 3 m_is_number (aCons (eOp ixG (eV 0) (eC (.int 1))) (aCons (eC (.int 0)) (aCons (eC (.int 12)) (aNil)))))))) (sBad) (sNext))
/-- Stretch_init: 4 slots, 4 parameters -/
def d_Stretch_init : SV := sCons (sFldD 12 "column" (eV 0) (eV 1)) (sCons (sFldD 12 "begin" (eV 0) (eV 2)) (sCons (sFldD 12 "end" (eV 0) (eOp (addG false) (eV 2) (eB lenG (aCons (eV 3) (aNil))))) (sFldD 12 "cells" (eV 0) (eV 3))))
/-- stretches_of: 9 slots, 4 parameters -/
def d_stretches_of (m_Stretch_init : FV) : SV := sCons (sAsg (eLst true (aNil)) (gN 4)) (sCons (sAsg (eC .non) (gN 5)) (sCons (sFor (iR2 (aCons (eV 2) (aCons (eOp (addG false) (eV 3) (eC (.int 1))) (aNil)))) (gN 6) (sCons (sAsg (eAnd (eOp ltG (eV 6) (eV 3)) (eOp gtG (eB lenG (aCons (eOp ixG (eV 0) (eV 6)) (aNil))) (eOp (addG false) (eV 1) (eC (.int 1))))) (gN 7)) (sCons (sIf (tAndD (tv (eV 7)) (tv (eOp (isG false) (eV 5) (eC .non)))) (sAsg (eV 6) (gN 5)) (sNext)) (sIf (tAndD (tNotD (tv (eV 7))) (tv (eOp (isG true) (eV 5) (eC .non)))) (sCons (sExpr (eMt "list" (appendG) (eV 4) (aCons (eMake 12 4 m_Stretch_init (aCons (eV 1) (aCons (eV 5) (aCons (eLc false (iR2 (aCons (eV 5) (aCons (eV 6) (aNil)))) [8] (.one 8) (tYesD) (eOp ixG (eOp ixG (eV 0) (eV 8)) (eV 1))) (aNil))))) (aNil)))) (sAsg (eC .non) (gN 5))) (sNext))))) (sRet (eV 4))))
/-- all_stretches: 3 slots, 1 parameters -/
def d_all_stretches (m_stretches_of : FV) : SV := sCons (sAsg (eLst true (aNil)) (gN 1)) (sCons (sFor (iR1 (aCons (eOp subG (eC (.int 6)) (eC (.int 1))) (aNil))) (gN 2) (sExpr (eMt "list" (extendG) (eV 1) (aCons (eCall 4 m_stretches_of (aCons (eV 0) (aCons (eV 2) (aCons (eC (.int 0)) (aCons (eB lenG (aCons (eV 0) (aNil))) (aNil)))))) (aNil))))) (sRet (eV 1)))
/-- is_figures: 3 slots, 1 parameters -/
def d_is_figures : SV := sCons (sAsg (eIf (tv (eOp (eqG false) (eSl false (eV 0) (poNone) (poSome (eC (.int 1)))) (eC (.str [45])))) (eSl false (eV 0) (poSome (eC (.int 1))) (poNone)) (eV 0)) (gN 1)) (sRet (eAnd (eOp (eqG true) (eV 1) (eC (.str []))) (eOp (eqG false) (eLc false (iSeq (eV 1)) [2] (.one 2) (tv (eOp (inG true) (eV 2) (eC (.str [48, 49, 50, 51, 52, 53, 54, 55, 56, 57])))) (eV 2)) (eLst false (aNil)))))
/-- Stretch_is_right: 3 slots, 1 parameters -/
def d_Stretch_is_right (m_is_figures : FV) : SV := sCons (sAsg (eLc false (iSeq (eFld 12 "cells" (eV 0))) [2] (.one 2) (tv (eOp (eqG true) (eV 2) (eC (.str [])))) (eV 2)) (gN 1)) (sRet (eAnd (eOp (eqG true) (eV 1) (eLst false (aNil))) (eOp (eqG false) (eLc false (iSeq (eV 1)) [2] (.one 2) (tNotD (tv (eCall 1 m_is_figures (aCons (eV 2) (aNil))))) (eV 2)) (eLst false (aNil)))))
/-- Stretch_width: 3 slots, 2 parameters -/
def d_Stretch_width : SV := sRet (eB maxG (aCons (eOp ixG (eV 1) (eC (.int 1))) (aCons (eOp (addG false) (eB maxG (aCons (eLc false (iSeq (eFld 12 "cells" (eV 0))) [2] (.one 2) (tYesD) (eB lenG (aCons (eV 2) (aNil)))) (aNil))) (eOp ixG (eV 1) (eC (.int 0)))) (aNil))))
end Dl
namespace Dl
open PySem L2
def m_is_number : FV := funD 3 d_is_number
@[simp] theorem is_number_int (i lo hi : Int) (st : Store) : m_is_number [.int i, .int lo, .int hi] st = .ok (.bl (decide (lo ≤ i ∧ i ≤ hi)), st) := by
  unfold m_is_number funD d_is_number
  simp [tyOf, subTy, leG]
  by_cases h : lo ≤ i <;> simp [h]
def m_need_style : FV := funD 1 (d_need_style m_is_number)
structure Sty where
  g : Int
  l : Int
def Sty.ok (s : Sty) : Prop := (0 ≤ s.g ∧ s.g ≤ 4) ∧ 0 ≤ s.l ∧ s.l ≤ 12
def Sty.enc (s : Sty) : D := .tup [.int s.g, .int s.l]
theorem need_style_ok {s : Sty} (h : s.ok) (st : Store) : m_need_style [s.enc] st = .ok (.non, st) := by
  unfold m_need_style funD d_need_style Sty.enc
  simp [tyOf, subTy, lenG, ixG, h.1.1, h.1.2, h.2.1, h.2.2]
def m_law_style : FV := funD 2 (d_law_style m_law_take)
theorem style_ok (b : Box) (rest : Store) : ∃ s b', Sty.ok s ∧ m_law_style [.ref 1] (Bx b rest) = .ok (s.enc, Bx b' rest) := by
  unfold m_law_style funD d_law_style
  have a0 := tk_lo b (n := 5) (by decide)
  have a1 := tk_hi b (n := 5) (by decide)
  have b0 := tk_lo (tk b 5).2 (n := 3) (by decide)
  have b1 := tk_hi (tk b 5).2 (n := 3) (by decide)
  obtain ⟨y, ey, my⟩ := atI_mem (l := [D.int (tk b 5).1, D.int 1, D.int 2]) (i := (tk (tk b 5).2 3).1) b0 b1
  have hy : ∃ n : Int, y = .int n ∧ 0 ≤ n ∧ n ≤ 4 := by
    simp at my
    rcases my with rfl | rfl | rfl <;> exact ⟨_, rfl, by omega, by omega⟩
  obtain ⟨g, rfl, g0, g1⟩ := hy
  simp [take_eq, ixG, lstOf, ey]
  generalize (tk (tk b 5).2 3).2 = b
  have a0 := tk_lo b (n := 13) (by decide)
  have a1 := tk_hi b (n := 13) (by decide)
  have c0 := tk_lo (tk b 13).2 (n := 13) (by decide)
  have c1 := tk_hi (tk b 13).2 (n := 13) (by decide)
  have b0 := tk_lo (tk (tk b 13).2 13).2 (n := 3) (by decide)
  have b1 := tk_hi (tk (tk b 13).2 13).2 (n := 3) (by decide)
  obtain ⟨y, ez, my⟩ := atI_mem (l := [D.int 0, D.int (tk b 13).1, D.int (tk (tk b 13).2 13).1]) (i := (tk (tk (tk b 13).2 13).2 3).1) b0 b1
  have hy : ∃ n : Int, y = .int n ∧ 0 ≤ n ∧ n ≤ 12 := by
    simp at my
    rcases my with rfl | rfl | rfl <;> exact ⟨_, rfl, by omega, by omega⟩
  obtain ⟨l, rfl, l0, l1⟩ := hy
  simp [ez]
  exact ⟨⟨g, l⟩, ⟨⟨g0, g1⟩, l0, l1⟩, rfl, _, rfl⟩
def figs (s : List Nat) : Bool :=
  let rest := if s.take 1 = [45] then s.drop 1 else s
  decide (rest ≠ []) && rest.all fun c => decide (48 ≤ c ∧ c ≤ 57)
theorem cut_to {A : Type} (xs : List A) (k : Nat) : cutD xs none (some (k : Int)) = xs.take k := by
  unfold cutD
  rw [HT.sIx_none, HT.sIx_nat]
  simp
theorem cut_from {A : Type} (xs : List A) (k : Nat) : cutD xs (some (k : Int)) none = xs.drop k := by
  unfold cutD
  rw [HT.sIx_nat, HT.sIx_none]
  by_cases h : k ≤ xs.length
  · rw [Nat.min_eq_left h, List.take_of_length_le (by simp)]
  · rw [Nat.min_eq_right (by omega)]
    simp
    omega
def m_is_figures : FV := funD 3 d_is_figures
theorem is_figures_str (s : List Nat) (h : s.length ≤ 1000000) (st : Store) : m_is_figures [.str s] st = .ok (.bl (figs s), st) := by
  unfold m_is_figures funD d_is_figures
  have c1 : cutD s none (some 1) = s.take 1 := cut_to s 1
  have c2 : cutD s (some 1) none = s.drop 1 := cut_from s 1
  have key : ∀ rest : List Nat, rest.length ≤ 1000000 → ((eAnd (eOp (eqG true) (eV 1) (eC (.str []))) (eOp (eqG false) (eLc false (iSeq (eV 1)) [2] (.one 2) (tv (eOp (inG true) (eV 2) (eC (.str [48, 49, 50, 51, 52, 53, 54, 55, 56, 57])))) (eV 2)) (eLst false (aNil)))) [some (.str s), some (.str rest), none] st)
      = .ok (.bl (decide (rest ≠ []) && rest.all fun c => decide (48 ≤ c ∧ c ≤ 57)), st) := fun rest hr => by
    by_cases h0 : rest = []
    · simp [h0]
    · have hl : rest.length ≤ LIM := le_LIM hr
      simp [h0, itemsOf, hl]
      rw [lc_keep rfl (fun d => match d with | .str [c] => !decide (48 ≤ c ∧ c ≤ 57) | _ => true) _ (fun d hd => ?_) (by simp)]
      · have e : (rest.map fun c => D.str [c]).filter (fun d => match d with | .str [c] => !decide (48 ≤ c ∧ c ≤ 57) | _ => true) = ((rest.filter fun c => !decide (48 ≤ c ∧ c ≤ 57)).map fun c => [c]).map D.str := by
          rw [List.filter_map, List.map_map]; rfl
        simp only [e]
        rw [eq_nilD (pls_strs _) (Nat.le_trans (dps_strs _) (by decide))]
        simp only [List.map_eq_nil_iff]
        congr 3
        rw [Bool.eq_iff_iff]
        simp [List.filter_eq_nil_iff]
      · obtain ⟨c, _, rfl⟩ := List.mem_map.mp hd
        have key : (c ∈ ([48, 49, 50, 51, 52, 53, 54, 55, 56, 57] : List Nat)) ↔ (48 ≤ c ∧ c ≤ 57) := by simp; omega
        simp only [List.set_cons_succ, List.set_cons_zero, r_tv, r_eOp, r_eV, r_eC, bind_m, List.getElem?_cons_succ, List.getElem?_cons_zero, inG, if_true, decide_eq_decide.mpr key]
  by_cases hc : s.take 1 = [45]
  · have k := key (s.drop 1) (by simp; omega)
    simp only [figs, if_pos hc]
    simp [slG, c1, c2, hc, -r_eAnd]
    rw [List.drop_one] at k
    rw [k]
    simp
  · have k := key s h
    simp only [figs, if_neg hc]
    simp [slG, c1, c2, hc, -r_eAnd]
    rw [k]
    simp
def clo (p : Page) (c k : Nat) : Bool := match p[k]? with
  | some r => decide (c + 1 < r.length)
  | none => false
theorem clo_out {p : Page} {c k : Nat} (h : p.length ≤ k) : clo p c k = false := by
  unfold clo; rw [List.getElem?_eq_none h]
theorem clo_at {p : Page} {c k : Nat} {r : Row} (h : p[k]? = some r) : clo p c k = decide (c + 1 < r.length) := by
  unfold clo; rw [h]
theorem clo_row {p : Page} {c k : Nat} (h : clo p c k = true) : ∃ r, p[k]? = some r ∧ c + 1 < r.length := by
  unfold clo at h
  cases e : p[k]? with
  | none => rw [e] at h; cases h
  | some r => rw [e] at h; exact ⟨r, rfl, of_decide_eq_true h⟩
def rEnd (f : Nat → Bool) : Nat → Nat → Nat
  | 0, k => k
  | n + 1, k => if f k = true then rEnd f n (k + 1) else k
/-- where the run that holds k ends -/
def endOf (p : Page) (c k : Nat) : Nat := rEnd (clo p c) (p.length - k) k
theorem rEnd_eq {f : Nat → Bool} : ∀ {n k e : Nat}, k ≤ e → e ≤ k + n → (∀ j, k ≤ j → j < e → f j = true) → f e = false → rEnd f n k = e
  | 0, k, e, h1, h2, _, _ => by unfold rEnd; omega
  | n + 1, k, e, h1, h2, h3, h4 => by
    unfold rEnd
    by_cases h : k = e
    · subst h; rw [if_neg (by simp [h4])]
    · rw [if_pos (h3 k (Nat.le_refl _) (by omega))]
      exact rEnd_eq (by omega) (by omega) (fun j a b => h3 j (by omega) b) h4
theorem rEnd_ok {f : Nat → Bool} : ∀ {n k : Nat}, f (k + n) = false → k ≤ rEnd f n k ∧ rEnd f n k ≤ k + n ∧ (∀ j, k ≤ j → j < rEnd f n k → f j = true) ∧ f (rEnd f n k) = false
  | 0, k, h => by
    unfold rEnd
    exact ⟨Nat.le_refl _, Nat.le_refl _, fun j a b => by omega, h⟩
  | n + 1, k, h => by
    unfold rEnd
    by_cases hk : f k = true
    · rw [if_pos hk]
      obtain ⟨a, b, c, d⟩ := rEnd_ok (f := f) (n := n) (k := k + 1) (by rw [show k + 1 + n = k + (n + 1) by omega]; exact h)
      refine ⟨by omega, by omega, fun j x y => ?_, d⟩
      by_cases z : j = k
      · subst z; exact hk
      · exact c j (by omega) y
    · rw [if_neg hk]
      exact ⟨Nat.le_refl _, by omega, fun j a b => by omega, by simpa using hk⟩
theorem endOf_ok {p : Page} {c k : Nat} (h : k ≤ p.length) : k ≤ endOf p c k ∧ endOf p c k ≤ p.length ∧ (∀ j, k ≤ j → j < endOf p c k → clo p c j = true) ∧ clo p c (endOf p c k) = false := by
  have := rEnd_ok (f := clo p c) (n := p.length - k) (k := k) (clo_out (by omega))
  rw [show k + (p.length - k) = p.length by omega] at this
  exact this
theorem endOf_eq {p : Page} {c k e : Nat} (h : k ≤ e) (h2 : e ≤ p.length) (h3 : ∀ j, k ≤ j → j < e → clo p c j = true) (h4 : clo p c e = false) : endOf p c k = e := rEnd_eq h (by omega) h3 h4
/-- a run begins at k -/
def isB (p : Page) (c k : Nat) : Bool := clo p c k && (k == 0 || !clo p c (k - 1))
/-- begins ahead of n -/
def begs (p : Page) (c n : Nat) : List Nat := (List.range n).filter (isB p c)
theorem begs_succ (p : Page) (c n : Nat) : begs p c (n + 1) = begs p c n ++ (if isB p c n = true then [n] else []) := by
  unfold begs
  rw [List.range_succ, List.filter_append]
  congr 1
  cases h : isB p c n <;> simp [h]
/-- a stretch: its column, begin, end -/
structure Stt where
  c : Nat
  b : Nat
  e : Nat
def sttOf (p : Page) (c b : Nat) : Stt := ⟨c, b, endOf p c b⟩
def sttsC (p : Page) (c : Nat) : List Stt := (begs p c p.length).map (sttOf p c)
def stts (p : Page) : List Stt := (List.range 5).flatMap (sttsC p)
def cellAt (p : Page) (k c : Nat) : List Nat := (p.getD k []).getD c []
def cellsOf (p : Page) (s : Stt) : List (List Nat) := (List.range (s.e - s.b)).map fun k => cellAt p (s.b + k) s.c
/-- a stretch of the page -/
structure Stt.Of (p : Page) (s : Stt) : Prop where
  c4 : s.c < 5
  lt : s.b < s.e
  le : s.e ≤ p.length
  clo : ∀ j, s.b ≤ j → j < s.e → clo p s.c j = true
  fin : Dl.clo p s.c s.e = false
  beg : isB p s.c s.b = true
theorem begs_mem {p : Page} {c n b : Nat} (h : b ∈ begs p c n) : b < n ∧ isB p c b = true := by
  unfold begs at h
  rw [List.mem_filter, List.mem_range] at h
  exact h
theorem stts_mem {p : Page} {s : Stt} (h : s ∈ stts p) : s.Of p := by
  unfold stts at h
  rw [List.mem_flatMap] at h
  obtain ⟨c, hc, h⟩ := h
  obtain ⟨b, hb, rfl⟩ := List.mem_map.mp h
  obtain ⟨h1, h2⟩ := begs_mem hb
  have e := endOf_ok (p := p) (c := c) (k := b) (by omega)
  have hb : clo p c b = true := by simp only [isB, Bool.and_eq_true] at h2; exact h2.1
  have hne : b ≠ endOf p c b := fun z => by rw [← z, hb] at e; cases e.2.2.2
  exact ⟨List.mem_range.mp hc, by show b < endOf p c b; omega, e.2.1, e.2.2.1, e.2.2.2, h2⟩
end Dl
namespace Dl
open PySem L2
section
variable {g : G2} {fa fb : EV} {env : Env} {st sx sy : Store} {x y : D} {r : R (D × Store)}
theorem eOp_at (h1 : fa env st = .ok (x, sx)) (h2 : fb env sx = .ok (y, sy)) (h3 : g sy x y = r) : eOp g fa fb env st = r := by
  rw [r_eOp, h1]
  show (fb env sx).bind _ = r
  rw [h2]
  exact h3
theorem eB1_at {h : GA} (h1 : fa env st = .ok (x, sx)) (h3 : h sx [x] = r) : eB h (aCons fa aNil) env st = r := by
  rw [r_eB, r_aCons, h1]
  exact h3
theorem tv_at {b : Bool} (h1 : fa env st = .ok (.bl b, sx)) : tv fa env st = .ok (b, sx) := by
  rw [r_tv, h1]
  rfl
theorem eV_at {i : Nat} (h : env[i]? = some (some x)) : eV i env st = .ok (x, st) := by
  rw [r_eV, h]
theorem sCons_nx {f h : SV} {e : Env} {s : Store} (h1 : f env st = .nx e s) : sCons f h env st = h e s := by
  rw [r_sCons, h1]
  rfl
theorem sAsgN_at {i : Nat} (h1 : fa env st = .ok (x, sx)) : sAsg fa (gN i) env st = .nx (env.set i (some x)) sx := by
  rw [r_sAsg, h1]
  rfl
theorem sIf_at {t : TV} {f h : SV} {b : Bool} (h1 : t env st = .ok (b, sx)) : sIf t f h env st = if b = true then f env sx else h env sx := by
  rw [r_sIf, h1]
  rfl
theorem tAnd_no {t u : TV} (h1 : t env st = .ok (false, sx)) : tAndD t u env st = .ok (false, sx) := by
  rw [r_tAndD, h1]
  rfl
theorem tAnd_yes {t u : TV} {b : Bool} (h1 : t env st = .ok (true, sx)) (h2 : u env sx = .ok (b, sy)) : tAndD t u env st = .ok (b, sy) := by
  rw [r_tAndD, h1]
  exact h2
end
def strsD (l : List (List Nat)) : List D := l.map D.str
theorem mul_sb (st : Store) (k : Nat) (hk : k ≤ 1000) : mulG false st (.str [32]) (.int k) = .ok (.str (List.replicate k 32), st) := by
  have e : (List.replicate k [32]).flatten = List.replicate k 32 := by
    induction k with
    | zero => rfl
    | succ k ih => rw [List.replicate_succ, List.flatten_cons, ih (by omega)]; rfl
  have h : -1000000 ≤ (k : Int) ∧ (k : Int) ≤ 1000000 ∧ ([32] : List Nat).length * (k : Int).toNat ≤ LIM := ⟨by omega, by omega, le_LIM (by simp; omega)⟩
  show (if -1000000 ≤ (k : Int) ∧ (k : Int) ≤ 1000000 ∧ ([32] : List Nat).length * (k : Int).toNat ≤ LIM then (.ok (.str (List.replicate (k : Int).toNat [32]).flatten, st) : R (D × Store)) else .bad) = _
  rw [if_pos h, Int.toNat_natCast, e]
theorem add_ss (st : Store) (a b : List Nat) (h : a.length + b.length ≤ 1000000) : addG false st (.str a) (.str b) = .ok (.str (a ++ b), st) := by
  unfold addG
  exact if_pos (le_LIM h)
theorem is_str (st : Store) (a b : List Nat) : eqG false st (.str a) (.str b) = .ok (.bl (decide (a = b)), st) := by rw [eqG_str]; rfl
theorem pks_of : ∀ {ds : List D}, (∀ d ∈ ds, D.pk d = true) → D.pks ds = true
  | [], _ => rfl
  | d :: ds, h => by
    rw [D.pks, h d (by simp), pks_of fun e he => h e (by simp [he])]; rfl
theorem pks_map' {A : Type} {f : A → D} (h : ∀ a, D.pk (f a) = true) (l : List A) : D.pks (l.map f) = true := pks_of fun d hd => by
  obtain ⟨a, _, rfl⟩ := List.mem_map.mp hd
  exact h a
theorem pk_lstrs (l : List (List Nat)) : D.pk (.lst (l.map D.str)) = true := by
  rw [D.pk]; exact pks_map' (fun _ => rfl) l
theorem fr_ty (st : Store) (L : List D) : tyM (st ++ [.lst L]) (.ref st.length) = some "list" := by simp only [tyM, List.getElem?_concat_length]
theorem fr_list (st : Store) (L : List D) : listOf (st ++ [.lst L]) (.ref st.length) = some (L, [(st.length, L)]) := by simp only [listOf, List.getElem?_concat_length]
theorem fr_app (st : Store) {L : List D} (d : D) (h : L.length < 1000000) : appendG (st ++ [.lst L]) (.ref st.length) [d] = .ok (.non, st ++ [.lst (L ++ [d])]) := by
  have hx : st ++ [Ob.lst (L ++ [d])] = List.set (st ++ [Ob.lst L]) st.length (Ob.lst (L ++ [d])) := by
    rw [List.set_append_right _ _ (Nat.le_refl _)]; simp
  rw [hx]
  simp only [appendG, List.getElem?_concat_length]
  rw [if_pos (lt_LIM h)]
theorem add_ll (st : Store) (a b : List D) (h : a.length + b.length ≤ 1000000) : addG false st (.lst a) (.lst b) = .ok (.lst (a ++ b), st) := by
  unfold addG
  simp only [lstOf]
  rw [if_pos (le_LIM h)]
  rfl
theorem add_ii (st : Store) (m : Bool) (a b : Int) : addG m st (.int a) (.int b) = .ok (.int (a + b), st) := rfl
theorem flat_one {A : Type} (x : A) : ∀ k : Nat, (List.replicate k [x]).flatten = List.replicate k x
  | 0 => rfl
  | k + 1 => by rw [List.replicate_succ, List.flatten_cons, flat_one x k]; rfl
theorem mul_l1 (st : Store) (x : D) (k : Int) (h0 : 0 ≤ k) (h : k ≤ 1000) : mulG false st (.lst [x]) (.int k) = .ok (.lst (List.replicate k.toNat x), st) := by
  have y : -1000000 ≤ k ∧ k ≤ 1000000 ∧ ([x] : List D).length * k.toNat ≤ LIM := ⟨by omega, by omega, le_LIM (by simp; omega)⟩
  show (if -1000000 ≤ k ∧ k ≤ 1000000 ∧ ([x] : List D).length * k.toNat ≤ LIM then newL false (List.replicate k.toNat [x]).flatten st else .bad) = _
  rw [if_pos y, flat_one]
  rfl
theorem sl_s (m : Bool) (st : Store) (s : List Nat) (lo hi : Option Int) : slG m st (.str s) lo hi = .ok (.str (cutD s lo hi), st) := by simp [slG]
theorem ixL (st : Store) (ds : List D) (i : Int) : ixG st (.lst ds) (.int i) = R.of ((atI ds i).map fun x => (x, st)) := (rfl)
theorem len_l (st : Store) (ds : List D) : lenG st [.lst ds] = .ok (.int ds.length, st) := by simp [lenG, lstOf]
theorem len_s (st : Store) (s : List Nat) : lenG st [.str s] = .ok (.int s.length, st) := by simp [lenG]
theorem len_t (st : Store) (ds : List D) : lenG st [.tup ds] = .ok (.int ds.length, st) := by simp [lenG]
theorem fr_get (B : Store) (L : List D) : (B ++ [Ob.lst L])[B.length]? = some (.lst L) := by simp
theorem fr_set (B : Store) (L M : List D) : (B ++ [Ob.lst L]).set B.length (.lst M) = B ++ [Ob.lst M] := by
  rw [List.set_append_right _ _ (Nat.le_refl _)]; simp
end Dl
namespace Dl
open PySem L2
def okLine (s : List Nat) : Bool := decide (s.length ≤ 200) && s.all okSign
def lineD : D → Bool
  | .str s => okLine s
  | _ => false
/-- kinds that are handed in as lines -/
def D.knd : D → Bool
  | .non => true
  | .bl _ => true
  | .int _ => true
  | .str _ => true
  | .tup _ => true
  | .lst _ => true
  | _ => false
def m_is_line : FV := funD 2 (d_is_line m_is_sign)
theorem is_line_str (s : List Nat) (hs : s.length ≤ 1000000) (st : Store) : m_is_line [.str s] st = .ok (.bl (okLine s), st) := by
  unfold m_is_line funD d_is_line
  simp [tyOf, subTy, leG, lenG]
  by_cases h : s.length ≤ 200
  · have h' : ((s.length : Int) ≤ 200) := by omega
    have hl : s.length ≤ LIM := le_LIM hs
    simp [h', hl, itemsOf]
    rw [lc_keep rfl (fun d => match d with | .str [c] => !okSign c | _ => true) _ (fun d hd => ?_) (by simp [wipeD])]
    · have e : (s.map fun c => D.str [c]).filter (fun d => match d with | .str [c] => !okSign c | _ => true) = ((s.filter fun c => !okSign c).map fun c => [c]).map D.str := by
        rw [List.filter_map, List.map_map]; rfl
      simp only [R.bind_ok, e]
      rw [eq_nilD (pls_strs _) (Nat.le_trans (dps_strs _) (by decide))]
      simp only [R.bind_ok, sOf_ok, List.map_eq_nil_iff]
      congr 3
      rw [okLine, decide_eq_true h, Bool.true_and, Bool.eq_iff_iff]
      simp [List.filter_eq_nil_iff]
    · obtain ⟨c, _, rfl⟩ := List.mem_map.mp hd
      simp [wipeD, is_sign_str]
  · have h' : ¬ ((s.length : Int) ≤ 200) := by omega
    simp [h', h, okLine]
theorem is_line_d {d : D} (k : D.knd d = true) (hs : D.sm d = true) (hl : ∀ s, d = .str s → s.length ≤ 1000000) (st : Store) : m_is_line [d] st = .ok (.bl (lineD d), st) := by
  cases d with
  | str s => exact is_line_str s (hl s rfl) st
  | non => unfold m_is_line funD d_is_line; simp [tyOf, subTy, lineD]
  | bl b => unfold m_is_line funD d_is_line; simp [tyOf, subTy, lineD]
  | int i => unfold m_is_line funD d_is_line; simp [tyOf, subTy, lineD]
  | tup ds => unfold m_is_line funD d_is_line; simp [tyOf, subTy, lineD]
  | lst ds => unfold m_is_line funD d_is_line; simp [tyOf, subTy, lineD]
  | ref n => cases k
  | scr n => cases k
  | exn a o => cases k
/-- what may be handed in as a line -/
def D.lk (d : D) : Prop := D.knd d = true ∧ D.sm d = true ∧ ∀ s, d = .str s → s.length ≤ 1000000
theorem is_line_k {d : D} (k : D.lk d) (st : Store) : m_is_line [d] st = .ok (.bl (lineD d), st) := is_line_d k.1 k.2.1 k.2.2 st
theorem okLine_parts {s : List Nat} (h : okLine s = true) : s.length ≤ 200 ∧ ∀ c ∈ s, okSign c = true := by
  simp only [okLine, Bool.and_eq_true, decide_eq_true_eq, List.all_eq_true] at h
  exact h
theorem lk_line {d : D} (h : lineD d = true) : D.lk d := by
  cases d with
  | str s => exact ⟨rfl, rfl, fun t e => by cases e; have := (okLine_parts h).1; omega⟩
  | _ => cases h
def m_need_lines : FV := funD 3 (d_need_lines m_is_line)
theorem need_lines_ok {ds : List D} {d : D} {w : List (Nat × List D)} {st : Store} (h : listOf st d = some (ds, w)) (hl : ds.length ≤ 30) (ha : ∀ x ∈ ds, lineD x = true) : m_need_lines [d] st = .ok (.non, st) := by
  unfold m_need_lines funD d_need_lines
  simp [h]
  generalize hf : forGo _ _ _ _ _ _ = r
  obtain ⟨e, s, rfl, rfl, e2⟩ := for_at hf (fun i env st' => st' = st ∧ ∃ a b, env = [some d, a, b]) ⟨rfl, _, _, rfl⟩ (fun i env st' _ hI => by rw [hI.1]; exact still_list h) (fun i x env st' hi hI => by
      obtain ⟨rfl, a, b, rfl⟩ := hI
      obtain ⟨y, hy, rfl⟩ := pairUp_at hi
      have hr := ha y (List.mem_of_getElem? hy)
      have hi := (List.getElem?_eq_some_iff.mp hy).1
      have hi2 : ¬ (30 : Int) ≤ i := by omega
      simp [geG, hi2, is_line_k (lk_line hr), hr])
  rfl
theorem need_lines_bad {ds : List D} {d x : D} {k : Nat} {w : List (Nat × List D)} {st : Store} (h : listOf st d = some (ds, w)) (hx : ds[k]? = some x) (hk : k ≤ 30) (ha : ∀ (j : Nat) (y : D), j < k → ds[j]? = some y → lineD y = true) (hb : k = 30 ∨ lineD x = false) (hn : D.lk x) : m_need_lines [d] st = .exc 8 (some (.int k)) st := by
  unfold m_need_lines funD d_need_lines
  simp [h]
  generalize hf : forGo _ _ _ _ _ _ = r
  have hlt := (List.getElem?_eq_some_iff.mp hx).1
  have := for_atE hf (fun i env st' => st' = st ∧ i ≤ k ∧ ∃ a b, env = [some d, a, b]) (fun r => r = .exc 8 (some (.int k)) st) ⟨rfl, Nat.zero_le _, _, _, rfl⟩ (fun i env st' _ hI => by rw [hI.1]; exact still_list h) (fun i y env st' hi hI => by
      obtain ⟨rfl, hik, a, b, rfl⟩ := hI
      obtain ⟨y, hy, rfl⟩ := pairUp_at hi
      refine ⟨[some d, some (.int i), some y], st', by simp, ?_⟩
      by_cases e : i = k
      · subst e
        rw [hx] at hy
        cases hy
        rcases hb with rfl | hb
        · simp [geG]
        · by_cases h30 : (30 : Int) ≤ i
          · simp [geG, h30]
          · simp [geG, h30, is_line_k hn, hb]
      · have hr := ha i y (by omega) hy
        have hi2 : ¬ (30 : Int) ≤ i := by omega
        simp [geG, hi2, is_line_k (lk_line hr), hr]
        omega) (fun e s hI => by
      obtain ⟨_, hle, _⟩ := hI
      rw [pairUp_len] at hle
      omega)
  rw [this]
end Dl
namespace Dl
open PySem L2
theorem sgn_lst {j : Nat} (hj : j ≠ 0) {rest : Store} {n : Nat} {t : Tg1} {env : Env} {r : R (List D × Store)} {ds : List D} {b : Box} (hlen : ds.length ≤ n) (ht : ∀ d e, t.put d e = some (e.set j (some d))) (h0 : env[0]? = some (some (.ref 1)))
    (hf : lcGo [] t tYesD (eCall 1 m_law_sign (aCons (eV 0) (aNil))) env ds [] (Bx b rest) = r) : ∃ (cs : List Nat) (b' : Box), cs.length = ds.length ∧ (∀ c ∈ cs, okSign c = true) ∧ r = .ok ((cs.map fun c => [c]).map D.str, Bx b' rest) := by
  obtain ⟨acc, s, rfl, cs, b', h1, h2, rfl, rfl⟩ := lc_at hf (fun i acc st' => ∃ (cs : List Nat) (b' : Box), cs.length = i ∧ (∀ c ∈ cs, okSign c = true) ∧ acc = (cs.map fun c => [c]).map D.str ∧ st' = Bx b' rest) ⟨[], b, rfl, by simp, rfl, rfl⟩ (fun _ _ _ _ _ => rfl) (fun i x acc st' hi ⟨cs, b', e1, e2, e3, e4⟩ => by
    subst e3 e4
    obtain ⟨c, b2, hc, ec⟩ := sign_ok b' rest
    refine ⟨_, ht _ _, ?_⟩
    have h0' : (env.set j (some x))[0]? = some (some (.ref 1)) := by rw [List.getElem?_set_ne hj]; exact h0
    simp [h0', ec]
    exact ⟨cs ++ [c], by simp [e1], fun x hx => by simp at hx; rcases hx with hx | rfl <;> first | exact e2 _ hx | exact hc, by simp, _, rfl⟩)
  exact ⟨cs, b', h1, h2, rfl⟩
theorem cut_le {s : List Nat} {n : Nat} (h : ∀ c ∈ s, okSign c = true) (hn : n ≤ 200) : okLine (s.take n) = true := by
  simp only [okLine, Bool.and_eq_true, decide_eq_true_eq, List.all_eq_true]
  exact ⟨by rw [List.length_take]; omega, fun c hc => h c (List.mem_of_mem_take hc)⟩
theorem ok_blank : okSign 32 = true := by decide
/-- 0 to k-1, drawn by way of a list of numbers -/
theorem pick3 {b : Box} {ls : List Int} {m : Int} (hm : m = ls.length) (h0 : 0 < m) (P : Int → Prop) (hP : ∀ n ∈ ls, P n) : ∃ n, atI (ls.map D.int) (tk b m).1 = some (.int n) ∧ P n := by
  obtain ⟨y, ey, my⟩ := atI_mem (l := ls.map D.int) (tk_lo b h0) (by rw [List.length_map, ← hm]; exact tk_hi b h0)
  obtain ⟨n, hn, rfl⟩ := List.mem_map.mp my
  exact ⟨n, ey, hP n hn⟩
end Dl
namespace Dl
open PySem L2
/-- law_line_k20: 5 slots, 1 parameters -/
def d_law_line_k20 (m_law_take : FV) (m_law_sign : FV) : SV := sCons (sAsg (eC (.str [])) (gN 1)) (sCons (sFor (iR1 (aCons (eCall 2 m_law_take (aCons (eV 0) (aCons (eOp ixG (eLst false (aCons (eC (.int 4)) (aCons (eC (.int 9)) (aCons (eC (.int 30)) (aNil))))) (eCall 2 m_law_take (aCons (eV 0) (aCons (eC (.int 3)) (aNil))))) (aNil)))) (aNil))) (gN 2) (sCons (sAsg (eMt "str" (joinG) (eC (.str [])) (aCons (eLc false (iR1 (aCons (eCall 2 m_law_take (aCons (eV 0) (aCons (eC (.int 8)) (aNil)))) (aNil))) [4] (.one 4) (tYesD) (eCall 1 m_law_sign (aCons (eV 0) (aNil)))) (aNil))) (gN 3)) (sAsg (eOp (addG false) (eOp (addG false) (eV 1) (eV 3)) (eOp (mulG false) (eC (.str [32])) (eCall 2 m_law_take (aCons (eV 0) (aCons (eOp ixG (eLst false (aCons (eC (.int 2)) (aCons (eC (.int 6)) (aCons (eC (.int 40)) (aNil))))) (eCall 2 m_law_take (aCons (eV 0) (aCons (eC (.int 3)) (aNil))))) (aNil)))))) (gN 1)))) (sRet (eSl false (eV 1) (poNone) (poSome (eC (.int 200))))))
end Dl
namespace Dl
open PySem L2
def m_law_line_k20 : FV := funD 5 (d_law_line_k20 m_law_take m_law_sign)
theorem line20_ok (b : Box) (rest : Store) : ∃ s b', okLine s = true ∧ m_law_line_k20 [.ref 1] (Bx b rest) = .ok (.str s, Bx b' rest) := by
  unfold m_law_line_k20 funD d_law_line_k20
  obtain ⟨n, en, n0, n9⟩ := pick3 (b := b) (ls := [4, 9, 30]) (m := 3) rfl (by decide) (fun n => 0 < n ∧ n ≤ 30) (by decide)
  simp only [List.map_cons, List.map_nil] at en
  have n64 : n < 18446744073709551616 := by omega
  have t2 := take_eq b rest 3 (by decide) (by decide)
  generalize (tk b 3).2 = b2 at t2
  generalize (tk b 3).1 = i2 at t2 en
  have z0 := tk_lo b2 n0
  have z1 := tk_hi b2 n0
  have t3 := take_eq b2 rest n n0 n64
  generalize tk b2 n = p at z0 z1 t3
  obtain ⟨t, b3⟩ := p
  simp only at z0 z1 t3
  have m1 : -1000000 ≤ t ∧ t ≤ 1000000 := by omega
  simp [t2, ixL, en, t3, m1]
  generalize hf : forGo _ _ _ _ _ _ = r
  obtain ⟨e, st, rfl, s, b', a2, a3, a4, rfl, h1, h2, rfl⟩ := for_at hf (fun i env st' => ∃ (s : List Nat) (b' : Box) (a2 a3 a4 : Option D), st' = Bx b' rest ∧ (∀ c ∈ s, okSign c = true) ∧ s.length ≤ 50 * i ∧ env = [some (.ref 1), some (.str s), a2, a3, a4]) ⟨[], b3, _, _, _, rfl, by simp, by simp, rfl⟩ (fun _ _ _ _ _ => rfl) (fun i x env st' hi ⟨s, b, a2, a3, a4, e1, e2, e3, e4⟩ => by
    subst e1 e4
    obtain ⟨hi, rfl⟩ := ints_get hi
    have w0 := tk_lo b (n := 8) (by decide)
    have w1 := tk_hi b (n := 8) (by decide)
    have tE := take_eq b rest 8 (by decide) (by decide)
    generalize tk b 8 = p at w0 w1 tE
    obtain ⟨q, b⟩ := p
    simp only at w0 w1 tE
    have m1 : -1000000 ≤ q ∧ q ≤ 1000000 := by omega
    have m2 : q.toNat ≤ LIM := le_LIM (by omega)
    simp [tE, m1, m2]
    generalize hf : lcGo _ _ _ _ _ _ _ _ = r
    obtain ⟨cs, b3, c1, c2, rfl⟩ := sgn_lst (j := 4) (by decide) (n := 8) (by rw [intsD_len]; omega) (fun _ _ => rfl) rfl hf
    rw [intsD_len] at c1
    have jo := join_ones' cs (Bx b3 rest) (le_LIM (by omega))
    obtain ⟨n, en, n0, n9⟩ := pick3 (b := b3) (ls := [2, 6, 40]) (m := 3) rfl (by decide) (fun n => 0 < n ∧ n ≤ 40) (by decide)
    have n64 : n < 18446744073709551616 := by omega
    have t2 := take_eq b3 rest 3 (by decide) (by decide)
    generalize (tk b3 3).2 = b4 at t2
    generalize (tk b3 3).1 = i3 at t2 en
    have v0 := tk_lo b4 n0
    have v1 := tk_hi b4 n0
    have t3 := take_eq b4 rest n n0 n64
    generalize tk b4 n = p at v0 v1 t3
    obtain ⟨u, b5⟩ := p
    simp only at v0 v1 t3
    obtain ⟨u, rfl⟩ := Int.eq_ofNat_of_zero_le v0
    have hm := mul_sb (Bx b5 rest) u (by omega)
    simp only [List.map_cons, List.map_nil] at en
    have y1 : s.length + cs.length ≤ LIM := le_LIM (by omega)
    have y2 : s.length + cs.length + u ≤ LIM := le_LIM (by omega)
    have y3 : s.length + (cs.length + u) ≤ LIM := le_LIM (by omega)
    simp [tyM, jo, addG, y1, t2, ixL, en, t3, hm, y2, y3]
    refine ⟨⟨_, rfl⟩, fun c hc => ?_, by omega⟩
    rcases hc with hc | hc | hc
    · exact e2 c hc
    · exact c2 c hc
    · rw [hc.2]; exact ok_blank)
  rw [intsD_len] at h2
  simp [slG]
  refine ⟨_, ?_, rfl, _, rfl⟩
  have := cut_to s 200
  rw [show ((200 : Nat) : Int) = 200 from rfl] at this
  rw [this]
  exact cut_le h1 (by omega)
/-- lines of which one can't be: k is the first -/
def BadL (ds : List D) (k : Nat) : Prop := k ≤ 30 ∧ ∃ x, ds[k]? = some x ∧ (∀ (j : Nat) (y : D), j < k → ds[j]? = some y → lineD y = true) ∧ (k = 30 ∨ lineD x = false) ∧ D.lk x
theorem BadL.exc {ds : List D} {k : Nat} (h : BadL ds k) (st : Store) : m_need_lines [.lst ds] st = .exc 8 (some (.int k)) st := by
  obtain ⟨h1, x, h2, h3, h4, h5⟩ := h
  exact need_lines_bad (d := .lst ds) (w := []) rfl h2 h1 h3 h4 h5
theorem strs_lines {ls : List (List Nat)} (h : ∀ s ∈ ls, okLine s = true) : ∀ x ∈ strsD ls, lineD x = true := fun x hx => by
  obtain ⟨s, hs, rfl⟩ := List.mem_map.mp hx
  exact h s hs
@[simp] theorem strsD_len (nss : List (List Nat)) : (strsD nss).length = nss.length := by simp [strsD]
theorem strsD_get {nss : List (List Nat)} {i : Nat} {ns : List Nat} (h : nss[i]? = some ns) : (strsD nss)[i]? = some (.str ns) := by unfold strsD; rw [List.getElem?_map, h]; rfl
/-- the i-th line, or none -/
def lineAt (F : List (List Nat)) (i : Nat) : List Nat := F[i]?.getD []
theorem lineAt_ok {ls : List (List Nat)} (h : ∀ s ∈ ls, okLine s = true) (i : Nat) : (lineAt ls i).length ≤ 200 ∧ ∀ c ∈ lineAt ls i, okSign c = true := by
  unfold lineAt
  cases q : ls[i]? with
  | none => simp
  | some l => exact okLine_parts (h l (List.mem_of_getElem? q))
end Dl
namespace Dl
open PySem L2
/-- strokes_of: 8 slots, 3 parameters -/
def d_strokes_of : SV := sCons (sAsg (eB maxG (aCons (eB lenG (aCons (eV 1) (aNil))) (aCons (eB lenG (aCons (eV 2) (aNil))) (aNil)))) (gN 3)) (sCons (sAsg (eTup (aCons (eMt "str" (ljustG) (eV 1) (aCons (eV 3) (aNil))) (aCons (eMt "str" (ljustG) (eV 2) (aCons (eV 3) (aNil))) (aNil)))) (gTp 2 (gsCons (gN 1) (gsCons (gN 2) (gsNil))))) (sCons (sAsg (eLc false (iR1 (aCons (eV 3) (aNil))) [7] (.one 7) (tv (eOp (eqG true) (eOp ixG (eV 1) (eV 7)) (eOp ixG (eV 2) (eV 7)))) (eV 7)) (gN 4)) (sCons (sAsg (eLst true (aNil)) (gN 5)) (sCons (sAsg (eC .non) (gN 6)) (sCons (sFor (iR1 (aCons (eB lenG (aCons (eV 4) (aNil))) (aNil))) (gN 7) (sCons (sAsg (eIf (tv (eOp (isG false) (eV 6) (eC .non))) (eOp ixG (eV 4) (eV 7)) (eV 6)) (gN 6)) (sIf (tOrD (tv (eOp (eqG false) (eOp (addG false) (eV 7) (eC (.int 1))) (eB lenG (aCons (eV 4) (aNil))))) (tv (eOp gtG (eOp subG (eOp ixG (eV 4) (eOp (addG false) (eV 7) (eC (.int 1)))) (eOp ixG (eV 4) (eV 7))) (eC (.int 3))))) (sCons (sExpr (eMt "list" (appendG) (eV 5) (aCons (eTup (aCons (eV 0) (aCons (eV 6) (aCons (eSl false (eV 2) (poSome (eV 6)) (poSome (eOp (addG false) (eOp ixG (eV 4) (eV 7)) (eC (.int 1))))) (aNil))))) (aNil)))) (sAsg (eC .non) (gN 6))) (sNext)))) (sRet (eV 5)))))))
/-- strokes: 6 slots, 2 parameters -/
def d_strokes (m_need_lines : FV) (m_strokes_of : FV) : SV := sCons (sExpr (eCall 1 m_need_lines (aCons (eV 0) (aNil)))) (sCons (sExpr (eCall 1 m_need_lines (aCons (eV 1) (aNil)))) (sCons (sAsg (eLst true (aNil)) (gN 2)) (sCons (sFor (iR1 (aCons (eB maxG (aCons (eB lenG (aCons (eV 0) (aNil))) (aCons (eB lenG (aCons (eV 1) (aNil))) (aNil)))) (aNil))) (gN 3) (sCons (sAsg (eIf (tv (eOp ltG (eV 3) (eB lenG (aCons (eV 0) (aNil))))) (eOp ixG (eV 0) (eV 3)) (eC (.str []))) (gN 4)) (sCons (sAsg (eIf (tv (eOp ltG (eV 3) (eB lenG (aCons (eV 1) (aNil))))) (eOp ixG (eV 1) (eV 3)) (eC (.str []))) (gN 5)) (sExpr (eMt "list" (extendG) (eV 2) (aCons (eCall 3 m_strokes_of (aCons (eV 3) (aCons (eV 4) (aCons (eV 5) (aNil))))) (aNil))))))) (sRet (eV 2)))))
/-- law_line_near: 6 slots, 2 parameters -/
def d_law_line_near (m_law_take : FV) (m_law_sign : FV) : SV := sCons (sAsg (eV 1) (gN 2)) (sCons (sFor (iR1 (aCons (eCall 2 m_law_take (aCons (eV 0) (aCons (eC (.int 6)) (aNil)))) (aNil))) (gN 3) (sCons (sPar 4 5 (aCons (eCall 2 m_law_take (aCons (eV 0) (aCons (eOp (addG false) (eB lenG (aCons (eV 2) (aNil))) (eC (.int 1))) (aNil)))) (aCons (eCall 2 m_law_take (aCons (eV 0) (aCons (eC (.int 5)) (aNil)))) (aNil)))) (sCons (sIf (tv (eOp ltG (eV 5) (eC (.int 3)))) (sAsg (eOp (addG false) (eOp (addG false) (eSl false (eV 2) (poNone) (poSome (eV 4))) (eOp ixG (eLst false (aCons (eCall 1 m_law_sign (aCons (eV 0) (aNil))) (aCons (eC (.str [32])) (aCons (eC (.str [97])) (aNil))))) (eV 5))) (eSl false (eV 2) (poSome (eOp (addG false) (eV 4) (eC (.int 1)))) (poNone))) (gN 2)) (sNext)) (sCons (sIf (tv (eOp (eqG false) (eV 5) (eC (.int 3)))) (sAsg (eOp (addG false) (eOp (addG false) (eSl false (eV 2) (poNone) (poSome (eV 4))) (eSl false (eC (.str [97, 98, 32])) (poNone) (poSome (eCall 2 m_law_take (aCons (eV 0) (aCons (eC (.int 4)) (aNil))))))) (eSl false (eV 2) (poSome (eV 4)) (poNone))) (gN 2)) (sNext)) (sIf (tv (eOp (eqG false) (eV 5) (eC (.int 4)))) (sAsg (eOp ixG (eLst false (aCons (eSl false (eV 2) (poNone) (poSome (eV 4))) (aCons (eOp (addG false) (eSl false (eV 2) (poNone) (poSome (eV 4))) (eSl false (eV 2) (poSome (eOp (addG false) (eOp (addG false) (eV 4) (eC (.int 1))) (eCall 2 m_law_take (aCons (eV 0) (aCons (eC (.int 9)) (aNil)))))) (poNone))) (aNil)))) (eCall 2 m_law_take (aCons (eV 0) (aCons (eC (.int 2)) (aNil))))) (gN 2)) (sNext)))))) (sRet (eSl false (eV 2) (poNone) (poSome (eC (.int 200))))))
/-- law_lines_two: 6 slots, 1 parameters -/
def d_law_lines_two (m_law_take : FV) (m_law_line_k20 : FV) (m_law_line_near : FV) : SV := sCons (sAsg (eLc false (iR1 (aCons (eCall 2 m_law_take (aCons (eV 0) (aCons (eOp ixG (eLst false (aCons (eC (.int 4)) (aCons (eC (.int 12)) (aCons (eC (.int 31)) (aNil))))) (eCall 2 m_law_take (aCons (eV 0) (aCons (eC (.int 3)) (aNil))))) (aNil)))) (aNil))) [4] (.one 4) (tYesD) (eCall 1 m_law_line_k20 (aCons (eV 0) (aNil)))) (gN 1)) (sCons (sAsg (eLc true (iSeq (eV 1)) [5] (.one 5) (tYesD) (eOp ixG (eLst false (aCons (eV 5) (aCons (eCall 2 m_law_line_near (aCons (eV 0) (aCons (eV 5) (aNil)))) (aCons (eCall 1 m_law_line_k20 (aCons (eV 0) (aNil))) (aNil))))) (eB minG (aCons (eC (.int 2)) (aCons (eCall 2 m_law_take (aCons (eV 0) (aCons (eC (.int 5)) (aNil)))) (aNil)))))) (gN 2)) (sCons (sFor (iR1 (aCons (eCall 2 m_law_take (aCons (eV 0) (aCons (eC (.int 4)) (aNil)))) (aNil))) (gN 3) (sIf (tv (eOp ltG (eB lenG (aCons (eV 2) (aNil))) (eC (.int 30)))) (sExpr (eMt "list" (appendG) (eV 2) (aCons (eCall 1 m_law_line_k20 (aCons (eV 0) (aNil))) (aNil)))) (sNext))) (sRet (eTup (aCons (eV 1) (aCons (eSl false (eV 2) (poSome (eOp divG (eCall 2 m_law_take (aCons (eV 0) (aCons (eC (.int 3)) (aNil)))) (eC (.int 2)))) (poNone)) (aNil)))))))
end Dl
namespace Dl
open PySem L2
/-- places brought together: near ones at once -/
def grp : Option (Nat × Nat) → List Nat → List (Nat × Nat)
  | none, [] => []
  | some g, [] => [g]
  | none, p :: ps => grp (some (p, p)) ps
  | some g, p :: ps => if g.2 + 3 < p then g :: grp (some (p, p)) ps else grp (some (g.1, p)) ps
/-- whether two lines differ there -/
def dif (a b : List Nat) (k : Nat) : Bool := decide (a[k]?.getD 32 ≠ b[k]?.getD 32)
def plc20 (a b : List Nat) (n : Nat) : List Nat := (List.range n).filter (dif a b)
theorem plc_more {a b : List Nat} {n : Nat} (ha : a.length ≤ n) (hb : b.length ≤ n) : ∀ m, plc20 a b (n + m) = plc20 a b n
  | 0 => rfl
  | m + 1 => by
    unfold plc20
    rw [← Nat.add_assoc, List.range_succ, List.filter_append, ← plc20, plc_more ha hb m]
    have : dif a b (n + m) = false := by
      unfold dif
      rw [List.getElem?_eq_none (by omega), List.getElem?_eq_none (by omega)]
      simp
    simp [this, plc20]
/-- the signs of a stroke -/
def sgL (b : List Nat) (g : Nat × Nat) : List Nat := ((b ++ List.replicate 400 32).drop g.1).take (g.2 + 1 - g.1)
def strkD (n : Nat) (a b : List Nat) : List D := (grp none (plc20 a b 204)).map fun g => .tup [.int n, .int g.1, .str (sgL b g)]
theorem sg_lj {b : List Nat} {w : Nat} {g : Nat × Nat} (hw : w ≤ 400) (h : g.2 < w) : ((ljustL b w).drop g.1).take (g.2 + 1 - g.1) = sgL b g := by
  unfold sgL ljustL
  refine List.ext_getElem? fun i => ?_
  rw [List.getElem?_take, List.getElem?_take]
  by_cases hi : i < g.2 + 1 - g.1
  · rw [if_pos hi, if_pos hi, List.getElem?_drop, List.getElem?_drop]
    by_cases h1 : g.1 + i < b.length
    · rw [List.getElem?_append_left h1, List.getElem?_append_left h1]
    · rw [List.getElem?_append_right (by omega), List.getElem?_append_right (by omega), List.getElem?_replicate, List.getElem?_replicate, if_pos (by simp; omega), if_pos (by omega)]
  · rw [if_neg hi, if_neg hi]
/-- what is to be told of the rest, by the state of the program's loop ahead of the k-th place -/
def grpAt (ps : List Nat) (k : Nat) : Option Nat → List (Nat × Nat)
  | none => grp none (ps.drop k)
  | some b => grp (some (b, ps[k - 1]?.getD 0)) (ps.drop k)
def onInt (p : Nat → Bool) : D → Bool
  | .int i => p i.toNat
  | _ => false
/-- lists of numbers kept by a test -/
theorem ints_filter (n : Nat) (p : Nat → Bool) : (intsD 0 n).filter (onInt p) = ((List.range n).filter p).map fun (k : Nat) => D.int (k : Int) := by
  have e : intsD 0 n = (List.range n).map fun (k : Nat) => D.int (k : Int) := by
    refine List.ext_getElem? fun i => ?_
    rw [List.getElem?_map]
    by_cases hi : i < n
    · rw [ints_at 0 n i hi, List.getElem?_range hi]; simp
    · rw [List.getElem?_eq_none (by simp; omega), List.getElem?_eq_none (by simp; omega)]; rfl
  rw [e, List.filter_map]
  congr 1
end Dl
namespace Dl
open PySem L2
theorem cut_ft20 {A : Type} (xs : List A) (a b : Nat) : cutD xs (some (a : Int)) (some (b : Int)) = (xs.drop a).take (b - a) := by
  unfold cutD
  rw [HT.sIx_nat, HT.sIx_nat]
  by_cases h : a ≤ xs.length
  · rw [Nat.min_eq_left h]
    by_cases h2 : b ≤ xs.length
    · rw [Nat.min_eq_left h2]
    · rw [Nat.min_eq_right (by omega), List.take_of_length_le (by simp), List.take_of_length_le (by rw [List.length_drop]; omega)]
  · rw [Nat.min_eq_right (by omega : xs.length ≤ a), List.drop_of_length_le (Nat.le_refl _), List.drop_of_length_le (by omega)]
    simp
def intD (ps : List Nat) : List D := ps.map fun (k : Nat) => D.int (k : Int)
@[simp] theorem intD_len (ps : List Nat) : (intD ps).length = ps.length := by simp [intD]
theorem intD_at {ps : List Nat} {k p : Nat} (h : ps[k]? = some p) : atI (intD ps) (k : Int) = some (.int (p : Int)) := by
  rw [atI_nat]; unfold intD; rw [List.getElem?_map, h]; rfl
def begD : Option Nat → D
  | none => .non
  | some b => .int (b : Int)
def m_strokes_of : FV := funD 8 d_strokes_of
def stkD (n : Nat) (b : List Nat) (g : Nat × Nat) : D := .tup [.int n, .int g.1, .str (sgL b g)]
theorem grpAt_none {ps : List Nat} {k p : Nat} (h : ps[k]? = some p) : grpAt ps k none = grp (some (p, p)) (ps.drop (k + 1)) := by
  have hk := (List.getElem?_eq_some_iff.mp h).1
  have e : ps[k] = p := (List.getElem?_eq_some_iff.mp h).2
  unfold grpAt
  simp only
  rw [List.drop_eq_getElem_cons hk, e]
  rfl
theorem plc_up {a b : List Nat} {n : Nat} : (plc20 a b n).Pairwise (· < ·) := List.Pairwise.filter _ List.pairwise_lt_range
theorem strokes_of_ok (n : Nat) {a b : List Nat} (ha : a.length ≤ 200) (hb : b.length ≤ 200) (st : Store) :
    m_strokes_of [.int n, .str a, .str b] st = .ok (.ref st.length, st ++ [.lst (strkD n a b)]) := by
  unfold m_strokes_of funD d_strokes_of
  generalize hw : max a.length b.length = w
  have hw2 : w ≤ 200 := by omega
  have mx : ∀ st, maxG st [.int (a.length : Int), .int (b.length : Int)] = .ok (.int (w : Int), st) := fun st => by
    show R.ok (D.int (max (a.length : Int) b.length), st) = _
    congr 3; omega
  have lj : ∀ (s : List Nat) st, ljustG st (.str s) [.int (w : Int)] = .ok (.str (ljustL s w), st) := fun s st => by
    have : -1000000 ≤ (w : Int) ∧ (w : Int) ≤ 1000000 := by omega
    simp [ljustG, this]
  have m1 : -1000000 ≤ (w : Int) ∧ (w : Int) ≤ 1000000 := by omega
  have m2 : w ≤ LIM := le_LIM (by omega)
  simp [len_s, mx, tyM, lj, m1, m2]
  rw [lc_keep rfl (onInt (dif a b)) _ (fun d hd => ?_) (by simp [wipeD])]
  · rw [ints_filter w (dif a b)]
    have eP : (List.range w).filter (dif a b) = plc20 a b 204 := by
      have := plc_more (a := a) (b := b) (n := w) (by omega) (by omega) (204 - w)
      rw [show w + (204 - w) = 204 by omega] at this
      rw [this]; rfl
    rw [eP]
    have hlt : ∀ p ∈ plc20 a b 204, p < w := fun p hp => by
      rw [← eP] at hp
      exact List.mem_range.mp (List.mem_filter.mp hp).1
    have hup := plc_up (a := a) (b := b) (n := 204)
    unfold strkD
    generalize plc20 a b 204 = ps at hlt hup ⊢
    have hpl : ps.length ≤ 200 := by
      have key : ∀ (l : List Nat) (m : Nat), l.Pairwise (· < ·) → (∀ p ∈ l, m ≤ p ∧ p < w) → l.length + m ≤ w ∨ l = [] := by
        intro l
        induction l with
        | nil => exact fun _ _ _ => .inr rfl
        | cons p l ih =>
          intro m hp hl
          rw [List.pairwise_cons] at hp
          have h1 := hl p (by simp)
          rcases ih (p + 1) hp.2 (fun q hq => ⟨hp.1 q hq, (hl q (by simp [hq])).2⟩) with h | h
          · simp; omega
          · subst h; simp; omega
      rcases key ps 0 hup (fun p hp => ⟨Nat.zero_le _, hlt p hp⟩) with h | h
      · omega
      · rw [h]; simp
    rw [show (ps.map fun (k : Nat) => D.int (k : Int)) = intD ps from rfl]
    have m3 : -1000000 ≤ (ps.length : Int) ∧ (ps.length : Int) ≤ 1000000 := by omega
    simp [len_l, m3]
    generalize hf : forGo _ _ _ _ _ _ = r
    obtain ⟨e, s', rfl, E, beg, a7, h1, h2, rfl, rfl⟩ := for_at hf (fun k env st' => ∃ (E : List (Nat × Nat)) (beg : Option Nat) (a7 : Option D), E ++ grpAt ps k beg = grp none ps ∧ (∀ b0, beg = some b0 → b0 ≤ 200 ∧ 1 ≤ k ∧ k < ps.length ∧ ps[k]?.getD 0 ≤ ps[k - 1]?.getD 0 + 3) ∧ st' = st ++ [.lst (E.map (stkD n b))] ∧
      env = [some (.int n), some (.str (ljustL a w)), some (.str (ljustL b w)), some (.int w), some (.lst (intD ps)), some (.ref st.length), some (begD beg), a7]) ⟨[], none, none, rfl, fun _ e => (by cases e), by simp, rfl⟩ (fun _ _ _ _ _ => rfl) (fun k x env st' hk ⟨E, beg, a7, h1, h2, e1, e2⟩ => by
        subst e1 e2
        obtain ⟨hk', rfl⟩ := ints_get hk
        replace hk := hk'
        obtain ⟨p, hp⟩ : ∃ p, ps[k]? = some p := ⟨ps[k], by simp [hk]⟩
        have hpw := hlt p (List.mem_of_getElem? hp)
        have ep : ps[k] = p := (List.getElem?_eq_some_iff.mp hp).2
        have ip := intD_at hp
        rw [r_gN]
        simp only [sOf_m, List.set_cons_succ, List.set_cons_zero]
        -- the begin
        obtain ⟨b1, hb1, hg1, s1⟩ : ∃ b1 : Nat, b1 ≤ 200 ∧ grpAt ps k beg = grp (some (b1, p)) (ps.drop (k + 1)) ∧ eIf (tv (eOp (isG false) (eV 6) (eC .non))) (eOp ixG (eV 4) (eV 7)) (eV 6) [some (.int n), some (.str (ljustL a w)), some (.str (ljustL b w)), some (.int w), some (.lst (intD ps)), some (.ref st.length), some (begD beg), some (.int k)] (st ++ [.lst (E.map (stkD n b))]) = .ok (.int (b1 : Int), st ++ [.lst (E.map (stkD n b))]) := by
          cases beg with
          | none => exact ⟨p, by omega, grpAt_none hp, by simp [begD, isG, ixL, ip]⟩
          | some b0 =>
            obtain ⟨q0, q1, q2, q3⟩ := h2 b0 rfl
            refine ⟨b0, q0, ?_, by simp [begD, isG]⟩
            unfold grpAt
            simp only
            rw [List.drop_eq_getElem_cons hk, ep, grp, if_neg (by rw [hp] at q3; simp at q3 ⊢; omega)]
        rw [sCons_nx (sAsgN_at s1)]
        simp only [List.set_cons_succ, List.set_cons_zero]
        rw [hg1] at h1
        have cond : ∃ c : Bool, (c = true ↔ (k + 1 = ps.length ∨ ∃ q, ps[k + 1]? = some q ∧ p + 3 < q)) ∧ tOrD (tv (eOp (eqG false) (eOp (addG false) (eV 7) (eC (.int 1))) (eB lenG (aCons (eV 4) (aNil))))) (tv (eOp gtG (eOp subG (eOp ixG (eV 4) (eOp (addG false) (eV 7) (eC (.int 1)))) (eOp ixG (eV 4) (eV 7))) (eC (.int 3)))) [some (.int n), some (.str (ljustL a w)), some (.str (ljustL b w)), some (.int w), some (.lst (intD ps)), some (.ref st.length), some (.int b1), some (.int k)] (st ++ [.lst (E.map (stkD n b))]) = .ok (c, st ++ [.lst (E.map (stkD n b))]) := by
          by_cases hl : k + 1 = ps.length
          · have hl' : (k : Int) + 1 = ps.length := by omega
            exact ⟨true, by simp [hl], by simp [add_ii, len_l, hl']⟩
          · have hl' : ¬ (k : Int) + 1 = ps.length := by omega
            obtain ⟨q, hq⟩ : ∃ q, ps[k + 1]? = some q := ⟨ps[k + 1], by rw [List.getElem?_eq_getElem (by omega)]⟩
            have iq := intD_at hq
            rw [show ((k + 1 : Nat) : Int) = (k : Int) + 1 by omega] at iq
            refine ⟨decide (p + 3 < q), by simp [hl, hq], ?_⟩
            have sub : ∀ st, subG st (.int (q : Int)) (.int (p : Int)) = .ok (.int ((q : Int) - p), st) := fun st => rfl
            simp [add_ii, len_l, hl', ixL, ip, iq, sub, gtG]
            omega
        obtain ⟨c, hc, ec⟩ := cond
        rw [sIf_at ec]
        by_cases h : k + 1 = ps.length ∨ ∃ q, ps[k + 1]? = some q ∧ p + 3 < q
        · rw [hc.mpr h, if_pos rfl]
          have cs : cutD (ljustL b (w : Int)) (some (b1 : Int)) (some ((p : Int) + 1)) = sgL b (b1, p) := by
            rw [show (p : Int) + 1 = ((p + 1 : Nat) : Int) by omega, cut_ft20]
            exact sg_lj (g := (b1, p)) (by omega) hpw
          have El : E.length ≤ 1000 := by
            have := congrArg List.length h1
            have key : ∀ (l : List Nat) (s : Option (Nat × Nat)), (grp s l).length ≤ l.length + 1 := by
              intro l
              induction l with
              | nil => intro s; cases s <;> simp [grp]
              | cons p l ih =>
                intro s
                cases s with
                | none => rw [grp]; have := ih (some (p, p)); simp; omega
                | some g =>
                  rw [grp]
                  split
                  · have := ih (some (p, p)); simp; omega
                  · have := ih (some (g.1, p)); simp; omega
            have k2 := key ps none
            rw [← this, List.length_append] at k2
            omega
          have ap := fr_app st (L := E.map (stkD n b)) (stkD n b (b1, p)) (by simp; omega)
          have ty := fr_ty st (E.map (stkD n b))
          unfold stkD at ap ty
          generalize hS : st ++ [Ob.lst (E.map (stkD n b))] = S at *
          unfold stkD at hS
          rw [hS] at ap ty
          simp [ixL, ip, add_ii, sl_s, cs, ty, ap]
          refine ⟨E ++ [(b1, p)], none, ?_, fun _ e => (by cases e), by simp [stkD], rfl⟩
          rw [List.append_assoc, ← h1]
          congr 1
          show [(b1, p)] ++ grp none (ps.drop (k + 1)) = _
          rcases h with h | ⟨q, hq, hf⟩
          · rw [List.drop_of_length_le (by omega)]; rfl
          · have hk1 := (List.getElem?_eq_some_iff.mp hq).1
            have eq2 : ps[k + 1] = q := (List.getElem?_eq_some_iff.mp hq).2
            rw [List.drop_eq_getElem_cons hk1, eq2]
            simp only [grp]
            rw [if_pos hf]
            rfl
        · have hcf : c = false := by
            cases c with
            | false => rfl
            | true => exact absurd (hc.mp rfl) h
          rw [hcf, if_neg (by decide)]
          refine ⟨E, some b1, _, ?_, fun b0 e => ?_, rfl, rfl⟩
          · rw [← h1]
            unfold grpAt
            simp only [Nat.add_sub_cancel, hp, Option.getD_some]
          · cases e
            have hl : k + 1 < ps.length := by
              rcases Nat.lt_or_ge (k + 1) ps.length with z | z
              · exact z
              · exact absurd (.inl (by omega)) h
            refine ⟨hb1, by omega, hl, ?_⟩
            rw [Nat.add_sub_cancel, hp, List.getElem?_eq_getElem hl]
            simp only [Option.getD_some]
            rcases Nat.lt_or_ge (p + 3) ps[k + 1] with z | z
            · exact absurd (.inr ⟨_, List.getElem?_eq_getElem hl, z⟩) h
            · exact z)
    rw [intsD_len] at h1 h2
    have hb : beg = none := by
      cases beg with
      | none => rfl
      | some b0 => have := (h2 b0 rfl).2.2.1; omega
    subst hb
    have e9 : E = grp none ps := by
      rw [← h1]
      unfold grpAt
      simp [grp]
    subst e9
    simp [stkD]
  · obtain ⟨i, hi⟩ := List.getElem?_of_mem hd
    obtain ⟨hi, rfl⟩ := ints_get hi
    have g : ∀ s : List Nat, s.length ≤ w → atI (ljustL s w) (i : Int) = some (s[i]?.getD 32) := fun s hs => by
      rw [atI_nat]
      unfold ljustL
      by_cases h1 : i < s.length
      · rw [List.getElem?_append_left h1, List.getElem?_eq_getElem h1]; rfl
      · rw [List.getElem?_append_right (by omega), List.getElem?_replicate, if_pos (by simp; omega), List.getElem?_eq_none (by omega)]; rfl
    have g1 := g a (by omega)
    have g2 := g b (by omega)
    simp [wipeD, ixG, g1, g2, onInt, dif]
end Dl
namespace Dl
open PySem L2
def m_strokes : FV := funD 6 (d_strokes m_need_lines m_strokes_of)
def strkN (l1 l2 : List (List Nat)) : Nat → List D
  | 0 => []
  | n + 1 => strkN l1 l2 n ++ strkD n (lineAt l1 n) (lineAt l2 n)
def strkA (l1 l2 : List (List Nat)) : List D := strkN l1 l2 (max l1.length l2.length)
theorem grp_len : ∀ (l : List Nat) (s : Option (Nat × Nat)), (grp s l).length ≤ l.length + 1
  | [], s => by cases s <;> simp [grp]
  | p :: l, s => by
    cases s with
    | none => rw [grp]; have := grp_len l (some (p, p)); simp; omega
    | some g =>
      rw [grp]
      split
      · have := grp_len l (some (p, p)); simp; omega
      · have := grp_len l (some (g.1, p)); simp; omega
theorem strkD_len (n : Nat) (a b : List Nat) : (strkD n a b).length ≤ 205 := by
  unfold strkD
  rw [List.length_map]
  have h1 := grp_len (plc20 a b 204) none
  have h2 : (plc20 a b 204).length ≤ 204 := by
    unfold plc20
    refine Nat.le_trans (List.length_filter_le _ _) ?_
    simp
  omega
theorem strkN_len (l1 l2 : List (List Nat)) : ∀ n, (strkN l1 l2 n).length ≤ 205 * n
  | 0 => by simp [strkN]
  | n + 1 => by
    have := strkN_len l1 l2 n
    have h := strkD_len n (lineAt l1 n) (lineAt l2 n)
    rw [strkN, List.length_append]; omega
end Dl
namespace Dl
open PySem L2
def m_law_line_near : FV := funD 6 (d_law_line_near m_law_take m_law_sign)
theorem ok_cut {s : List Nat} (h : ∀ c ∈ s, okSign c = true) (n : Nat) : ∀ c ∈ s.take n, okSign c = true := fun c hc => h c (List.mem_of_mem_take hc)
theorem ok_drop {s : List Nat} (h : ∀ c ∈ s, okSign c = true) (n : Nat) : ∀ c ∈ s.drop n, okSign c = true := fun c hc => h c (List.mem_of_mem_drop hc)
theorem ok_app {a b : List Nat} (h : ∀ c ∈ a, okSign c = true) (k : ∀ c ∈ b, okSign c = true) : ∀ c ∈ a ++ b, okSign c = true := fun c hc => by
  rcases List.mem_append.mp hc with z | z
  · exact h c z
  · exact k c z
theorem near20_ok (b : Box) (rest : Store) {s0 : List Nat} (h0 : okLine s0 = true) : ∃ s b', okLine s = true ∧ m_law_line_near [.ref 1, .str s0] (Bx b rest) = .ok (.str s, Bx b' rest) := by
  unfold m_law_line_near funD d_law_line_near
  obtain ⟨p1, p2⟩ := okLine_parts h0
  have z0 := tk_lo b (n := 6) (by decide)
  have z1 := tk_hi b (n := 6) (by decide)
  have t3 := take_eq b rest 6 (by decide) (by decide)
  generalize tk b 6 = p at z0 z1 t3
  obtain ⟨t, b3⟩ := p
  simp only at z0 z1 t3
  have m1 : -1000000 ≤ t ∧ t ≤ 1000000 := by omega
  simp [t3, m1]
  generalize hf : forGo _ _ _ _ _ _ = r
  obtain ⟨e, st, rfl, s, b', a3, a4, a5, rfl, h1, h2, rfl⟩ := for_at hf (fun i env st' => ∃ (s : List Nat) (b' : Box) (a3 a4 a5 : Option D), st' = Bx b' rest ∧ (∀ c ∈ s, okSign c = true) ∧ s.length ≤ 200 + 3 * i ∧ env = [some (.ref 1), some (.str s0), some (.str s), a3, a4, a5]) ⟨s0, b3, _, _, _, rfl, p2, by omega, rfl⟩ (fun _ _ _ _ _ => rfl) (fun i x env st' hi ⟨s, b, a3, a4, a5, e1, e2, e3, e4⟩ => by
    subst e1 e4
    obtain ⟨hi, rfl⟩ := ints_get hi
    have n0 : (0 : Int) < (s.length : Int) + 1 := by omega
    have t1 := take_eq b rest _ n0 (by omega)
    have v0 := tk_lo b n0
    have v1 := tk_hi b n0
    generalize tk b ((s.length : Int) + 1) = p at v0 v1 t1
    obtain ⟨k, b1⟩ := p
    simp only at v0 v1 t1
    obtain ⟨k, rfl⟩ := Int.eq_ofNat_of_zero_le v0
    have w0 := tk_lo b1 (n := 5) (by decide)
    have w1 := tk_hi b1 (n := 5) (by decide)
    have t2 := take_eq b1 rest 5 (by decide) (by decide)
    generalize tk b1 5 = p at w0 w1 t2
    obtain ⟨way, b2⟩ := p
    simp only at w0 w1 t2
    have cT : cutD s none (some (k : Int)) = s.take k := cut_to _ _
    have cF : cutD s (some (k : Int)) none = s.drop k := cut_from _ _
    have cF1 : cutD s (some ((k : Int) + 1)) none = s.drop (k + 1) := cut_from _ (k + 1)
    have l1 : (s.take k).length ≤ k := by rw [List.length_take]; omega
    have l1' : (s.take k).length ≤ s.length := by rw [List.length_take]; omega
    have l2 : ∀ n, (s.drop n).length = s.length - n := fun n => by rw [List.length_drop]
    simp only [r_gN, sOf_m, List.set_cons_succ, List.set_cons_zero]
    have s1 : sPar 4 5 (aCons (eCall 2 m_law_take (aCons (eV 0) (aCons (eOp (addG false) (eB lenG (aCons (eV 2) (aNil))) (eC (.int 1))) (aNil)))) (aCons (eCall 2 m_law_take (aCons (eV 0) (aCons (eC (.int 5)) (aNil)))) (aNil))) [some (.ref 1), some (.str s0), some (.str s), some (.int i), a4, a5] (Bx b rest) = .nx [some (.ref 1), some (.str s0), some (.str s), some (.int i), some (.int k), some (.int way)] (Bx b2 rest) := by
      simp [len_s, add_ii, t1, t2]
    rw [sCons_nx s1]
    by_cases hA : way < 3
    · obtain ⟨sg, b4, hsg, esg⟩ := sign_ok b2 rest
      obtain ⟨y, ey, my⟩ := atI_mem (l := [D.str [sg], D.str [32], D.str [97]]) (i := way) w0 (by show way < 3; exact hA)
      have hy : ∃ c, y = .str [c] ∧ okSign c = true := by
        simp at my
        rcases my with rfl | rfl | rfl
        · exact ⟨_, rfl, hsg⟩
        · exact ⟨_, rfl, by decide⟩
        · exact ⟨_, rfl, by decide⟩
      obtain ⟨c, rfl, hc⟩ := hy
      have h3 : ¬ way = 3 := by omega
      have h4 : ¬ way = 4 := by omega
      have e9 : ∃ u, (∀ c ∈ u, okSign c = true) ∧ u.length ≤ 200 + 3 * (i + 1) ∧ u = s.take k ++ [c] ++ s.drop (k + 1) := ⟨_, ok_app (ok_app (ok_cut e2 k) (by simp; exact hc)) (ok_drop e2 _), by simp; omega, rfl⟩
      obtain ⟨u, u1, u2, u3⟩ := e9
      have ad1 := add_ss (Bx b4 rest) (s.take k) [c] (by simp; omega)
      have ad2 := add_ss (Bx b4 rest) (s.take k ++ [c]) (s.drop (k + 1)) (by simp; omega)
      rw [← u3] at ad2
      simp [ltG, hA, sl_s, cT, esg, ixL, ey, ad1, add_ii, cF1, ad2, h3, h4]
      exact ⟨⟨_, rfl⟩, u1, u2⟩
    · by_cases h3 : way = 3
      · have w0 := tk_lo b2 (n := 4) (by decide)
        have w1 := tk_hi b2 (n := 4) (by decide)
        have t5 := take_eq b2 rest 4 (by decide) (by decide)
        generalize tk b2 4 = p at w0 w1 t5
        obtain ⟨m, b4⟩ := p
        simp only at w0 w1 t5
        obtain ⟨m, rfl⟩ := Int.eq_ofNat_of_zero_le w0
        have cm : cutD ([97, 98, 32] : List Nat) none (some (m : Int)) = [97, 98, 32].take m := cut_to _ _
        have okm : ∀ c ∈ ([97, 98, 32] : List Nat).take m, okSign c = true := ok_cut (by decide) m
        have lm : (([97, 98, 32] : List Nat).take m).length ≤ 3 := by rw [List.length_take]; simp; omega
        generalize ([97, 98, 32] : List Nat).take m = M at cm okm lm
        have e9 : ∃ u, (∀ c ∈ u, okSign c = true) ∧ u.length ≤ 200 + 3 * (i + 1) ∧ u = s.take k ++ M ++ s.drop k := ⟨_, ok_app (ok_app (ok_cut e2 k) okm) (ok_drop e2 _), by simp; omega, rfl⟩
        obtain ⟨u, u1, u2, u3⟩ := e9
        have ad1 := add_ss (Bx b4 rest) (s.take k) M (by omega)
        have ad2 := add_ss (Bx b4 rest) (s.take k ++ M) (s.drop k) (by rw [List.length_append, l2]; omega)
        rw [← u3] at ad2
        simp [ltG, h3, sl_s, cT, t5, cm, ad1, cF, ad2]
        exact ⟨⟨_, rfl⟩, u1, u2⟩
      · have h4 : way = 4 := by omega
        have w0 := tk_lo b2 (n := 9) (by decide)
        have w1 := tk_hi b2 (n := 9) (by decide)
        have t5 := take_eq b2 rest 9 (by decide) (by decide)
        generalize tk b2 9 = p at w0 w1 t5
        obtain ⟨m, b4⟩ := p
        simp only at w0 w1 t5
        obtain ⟨m, rfl⟩ := Int.eq_ofNat_of_zero_le w0
        have cm : cutD s (some ((k : Int) + 1 + m)) none = s.drop (k + 1 + m) := by
          rw [show (k : Int) + 1 + m = ((k + 1 + m : Nat) : Int) by omega]; exact cut_from _ _
        have ad1 := add_ss (Bx b4 rest) (s.take k) (s.drop (k + 1 + m)) (by rw [l2]; omega)
        obtain ⟨y, ey, my⟩ := atI_mem (l := [D.str (s.take k), D.str (s.take k ++ s.drop (k + 1 + m))]) (i := (tk b4 2).1) (tk_lo _ (by decide)) (tk_hi _ (by decide))
        have hy : ∃ u, y = .str u ∧ (∀ c ∈ u, okSign c = true) ∧ u.length ≤ 200 + 3 * (i + 1) := by
          simp at my
          rcases my with rfl | rfl
          · exact ⟨_, rfl, ok_cut e2 k, by omega⟩
          · exact ⟨_, rfl, ok_app (ok_cut e2 k) (ok_drop e2 _), by rw [List.length_append, l2]; omega⟩
        obtain ⟨u, rfl, u1, u2⟩ := hy
        have t6 := take_eq b4 rest 2 (by decide) (by decide)
        generalize (tk b4 2).2 = b5 at t6
        generalize (tk b4 2).1 = i5 at t6 ey
        simp [ltG, h4, sl_s, cT, add_ii, t5, cm, ad1, t6, ixL, ey]
        exact ⟨⟨_, rfl⟩, u1, u2⟩)
  rw [intsD_len] at h2
  simp [slG]
  refine ⟨_, ?_, rfl, _, rfl⟩
  have := cut_to s 200
  rw [show ((200 : Nat) : Int) = 200 from rfl] at this
  rw [this]
  exact cut_le h1 (by omega)
def m_law_lines_two : FV := funD 6 (d_law_lines_two m_law_take m_law_line_k20 m_law_line_near)
theorem two_ok (b : Box) (rest : Store) : ∃ (l1 l2 : List (List Nat)) (b' : Box) (rest' : Store), l1.length ≤ 30 ∧ l2.length ≤ 30 ∧ (∀ s ∈ l1, okLine s = true) ∧ (∀ s ∈ l2, okLine s = true) ∧ m_law_lines_two [.ref 1] (Bx b rest) = .ok (.tup [.lst (strsD l1), .lst (strsD l2)], Bx b' rest') := by
  unfold m_law_lines_two funD d_law_lines_two
  obtain ⟨l1, hl1, ok1, b1, s1⟩ : ∃ ls, ls.length ≤ 30 ∧ (∀ s ∈ ls, okLine s = true) ∧ ∃ b1, eLc false (iR1 (aCons (eCall 2 m_law_take (aCons (eV 0) (aCons (eOp ixG (eLst false (aCons (eC (.int 4)) (aCons (eC (.int 12)) (aCons (eC (.int 31)) (aNil))))) (eCall 2 m_law_take (aCons (eV 0) (aCons (eC (.int 3)) (aNil))))) (aNil)))) (aNil))) [4] (.one 4) (tYesD) (eCall 1 m_law_line_k20 (aCons (eV 0) (aNil))) [some (.ref 1), none, none, none, none, none] (Bx b rest) = .ok (.lst (strsD ls), Bx b1 rest) := by
    obtain ⟨n, en, n0, n9⟩ := pick3 (b := b) (ls := [4, 12, 31]) (m := 3) rfl (by decide) (fun n => 0 < n ∧ n ≤ 31) (by decide)
    simp only [List.map_cons, List.map_nil] at en
    have n64 : n < 18446744073709551616 := by omega
    have t2 := take_eq b rest 3 (by decide) (by decide)
    generalize (tk b 3).2 = b2 at t2
    generalize (tk b 3).1 = i2 at t2 en
    have z0 := tk_lo b2 n0
    have z1 := tk_hi b2 n0
    have t3 := take_eq b2 rest n n0 n64
    generalize tk b2 n = p at z0 z1 t3
    obtain ⟨t, b3⟩ := p
    simp only at z0 z1 t3
    have m1 : -1000000 ≤ t ∧ t ≤ 1000000 := by omega
    have m2 : t.toNat ≤ LIM := le_LIM (by omega)
    simp [t2, ixL, en, t3, m1, m2]
    generalize hf : lcGo _ _ _ _ _ _ _ _ = r
    obtain ⟨acc, s, rfl, ls, b2, h1, h2, rfl, rfl⟩ := lc_at hf (fun i acc st' => ∃ (ls : List (List Nat)) (b' : Box), ls.length = i ∧ (∀ s ∈ ls, okLine s = true) ∧ acc = strsD ls ∧ st' = Bx b' rest) ⟨[], b3, rfl, by simp, rfl, rfl⟩ (fun _ _ _ _ _ => rfl) (fun i x acc st' hi ⟨ls, b', e1, e2, e3, e4⟩ => by
      subst e3 e4
      obtain ⟨s, b2, hs, es⟩ := line20_ok b' rest
      refine ⟨_, rfl, ?_⟩
      simp [es]
      exact ⟨ls ++ [s], by simp [e1], fun x hx => by simp at hx; rcases hx with hx | rfl <;> first | exact e2 _ hx | exact hs, by simp [strsD], _, rfl⟩)
    rw [intsD_len] at h1
    exact ⟨ls, by omega, h2, b2, rfl⟩
  simp only [List.map_cons, List.map_nil, List.length_cons, List.length_nil, List.cons_append, List.nil_append, show List.replicate (6 - (0 + 1)) (none : Option D) = [none, none, none, none, none] from rfl]
  rw [sCons_nx (sAsgN_at s1)]
  simp only [List.set_cons_succ, List.set_cons_zero]
  have l1lim : l1.length ≤ LIM := le_LIM (by omega)
  -- the later ones
  obtain ⟨l2, hl2, ok2, b2, s2⟩ : ∃ ls, ls.length ≤ 30 ∧ (∀ s ∈ ls, okLine s = true) ∧ ∃ b2, eLc true (iSeq (eV 1)) [5] (.one 5) (tYesD) (eOp ixG (eLst false (aCons (eV 5) (aCons (eCall 2 m_law_line_near (aCons (eV 0) (aCons (eV 5) (aNil)))) (aCons (eCall 1 m_law_line_k20 (aCons (eV 0) (aNil))) (aNil))))) (eB minG (aCons (eC (.int 2)) (aCons (eCall 2 m_law_take (aCons (eV 0) (aCons (eC (.int 5)) (aNil)))) (aNil))))) [some (.ref 1), some (.lst (strsD l1)), none, none, none, none] (Bx b1 rest) = .ok (.ref (Bx b2 rest).length, Bx b2 rest ++ [.lst (strsD ls)]) := by
    simp [itemsOf, l1lim]
    generalize hf : lcGo _ _ _ _ _ _ _ _ = r
    obtain ⟨acc, s, rfl, ls, b2, h1, h2, rfl, rfl⟩ := lc_at hf (fun i acc st' => ∃ (ls : List (List Nat)) (b' : Box), ls.length = i ∧ (∀ s ∈ ls, okLine s = true) ∧ acc = strsD ls ∧ st' = Bx b' rest) ⟨[], b1, rfl, by simp, rfl, rfl⟩ (fun _ _ _ _ _ => rfl) (fun i x acc st' hi ⟨ls, b', e1, e2, e3, e4⟩ => by
      subst e3 e4
      cases q : l1[i]? with
      | none => unfold strsD at hi; rw [List.getElem?_map, q] at hi; cases hi
      | some line =>
        rw [strsD_get q] at hi
        cases hi
        have hline := ok1 line (List.mem_of_getElem? q)
        obtain ⟨s1, b3, hs1, es1⟩ := near20_ok b' rest hline
        obtain ⟨s2, b4, hs2, es2⟩ := line20_ok b3 rest
        have w0 := tk_lo b4 (n := 5) (by decide)
        have w1 := tk_hi b4 (n := 5) (by decide)
        have t5 := take_eq b4 rest 5 (by decide) (by decide)
        generalize tk b4 5 = p at w0 w1 t5
        obtain ⟨m, b5⟩ := p
        simp only at w0 w1 t5
        have mn : ∀ st, minG st [.int 2, .int m] = .ok (.int (min 2 m), st) := fun st => rfl
        obtain ⟨y, ey, my⟩ := atI_mem (l := [D.str line, D.str s1, D.str s2]) (i := min 2 m) (by omega) (by show min 2 m < 3; omega)
        have hy : ∃ u, y = .str u ∧ okLine u = true := by
          simp at my
          rcases my with rfl | rfl | rfl
          · exact ⟨_, rfl, hline⟩
          · exact ⟨_, rfl, hs1⟩
          · exact ⟨_, rfl, hs2⟩
        obtain ⟨u, rfl, hu⟩ := hy
        refine ⟨_, rfl, ?_⟩
        simp [es1, es2, t5, mn, ixL, ey]
        exact ⟨ls ++ [u], by simp [e1], fun x hx => by simp at hx; rcases hx with hx | rfl <;> first | exact e2 _ hx | exact hu, by simp [strsD], _, rfl⟩)
    rw [strsD_len] at h1
    refine ⟨ls, by omega, h2, b2, ?_⟩
    simp
  rw [sCons_nx (sAsgN_at s2)]
  simp only [List.set_cons_succ, List.set_cons_zero]
  have w0 := tk_lo b2 (n := 4) (by decide)
  have w1 := tk_hi b2 (n := 4) (by decide)
  have t4 := take_eq b2 (rest ++ [.lst (strsD l2)]) 4 (by decide) (by decide)
  generalize tk b2 4 = p at w0 w1 t4
  obtain ⟨m, b3⟩ := p
  simp only at w0 w1 t4
  have m1 : -1000000 ≤ m ∧ m ≤ 1000000 := by omega
  simp [t4, m1]
  generalize hf : forGo _ _ _ _ _ _ = r
  obtain ⟨e, s', rfl, l3, b4, a3, hl3, ok3, rfl, rfl⟩ := for_at hf (fun i env st' => ∃ (l3 : List (List Nat)) (b4 : Box) (a3 : Option D), l3.length ≤ 30 ∧ (∀ s ∈ l3, okLine s = true) ∧ st' = Bx b4 (rest ++ [.lst (strsD l3)]) ∧ env = [some (.ref 1), some (.lst (strsD l1)), some (.ref (rest.length + 2)), a3, none, none]) ⟨l2, b3, _, hl2, ok2, rfl, rfl⟩ (fun _ _ _ _ _ => rfl) (fun i x env st' hi ⟨l3, b4, a3, hl3, ok3, e1, e2⟩ => by
    subst e1 e2
    obtain ⟨hi, rfl⟩ := ints_get hi
    have fl := fr_list (Bx b4 rest) (strsD l3)
    have ln := len_list fl
    rw [Bx_app] at ln
    simp only [Bx_len, strsD_len] at ln
    rw [r_gN]
    simp only [sOf_m, List.set_cons_succ, List.set_cons_zero]
    rw [sIf_at (b := decide ((l3.length : Int) < 30)) (sx := Bx b4 (rest ++ [.lst (strsD l3)])) (by simp [ln, ltG])]
    by_cases h : (l3.length : Int) < 30
    · rw [decide_eq_true h, if_pos rfl]
      obtain ⟨s, b5, hs, es⟩ := line20_ok b4 (rest ++ [.lst (strsD l3)])
      have ap := fr_app (Bx b5 rest) (L := strsD l3) (.str s) (by simp; omega)
      have ty := fr_ty (Bx b4 rest) (strsD l3)
      rw [Bx_app] at ap ty
      rw [Bx_app] at ap
      simp only [Bx_len] at ap ty
      have e3 : strsD l3 ++ [.str s] = strsD (l3 ++ [s]) := by simp [strsD]
      rw [e3] at ap
      simp [ty, es, ap]
      exact ⟨l3 ++ [s], by simp; omega, fun t ht => by simp at ht; rcases ht with ht | rfl <;> first | exact ok3 _ ht | exact hs, b5, rfl⟩
    · rw [decide_eq_false h, if_neg (by decide)]
      exact ⟨l3, b4, _, hl3, ok3, rfl, rfl⟩)
  have w0 := tk_lo b4 (n := 3) (by decide)
  have w1 := tk_hi b4 (n := 3) (by decide)
  have t5 := take_eq b4 (rest ++ [.lst (strsD l3)]) 3 (by decide) (by decide)
  generalize tk b4 3 = p at w0 w1 t5
  obtain ⟨u, b5⟩ := p
  simp only at w0 w1 t5
  obtain ⟨u, rfl⟩ := Int.eq_ofNat_of_zero_le w0
  have cF : cutD (strsD l3) (some ((u : Int) / 2)) none = strsD (l3.drop (u / 2)) := by
    rw [show (u : Int) / 2 = ((u / 2 : Nat) : Int) by omega, cut_from]
    unfold strsD; rw [List.map_drop]
  have fl := fr_list (Bx b5 rest) (strsD l3)
  rw [Bx_app] at fl
  simp only [Bx_len] at fl
  have sl : slG false (Bx b5 (rest ++ [.lst (strsD l3)])) (.ref (rest.length + 2)) (some ((u : Int) / 2)) none = .ok (.lst (strsD (l3.drop (u / 2))), Bx b5 (rest ++ [.lst (strsD l3)])) := by
    have := lst_list fl
    unfold slG
    simp only [this, cF]
    rfl
  simp [t5, divG, sl]
  exact ⟨l1, hl1, l3.drop (u / 2), by simp; omega, ok1, fun s hs => ok3 s (List.mem_of_mem_drop hs), ⟨rfl, rfl⟩, _, _, rfl⟩
end Dl
namespace Dl
open PySem L2
theorem pk_stk20 (n : Nat) (b : List Nat) (g : Nat × Nat) : D.pk (stkD n b g) = true := by unfold stkD; simp [D.pk, D.pks]
theorem strkN_all {P : D → Prop} (l1 l2 : List (List Nat)) (h : ∀ n b g, P (stkD n b g)) : ∀ n, ∀ d ∈ strkN l1 l2 n, P d
  | 0 => fun d hd => by cases hd
  | n + 1 => fun d hd => by
    rw [strkN] at hd
    rcases List.mem_append.mp hd with hd | hd
    · exact strkN_all l1 l2 h n d hd
    · unfold strkD at hd
      obtain ⟨g, _, rfl⟩ := List.mem_map.mp hd
      exact h n _ g
end Dl
namespace Dl
open PySem L2
/-- is_stroke: 1 slots, 1 parameters -/
def d_is_stroke (m_is_line : FV) (m_is_number : FV) : SV := sCons (sIf (tOrD (tNotD (tv (eIs "tuple" (eV 0)))) (tOrD (tv (eOp (eqG true) (eB lenG (aCons (eV 0) (aNil))) (eC (.int 3)))) (tOrD (tNotD (tv (eCall 1 m_is_line (aCons (eOp ixG (eV 0) (eC (.int 2))) (aNil))))) (tv (eOp (eqG false) (eOp ixG (eV 0) (eC (.int 2))) (eC (.str []))))))) (sRet (eC (.bl false))) (sNext)) (sRet (eAnd (eCall 3 m_is_number (aCons (eOp ixG (eV 0) (eC (.int 0))) (aCons (eC (.int 0)) (aCons (eOp subG (eC (.int 30)) (eC (.int 1))) (aNil))))) (eCall 3 m_is_number (aCons (eOp ixG (eV 0) (eC (.int 1))) (aCons (eC (.int 0)) (aCons (eOp subG (eC (.int 200)) (eB lenG (aCons (eOp ixG (eV 0) (eC (.int 2))) (aNil)))) (aNil)))))))
/-- painted: 8 slots, 2 parameters -/
def d_painted (m_need_lines : FV) (m_is_stroke : FV) : SV := sCons (sExpr (eCall 1 m_need_lines (aCons (eV 0) (aNil)))) (sCons (sFor (iEn (aCons (eV 1) (aNil))) (gTp 2 (gsCons (gN 2) (gsCons (gN 3) (gsNil)))) (sIf (tNotD (tv (eCall 1 m_is_stroke (aCons (eV 3) (aNil))))) (sRaiseP 10 (eV 2)) (sNext))) (sCons (sAsg (eB (listG true) (aCons (eV 0) (aNil))) (gN 4)) (sCons (sFor (iSeq (eV 1)) (gTp 3 (gsCons (gN 2) (gsCons (gN 5) (gsCons (gN 6) (gsNil))))) (sCons (whileGo (tv (eOp leG (eB lenG (aCons (eV 4) (aNil))) (eV 2))) (sExpr (eMt "list" (appendG) (eV 4) (aCons (eC (.str [])) (aNil)))) 100000) (sCons (sAsg (eMt "str" (ljustG) (eOp ixG (eV 4) (eV 2)) (aCons (eV 5) (aNil))) (gN 7)) (sAsg (eOp (addG false) (eOp (addG false) (eSl false (eV 7) (poNone) (poSome (eV 5))) (eV 6)) (eSl false (eV 7) (poSome (eOp (addG false) (eV 5) (eB lenG (aCons (eV 6) (aNil))))) (poNone))) (gSb (eV 4) (eV 2) setLG))))) (sRet (eLc true (iSeq (eV 4)) [7] (.one 7) (tYesD) (eMt "str" (rstripG) (eV 7) (aCons (eC (.str [32])) (aNil))))))))
end Dl
namespace Dl
open PySem L2
abbrev isBk : Nat → Bool := fun c => ([32] : List Nat).contains c
theorem isBk_eq (c : Nat) : isBk c = decide (c = 32) := by
  by_cases h : c = 32
  · subst h; rfl
  · simp [isBk, h]
theorem lcut_plain {T : List Nat} (h : T.head? ≠ some 32) : lcut isBk T = T := by
  cases T with
  | nil => rfl
  | cons c r =>
    have hc : isBk c = false := by rw [isBk_eq]; simp at h; simpa using h
    unfold lcut
    rw [List.takeWhile_cons, if_neg (by rw [hc]; simp)]
    rfl
theorem lcut_blank (l : List Nat) : lcut isBk (32 :: l) = lcut isBk l := by
  unfold lcut
  rw [List.takeWhile_cons, if_pos (by rw [isBk_eq]; rfl)]
  rfl
theorem rcut_rev (p : Nat → Bool) (s : List Nat) : rcut p s = (lcut p s.reverse).reverse := by
  unfold rcut lcut
  rw [List.drop_reverse, List.reverse_reverse]
theorem lcut_dec : ∀ s : List Nat, ∃ a, s = List.replicate a 32 ++ lcut isBk s ∧ (lcut isBk s).head? ≠ some 32
  | [] => ⟨0, rfl, by simp [lcut]⟩
  | c :: r => by
    by_cases h : c = 32
    · subst h
      obtain ⟨a, e, k⟩ := lcut_dec r
      rw [lcut_blank]
      exact ⟨a + 1, by rw [List.replicate_succ, List.cons_append, ← e], k⟩
    · have := lcut_plain (T := c :: r) (by simpa using h)
      rw [this]
      exact ⟨0, rfl, by simpa using h⟩
theorem rcut_dec (s : List Nat) : ∃ b, s = rcut isBk s ++ List.replicate b 32 ∧ (rcut isBk s).getLast? ≠ some 32 := by
  obtain ⟨b, e, k⟩ := lcut_dec s.reverse
  refine ⟨b, ?_, ?_⟩
  · rw [rcut_rev]
    have := congrArg List.reverse e
    rw [List.reverse_reverse, List.reverse_append, List.reverse_replicate] at this
    exact this
  · rw [rcut_rev, List.getLast?_reverse]
    exact k
end Dl
namespace Dl
open PySem L2
structure Stk where
  n : Nat
  b : Nat
  sg : List Nat
def Stk.ok (s : Stk) : Prop := s.n ≤ 29 ∧ s.sg ≠ [] ∧ s.b + s.sg.length ≤ 200 ∧ ∀ c ∈ s.sg, okSign c = true
def Stk.enc (s : Stk) : D := .tup [.int s.n, .int s.b, .str s.sg]
def pad4 (l : List Nat) : List Nat := (l ++ List.replicate 400 32).take 400
def ov (u : List Nat) (b : Nat) (sg : List Nat) : List Nat := u.take b ++ (sg ++ u.drop (b + sg.length))
def paintL (l : List Nat) (b : Nat) (sg : List Nat) : List Nat := (ljustL l b).take b ++ (sg ++ (ljustL l b).drop (b + sg.length))
def extL (F : List (List Nat)) (n : Nat) : List (List Nat) := F ++ List.replicate (n + 1 - F.length) []
def stepP (F : List (List Nat)) (s : Stk) : List (List Nat) := (extL F s.n).set s.n (paintL (lineAt F s.n) s.b s.sg)
theorem lineAt_ext (F : List (List Nat)) (n i : Nat) : lineAt (extL F n) i = lineAt F i := by
  unfold lineAt extL
  by_cases h : i < F.length
  · rw [List.getElem?_append_left h]
  · rw [List.getElem?_append_right (by omega), List.getElem?_replicate, List.getElem?_eq_none (l := F) (by omega)]
    split <;> rfl
theorem ext_len (F : List (List Nat)) (n : Nat) : (extL F n).length = max F.length (n + 1) := by
  unfold extL; rw [List.length_append, List.length_replicate]; omega
theorem step_len (F : List (List Nat)) (s : Stk) : (stepP F s).length = max F.length (s.n + 1) := by
  unfold stepP; rw [List.length_set, ext_len]
theorem lineAt_step (F : List (List Nat)) (s : Stk) (i : Nat) : lineAt (stepP F s) i = if s.n = i then paintL (lineAt F s.n) s.b s.sg else lineAt F i := by
  unfold stepP
  by_cases h : s.n = i
  · subst h
    rw [if_pos rfl]
    unfold lineAt
    rw [List.getElem?_set_self (by rw [ext_len]; omega)]
    rfl
  · rw [if_neg h, ← lineAt_ext F s.n i]
    unfold lineAt
    rw [List.getElem?_set_ne h]
theorem pad_get (l : List Nat) (i : Nat) : (pad4 l)[i]? = if i < 400 then some (l[i]?.getD 32) else none := by
  unfold pad4
  rw [List.getElem?_take]
  by_cases hi : i < 400
  · rw [if_pos hi, if_pos hi]
    by_cases h : i < l.length
    · rw [List.getElem?_append_left h, List.getElem?_eq_getElem h]; rfl
    · rw [List.getElem?_append_right (by omega), List.getElem?_replicate, if_pos (by omega), List.getElem?_eq_none (l := l) (by omega)]; rfl
  · rw [if_neg hi, if_neg hi]
theorem lj_get (l : List Nat) (b i : Nat) : (ljustL l b)[i]? = if i < max l.length b then some (l[i]?.getD 32) else none := by
  unfold ljustL
  by_cases h : i < l.length
  · rw [List.getElem?_append_left h, if_pos (by omega), List.getElem?_eq_getElem h]; rfl
  · rw [List.getElem?_append_right (by omega), List.getElem?_replicate, List.getElem?_eq_none (l := l) (by omega)]
    split
    · rw [if_pos (by omega)]; rfl
    · rw [if_neg (by omega)]
theorem lj_len (l : List Nat) (b : Nat) : (ljustL l b).length = max l.length b := by unfold ljustL; rw [List.length_append, List.length_replicate]; omega
theorem paint_len {l : List Nat} {b : Nat} {sg : List Nat} (hl : l.length ≤ 200) (hb : b + sg.length ≤ 200) : (paintL l b sg).length ≤ 200 := by
  unfold paintL
  rw [List.length_append, List.length_append, List.length_take, List.length_drop, lj_len]; omega
theorem paint_get (l : List Nat) (b : Nat) (sg : List Nat) (i : Nat) : (paintL l b sg)[i]?.getD 32 = if i < b then l[i]?.getD 32 else if i < b + sg.length then sg[i - b]?.getD 32 else l[i]?.getD 32 := by
  unfold paintL
  have lt : ((ljustL l b).take b).length = b := by rw [List.length_take, lj_len]; omega
  by_cases h1 : i < b
  · rw [if_pos h1, List.getElem?_append_left (by omega), List.getElem?_take_of_lt h1, lj_get, if_pos (by omega)]; rfl
  · rw [if_neg h1, List.getElem?_append_right (by omega), lt]
    by_cases h2 : i < b + sg.length
    · rw [if_pos h2, List.getElem?_append_left (by omega)]
    · rw [if_neg h2, List.getElem?_append_right (by omega), List.getElem?_drop, show b + sg.length + (i - b - sg.length) = i by omega, lj_get]
      by_cases h3 : i < max l.length b
      · rw [if_pos h3]; rfl
      · rw [if_neg h3, List.getElem?_eq_none (l := l) (by omega)]
theorem pad_paint {l : List Nat} {b : Nat} {sg : List Nat} (hl : l.length ≤ 200) (hb : b + sg.length ≤ 200) : pad4 (paintL l b sg) = ov (pad4 l) b sg := by
  have lp : (pad4 l).length = 400 := by unfold pad4; rw [List.length_take, List.length_append, List.length_replicate]; omega
  refine List.ext_getElem? fun i => ?_
  rw [pad_get, paint_get]
  unfold ov
  have lt : ((pad4 l).take b).length = b := by rw [List.length_take, lp]; omega
  by_cases h1 : i < b
  · rw [if_pos (by omega), if_pos h1, List.getElem?_append_left (by omega), List.getElem?_take_of_lt h1, pad_get, if_pos (by omega)]
  · rw [List.getElem?_append_right (by omega), lt]
    by_cases h2 : i < b + sg.length
    · rw [if_pos (by omega), if_neg h1, if_pos h2, List.getElem?_append_left (by omega), List.getElem?_eq_getElem (by omega)]; rfl
    · rw [if_neg h1, if_neg h2, List.getElem?_append_right (by omega), List.getElem?_drop, show b + sg.length + (i - b - sg.length) = i by omega, pad_get]
def ovS (i : Nat) (u : List Nat) (s : Stk) : List Nat := if s.n = i then ov u s.b s.sg else u
def progF (ls : List (List Nat)) (dr : List Stk) : List (List Nat) := dr.foldl stepP ls
theorem prog_law : ∀ (dr : List Stk) (F : List (List Nat)), (∀ s ∈ dr, s.ok) → (∀ i, (lineAt F i).length ≤ 200) → ∀ i, (lineAt (progF F dr) i).length ≤ 200 ∧ pad4 (lineAt (progF F dr) i) = dr.foldl (ovS i) (pad4 (lineAt F i))
  | [], F, _, h, i => ⟨h i, rfl⟩
  | s :: dr, F, hs, h, i => by
    have ok := hs s (by simp)
    have h2 : ∀ i, (lineAt (stepP F s) i).length ≤ 200 := fun i => by
      rw [lineAt_step]
      split
      · exact paint_len (h _) ok.2.2.1
      · exact h i
    obtain ⟨a, b⟩ := prog_law dr (stepP F s) (fun t ht => hs t (by simp [ht])) h2 i
    refine ⟨a, b.trans ?_⟩
    rw [List.foldl_cons]
    congr 1
    rw [lineAt_step]
    unfold ovS
    split
    · rename_i e
      subst e
      exact pad_paint (h _) ok.2.2.1
    · rfl
/-- how many lines there are -/
theorem prog_len : ∀ (dr : List Stk) (F : List (List Nat)), (progF F dr).length = dr.foldl (fun m s => max m (s.n + 1)) F.length
  | [], F => rfl
  | s :: dr, F => by
    have := prog_len dr (stepP F s)
    rw [step_len] at this
    exact this
end Dl
namespace Dl
open PySem L2
def m_is_stroke : FV := funD 1 (d_is_stroke m_is_line m_is_number)
theorem okLine_sg {s : Stk} (h : s.ok) : okLine s.sg = true := by
  simp only [okLine, Bool.and_eq_true, decide_eq_true_eq, List.all_eq_true]
  exact ⟨by have := h.2.2.1; omega, h.2.2.2⟩
theorem is_stroke_ok {s : Stk} (h : s.ok) (st : Store) : m_is_stroke [s.enc] st = .ok (.bl true, st) := by
  unfold m_is_stroke funD d_is_stroke Stk.enc
  obtain ⟨h1, h2, h3, h4⟩ := h
  have hl := is_line_str s.sg (by omega) st
  rw [okLine_sg ⟨h1, h2, h3, h4⟩] at hl
  have i0 : ∀ a b c : D, ixG st (.tup [a, b, c]) (.int 2) = .ok (c, st) := fun a b c => by
    have : atI [a, b, c] 2 = some c := by
      have := atI_nat [a, b, c] 2
      rw [show ((2 : Nat) : Int) = 2 from rfl] at this
      rw [this]; rfl
    simp [ixG, this]
  have s1 : subG st (.int 30) (.int 1) = .ok (.int 29, st) := rfl
  have s2 : subG st (.int 200) (.int (s.sg.length : Int)) = .ok (.int (200 - s.sg.length), st) := rfl
  have c1 : (0 : Int) ≤ s.n ∧ (s.n : Int) ≤ 29 := by omega
  have c2 : (0 : Int) ≤ s.b ∧ (s.b : Int) ≤ 200 - s.sg.length := by omega
  have j0 : ∀ a b c : D, ixG st (.tup [a, b, c]) (.int 0) = .ok (a, st) := fun a b c => by simp [ixG]
  have j1 : ∀ a b c : D, ixG st (.tup [a, b, c]) (.int 1) = .ok (b, st) := fun a b c => by simp [ixG]
  simp [tyOf, subTy, len_t, i0, j0, j1, hl, h2, s1, s2, len_s, c1.1, c1.2, c2.1, c2.2]
end Dl
namespace Dl
open PySem L2
def m_painted : FV := funD 8 (d_painted m_need_lines m_is_stroke)
def drD (dr : List Stk) : List D := dr.map Stk.enc
@[simp] theorem drD_len (dr : List Stk) : (drD dr).length = dr.length := by simp [drD]
theorem rsE (st : Store) (t : List Nat) : rstripG st (.str t) [.str [32]] = .ok (.str (rcut isBk t), st) := rfl
theorem ext_snoc (F : List (List Nat)) (m : Nat) : F ++ List.replicate (m + 1) ([] : List Nat) = (F ++ List.replicate m []) ++ [[]] := by rw [List.replicate_succ', List.append_assoc]
def rsL (F : List (List Nat)) : List (List Nat) := F.map (rcut isBk)
end Dl
namespace Dl
open PySem L2
def chD (u : List Nat) : List D := u.map fun c => D.str [c]
@[simp] theorem chD_len (u : List Nat) : (chD u).length = u.length := by simp [chD]
theorem pad4_len (l : List Nat) : (pad4 l).length = 400 := by unfold pad4; rw [List.length_take, List.length_append, List.length_replicate]; omega
theorem ov_len {u : List Nat} {b : Nat} {sg : List Nat} (hu : u.length = 400) (h : b + sg.length ≤ 200) : (ov u b sg).length = 400 := by
  unfold ov; rw [List.length_append, List.length_append, List.length_take, List.length_drop]; omega
end Dl
namespace Dl
open PySem L2
end Dl
namespace Dl
open PySem L2
theorem prog_le {ls : List (List Nat)} (hl : ls.length ≤ 30) {dr : List Stk} (hd : ∀ s ∈ dr, s.ok) : (progF ls dr).length ≤ 30 := by
  rw [prog_len]
  have key : ∀ (l : List Stk) (m : Nat), m ≤ 30 → (∀ s ∈ l, s.ok) → l.foldl (fun m s => max m (s.n + 1)) m ≤ 30 := by
    intro l
    induction l with
    | nil => exact fun m h _ => h
    | cons s l ih =>
      intro m h hs
      have := (hs s (by simp)).1
      exact ih _ (by show max m (s.n + 1) ≤ 30; omega) fun t ht => hs t (by simp [ht])
  exact key _ _ hl hd
end Dl
namespace Dl
open PySem L2
@[simp high] theorem low0 : ((-1000000 : Int) ≤ 0) = True := eq_true (by decide)
@[simp high] theorem hi0 : ((0 : Int) ≤ 1000000) = True := eq_true (by decide)
section
variable (env : Env) (st : Store)
@[simp] theorem r_eMake (c n : Nat) (g : FV) (ga : AV) : eMake c n g ga env st = (ga env st).bind fun a => if a.1.length + 1 = n then (g (.ref a.2.length :: a.1) (a.2 ++ [.ins c []])).bind fun b => match b.1 with
  | .non => .ok (.ref a.2.length, b.2)
  | _ => .bad else .bad := rfl
@[simp] theorem r_eMeth (c : Nat) (m : Str) (n : Nat) (g : FV) (fo : EV) (ga : AV) : eMeth c m n g fo ga env st = (fo env st).bind fun o => match o.1 with
  | .ref i => match o.2[i]? with
    | some (.ins c' fs) => if c' = c ∧ fs.lookup m = none then (ga env o.2).bind fun a => if a.1.length + 1 = n then g (.ref i :: a.1) a.2 else .bad else .bad
    | _ => .bad
  | _ => .bad := rfl
@[simp] theorem r_sFldD (c : Nat) (f : Str) (fo fv : EV) : sFldD c f fo fv env st = sOf (fv env st) fun v => sOf (fo env v.2) fun o => match o.1 with
  | .ref i => match o.2[i]? with
    | some (.ins c' fs) => if c' = c ∧ fs.length < 900 then .nx env (o.2.set i (.ins c' (putD f v.1 fs))) else .bad
    | _ => .bad
  | _ => .bad := rfl
end
def stFs (s : Stt) (cells : List (List Nat)) : List (Str × D) := [("column", .int s.c), ("begin", .int s.b), ("end", .int s.e), ("cells", .lst (cells.map .str))]
def stOb (p : Page) (s : Stt) : Ob := .ins 12 (stFs s (cellsOf p s))
theorem st_col (s : Stt) (cells : List (List Nat)) : (stFs s cells).lookup ("column" : Str) = some (.int s.c) := by
  unfold stFs
  rw [List.lookup_cons, show (("column" : Str) == "column") = true by decide +kernel]
theorem st_beg (s : Stt) (cells : List (List Nat)) : (stFs s cells).lookup ("begin" : Str) = some (.int s.b) := by
  unfold stFs
  rw [List.lookup_cons, show (("begin" : Str) == "column") = false by decide +kernel, List.lookup_cons, show (("begin" : Str) == "begin") = true by decide +kernel]
theorem st_end (s : Stt) (cells : List (List Nat)) : (stFs s cells).lookup ("end" : Str) = some (.int s.e) := by
  unfold stFs
  rw [List.lookup_cons, show (("end" : Str) == "column") = false by decide +kernel, List.lookup_cons, show (("end" : Str) == "begin") = false by decide +kernel, List.lookup_cons, show (("end" : Str) == "end") = true by decide +kernel]
theorem st_cells (s : Stt) (cells : List (List Nat)) : (stFs s cells).lookup ("cells" : Str) = some (.lst (cells.map .str)) := by
  unfold stFs
  rw [List.lookup_cons, show (("cells" : Str) == "column") = false by decide +kernel, List.lookup_cons, show (("cells" : Str) == "begin") = false by decide +kernel, List.lookup_cons, show (("cells" : Str) == "end") = false by decide +kernel, List.lookup_cons, show (("cells" : Str) == "cells") = true by decide +kernel]
theorem st_no {m : Str} (s : Stt) (cells : List (List Nat)) (h1 : (m == "column") = false) (h2 : (m == "begin") = false) (h3 : (m == "end") = false) (h4 : (m == "cells") = false) : (stFs s cells).lookup m = none := by
  unfold stFs
  rw [List.lookup_cons, h1, List.lookup_cons, h2, List.lookup_cons, h3, List.lookup_cons, h4]; rfl
theorem st_width (s : Stt) (cells : List (List Nat)) : (stFs s cells).lookup ("width" : Str) = none := st_no s cells (by decide +kernel) (by decide +kernel) (by decide +kernel) (by decide +kernel)
theorem st_right (s : Stt) (cells : List (List Nat)) : (stFs s cells).lookup ("is_right" : Str) = none := st_no s cells (by decide +kernel) (by decide +kernel) (by decide +kernel) (by decide +kernel)
theorem put_st (a b c d : D) : putD "cells" d (putD "end" c (putD "begin" b (putD "column" a []))) = ([("column", a), ("begin", b), ("end", c), ("cells", d)] : List (Str × D)) := by
  simp only [putD, show ¬ (("column" : Str) = "begin") by decide +kernel, show ¬ (("column" : Str) = "end") by decide +kernel, show ¬ (("column" : Str) = "cells") by decide +kernel, show ¬ (("begin" : Str) = "end") by decide +kernel, show ¬ (("begin" : Str) = "cells") by decide +kernel, show ¬ (("end" : Str) = "cells") by decide +kernel, if_false]
theorem put_len (f : Str) (v : D) : ∀ l : List (Str × D), (putD f v l).length ≤ l.length + 1
  | [] => by simp [putD]
  | (g, u) :: r => by
    unfold putD
    split
    · simp
    · simp only [List.length_cons]; have := put_len f v r; omega
def m_Stretch_init : FV := funD 4 d_Stretch_init
theorem Stretch_init_ok (st : Store) (c b : Nat) (cells : List (List Nat)) : m_Stretch_init [.ref st.length, .int c, .int b, .lst (cells.map .str)] (st ++ [.ins 12 []]) = .ok (.non, st ++ [.ins 12 (stFs ⟨c, b, b + cells.length⟩ cells)]) := by
  unfold m_Stretch_init funD d_Stretch_init
  have l1 := put_len "column" (.int c) []
  have l2 := put_len "begin" (.int b) (putD "column" (.int c) [])
  have l3 := put_len "end" (.int (b + cells.length)) (putD "begin" (.int b) (putD "column" (.int c) []))
  have z : ([] : List (Str × D)).length = 0 := rfl
  rw [z] at l1
  have q1 : (putD "column" (D.int c) []).length < 900 := by omega
  have q2 : (putD "begin" (D.int b) (putD "column" (.int c) [])).length < 900 := by omega
  have q3 : (putD "end" (D.int (b + cells.length)) (putD "begin" (.int b) (putD "column" (.int c) []))).length < 900 := by omega
  clear l1 l2 l3 z
  have pe := put_st (.int c) (.int b) (.int (b + cells.length)) (.lst (cells.map .str))
  simp [addG, lenG, lstOf, q1, q2, q3, pe, stFs]
/-- the references from k on -/
def refs (k n : Nat) : List D := (List.range n).map fun i => .ref (k + i)
theorem refs_succ (k n : Nat) : refs k (n + 1) = refs k n ++ [.ref (k + n)] := by
  unfold refs; rw [List.range_succ, List.map_append]; rfl
@[simp] theorem refs_len (k n : Nat) : (refs k n).length = n := by simp [refs]
def m_stretches_of : FV := funD 9 (d_stretches_of m_Stretch_init)
theorem cellsOf_len (p : Page) (s : Stt) : (cellsOf p s).length = s.e - s.b := by simp [cellsOf]
theorem st_test {p : Page} {d : D} {w : List (Nat × List D)} {S : Store} (hd : listOf S d = some (encP p, w)) (c i : Nat) (a2 a4 a5 a7 a8 : Option D) :
    (eAnd (eOp ltG (eV 6) (eV 3)) (eOp gtG (eB lenG (aCons (eOp ixG (eV 0) (eV 6)) (aNil))) (eOp (addG false) (eV 1) (eC (.int 1)))))
      [some d, some (.int c), a2, some (.int p.length), a4, a5, some (.int i), a7, a8] S = .ok (.bl (clo p c i), S) := by
  by_cases hl : i < p.length
  · obtain ⟨r, hr⟩ : ∃ r, p[i]? = some r := ⟨p[i], by simp [hl]⟩
    have ei : atI (encP p) (i : Int) = some (encR r) := by rw [atI_nat]; simp [encP, hr]
    have hcl : decide ((c : Int) + 1 < (r.length : Int)) = clo p c i := by
      rw [clo_at hr]
      exact decide_eq_decide.mpr (by omega)
    simp [ltG, hl, ix_list hd, ei, addG, gtG]
    simp [encR, lenG, hcl]
  · rw [clo_out (by omega)]
    simp [ltG, hl]
theorem st_made {p : Page} (hp : okPage p = true) {d : D} {w : List (Nat × List D)} {S : Store} (hd : listOf S d = some (encP p, w)) (c b i L : Nat) (rs : List D) (hL : S[L]? = some (.lst rs)) (hrs : rs.length < 100) (hb : b < i) (hi : i ≤ p.length) (hcl : ∀ j, b ≤ j → j < i → clo p c j = true) (a2 a3 a7 a8 : Option D) :
    (sCons (sExpr (eMt "list" (appendG) (eV 4) (aCons (eMake 12 4 m_Stretch_init (aCons (eV 1) (aCons (eV 5) (aCons (eLc false (iR2 (aCons (eV 5) (aCons (eV 6) (aNil)))) [8] (.one 8) (tYesD) (eOp ixG (eOp ixG (eV 0) (eV 8)) (eV 1))) (aNil))))) (aNil)))) (sAsg (eC .non) (gN 5)))
      [some d, some (.int c), a2, a3, some (.ref L), some (.int b), some (.int i), a7, a8] S = .nx [some d, some (.int c), a2, a3, some (.ref L), some .non, some (.int i), a7, a8] ((S ++ [stOb p ⟨c, b, i⟩]).set L (.lst (rs ++ [.ref S.length]))) := by
  obtain ⟨p1, p2, p3⟩ := okPage_parts hp
  have tm : tyM S (.ref L) = some "list" := by simp [tyM, hL]
  have mb : (-1000000 ≤ (b : Int) ∧ (b : Int) ≤ 1000000) ∧ -1000000 ≤ (i : Int) ∧ (i : Int) ≤ 1000000 := by omega
  have hl : i - b ≤ LIM := le_LIM (by omega)
  have en : ((i : Int) - (b : Int)).toNat = i - b := by omega
  rw [r_sCons, r_sExpr]
  simp only [eMt, r_eV, List.getElem?_cons_succ, List.getElem?_cons_zero, R.bind_ok, tm, if_true, r_aCons, r_aNil, r_eMake, r_eLc, r_iR2, mb, and_self, en, lcS_ok, intsD_len, hl, wipe_cons, wipe_nil, List.set_cons_succ, List.set_cons_zero]
  generalize q : lcGo _ _ _ _ _ _ _ _ = r
  obtain ⟨acc, s, rfl, rfl, rfl⟩ := lc_at q (fun j acc st' => S = st' ∧ acc = ((List.range j).map fun k => cellAt p (b + k) c).map D.str) ⟨rfl, rfl⟩ (fun _ _ _ _ _ => rfl) (fun j x acc st' hj ⟨e1, e2⟩ => by
    subst e1 e2
    have hj' := (List.getElem?_eq_some_iff.mp hj).1
    rw [intsD_len] at hj'
    rw [ints_at _ _ _ hj'] at hj
    cases hj
    obtain ⟨r, hr, hc⟩ := clo_row (hcl (b + j) (by omega) (by omega))
    have ei : atI (encP p) ((b : Int) + (j : Int)) = some (encR r) := by
      rw [show (b : Int) + (j : Int) = ((b + j : Nat) : Int) by omega, atI_nat]; simp [encP, hr]
    have ec : atI (r.map D.str) (c : Int) = some (.str (cellAt p (b + j) c)) := by
      rw [atI_nat]
      simp [cellAt, hr, show c < r.length by omega]
    refine ⟨_, rfl, ?_⟩
    simp [ix_list hd, ei]
    simp [ixG, encR, ec, List.range_succ])
  have ini := Stretch_init_ok S c b ((List.range (i - b)).map fun k => cellAt p (b + k) c)
  have e1 : b + (i - b) = i := by omega
  rw [List.length_map, List.length_range, e1] at ini
  have eo : Ob.ins 12 (stFs ⟨c, b, i⟩ ((List.range (i - b)).map fun k => cellAt p (b + k) c)) = stOb p ⟨c, b, i⟩ := rfl
  rw [eo] at ini
  have hL' : (S ++ [stOb p ⟨c, b, i⟩])[L]? = some (.lst rs) := Stays.app _ _ _ _ hL
  have hrl : rs.length < LIM := lt_LIM (by omega)
  rw [intsD_len]
  simp only [R.bind_ok, r_newF, List.length_cons, List.length_nil, if_true, ini]
  simp [appendG, hL', hrl]
theorem stretches_of_ok {p : Page} (hp : okPage p = true) {d : D} {w : List (Nat × List D)} {st : Store} (hd : listOf st d = some (encP p, w)) (c : Nat) (hc : c < 5) :
    m_stretches_of [d, .int c, .int 0, .int p.length] st = .ok (.ref st.length, st ++ .lst (refs (st.length + 1) (sttsC p c).length) :: (sttsC p c).map (stOb p)) := by
  rw [m_stretches_of, funD, d_stretches_of]
  obtain ⟨p1, p2, p3⟩ := okPage_parts hp
  have m1 : -1000000 ≤ (p.length : Int) + 1 ∧ (p.length : Int) + 1 ≤ 1000000 := by omega
  have e1 : ((p.length : Int) + 1).toNat = p.length + 1 := by omega
  simp [addG, m1, e1]
  generalize q : forGo _ _ _ _ _ _ = r
  obtain ⟨e, s, rfl, Bs, first, a6, a7, a8, rfl, rfl, hI⟩ := for_at q (fun i env st' => ∃ (Bs : List Nat) (first a6 a7 a8 : Option D), st' = st ++ .lst (refs (st.length + 1) Bs.length) :: (Bs.map (sttOf p c)).map (stOb p) ∧
      env = [some d, some (.int c), some (.int 0), some (.int p.length), some (.ref st.length), first, a6, a7, a8] ∧
      ((first = some .non ∧ Bs = begs p c i ∧ (i = 0 ∨ clo p c (i - 1) = false)) ∨ ∃ b : Nat, first = some (.int (b : Int)) ∧ begs p c i = Bs ++ [b] ∧ b < i ∧ ∀ j, b ≤ j → j < i → clo p c j = true))
    ⟨[], _, _, _, _, by simp [refs], rfl, .inl ⟨rfl, rfl, .inl rfl⟩⟩ (fun _ _ _ _ _ => rfl) (fun i x env st' hi ⟨Bs, first, a6, a7, a8, e1, e2, hI⟩ => by
      subst e1 e2
      obtain ⟨hi, rfl⟩ := ints_get hi
      have hd' : listOf (st ++ .lst (refs (st.length + 1) Bs.length) :: (Bs.map (sttOf p c)).map (stOb p)) d = some (encP p, w) := listOf_stays (Stays.app _ _) hd
      simp only [r_gN, sOf_ok, r_sCons, List.set_cons_succ, List.set_cons_zero, r_sAsg]
      rw [st_test hd']
      have hBl : ∀ n, (begs p c n).length ≤ n := fun n => by
        unfold begs
        exact Nat.le_trans (List.length_filter_le _ _) (by simp)
      rcases hI with ⟨rfl, hB, h0⟩ | ⟨b, rfl, hB, hb, hcl⟩
      · cases hc : clo p c i with
        | true =>
          have hi : isB p c i = true := by
            rcases h0 with h0 | h0
            · subst h0; simp [isB, hc]
            · simp [isB, hc, h0]
          simp [isG]
          exact ⟨Bs, ⟨rfl, rfl⟩, i, rfl, by rw [begs_succ, hi, hB]; rfl, by omega, fun j h1 h2 => by rw [show j = i by omega]; exact hc⟩
        | false =>
          have hi : isB p c i = false := by simp [isB, hc]
          simp [isG]
          exact ⟨Bs, ⟨rfl, rfl⟩, by rw [begs_succ, hi, hB]; simp, hc⟩
      · cases hc : clo p c i with
        | true =>
          have hi : isB p c i = false := by
            have := hcl (i - 1) (by omega) (by omega)
            simp [isB, hc, this]
            omega
          simp [isG]
          refine ⟨Bs, ⟨rfl, rfl⟩, b, rfl, by rw [begs_succ, hi, hB]; simp, by omega, fun j h1 h2 => ?_⟩
          by_cases z : j = i
          · rw [z]; exact hc
          · exact hcl j h1 (by omega)
        | false =>
          have hi : isB p c i = false := by simp [isB, hc]
          have hlen := hBl i
          rw [hB] at hlen
          simp at hlen
          have made := st_made (S := st ++ .lst (refs (st.length + 1) Bs.length) :: (Bs.map (sttOf p c)).map (stOb p)) hp hd' c b i st.length (refs (st.length + 1) Bs.length) (by simp) (by simp; omega) hb (by omega) hcl (some (.int 0)) (some (.int p.length)) (some (.bl false)) a8
          have en : endOf p c b = i := endOf_eq (by omega) (by omega) hcl hc
          rw [sOf_ok, then_nx, r_sCons, r_sIf]
          simp only [r_tAndD, r_tNotD, r_tv, r_eV, r_eOp, r_eC, isG, List.getElem?_cons_succ, List.getElem?_cons_zero, R.bind_ok, ifS_ok, r_sNext, then_nx, r_sIf, if_true, Bool.false_eq_true, if_false, Bool.not_false, Bool.not_true]
          rw [made, turn_nx]
          refine ⟨Bs ++ [b], _, _, _, _, ?_, rfl, .inl ⟨rfl, by rw [begs_succ, hi, hB]; simp, .inr (by simpa using hc)⟩⟩
          have eL : (st ++ Ob.lst (refs (st.length + 1) Bs.length) :: List.map (stOb p) (List.map (sttOf p c) Bs)).length = st.length + 1 + Bs.length := by simp; omega
          rw [eL, ← refs_succ, List.append_assoc, List.set_append_right _ _ (Nat.le_refl _)]
          simp [sttOf, en])
  rw [intsD_len] at hI
  have last : begs p c (p.length + 1) = begs p c p.length := by
    rw [begs_succ, show isB p c p.length = false by simp [isB, clo_out (p := p) (c := c) (Nat.le_refl _)]]
    simp
  rcases hI with ⟨_, hB, _⟩ | ⟨b, _, _, hb, hcl⟩
  · rw [last] at hB
    subst hB
    simp [sttsC]
  · have := hcl p.length (by omega) (by omega)
    rw [clo_out (Nat.le_refl _)] at this
    cases this
end Dl
namespace Dl
open PySem L2
/-- d is the stretch s of p in the store -/
def IsSt (p : Page) (st : Store) (d : D) (s : Stt) : Prop := ∃ k : Nat, d = .ref k ∧ st[k]? = some (stOb p s)
theorem isSt_refs (p : Page) : ∀ (ss : List Stt) (k : Nat) (st : Store), (∀ i, i < ss.length → st[k + i]? = (ss.map (stOb p))[i]?) → All2 (IsSt p st) (refs k ss.length) ss
  | [], k, st, _ => trivial
  | s :: ss, k, st, h => by
    have e : refs k (s :: ss).length = .ref k :: refs (k + 1) ss.length := by
      unfold refs
      rw [List.length_cons, List.range_succ_eq_map, List.map_cons, List.map_map]
      congr 1
      refine List.map_congr_left fun a _ => ?_
      show D.ref (k + (a + 1)) = D.ref (k + 1 + a)
      congr 1; omega
    rw [e]
    refine ⟨⟨k, rfl, by have := h 0 (by simp); simpa using this⟩, isSt_refs p ss (k + 1) st fun i hi => ?_⟩
    have := h (i + 1) (by simp; omega)
    rw [show k + 1 + i = k + (i + 1) by omega, this]
    simp
theorem IsSt.stays {p : Page} {st st' : Store} (h : ∀ (k : Nat) (fs : List (Str × D)), st[k]? = some (.ins 12 fs) → st'[k]? = some (.ins 12 fs)) {d : D} {s : Stt} (x : IsSt p st d s) : IsSt p st' d s :=
  let ⟨k, a, b⟩ := x; ⟨k, a, h k _ b⟩
def m_all_stretches : FV := funD 3 (d_all_stretches m_stretches_of)
theorem sttsC_le (p : Page) (c : Nat) : (sttsC p c).length ≤ p.length := by
  unfold sttsC begs
  rw [List.length_map]
  exact Nat.le_trans (List.length_filter_le _ _) (by simp)
theorem flat_le (p : Page) : ∀ i, ((List.range i).flatMap (sttsC p)).length ≤ p.length * i
  | 0 => by simp
  | i + 1 => by
    have h1 := flat_le p i
    have h2 := sttsC_le p i
    rw [List.range_succ, List.flatMap_append, List.length_append, Nat.mul_succ]
    simp only [List.flatMap_cons, List.flatMap_nil, List.append_nil]
    omega
theorem all_stretches_ok {p : Page} (hp : okPage p = true) {d : D} {w : List (Nat × List D)} {st : Store} (hd : listOf st d = some (encP p, w)) :
    ∃ R more, m_all_stretches [d] st = .ok (.ref st.length, st ++ .lst R :: more) ∧ All2 (IsSt p (st ++ .lst R :: more)) R (stts p) := by
  rw [m_all_stretches, funD, d_all_stretches]
  obtain ⟨p1, p2, p3⟩ := okPage_parts hp
  simp [subG, show (5 : Int).toNat = 5 from rfl]
  generalize q : forGo _ _ _ _ _ _ = r
  obtain ⟨e, s, rfl, R, more, a2, rfl, rfl, hR⟩ := for_at q (fun i env st' => ∃ R more a2, st' = st ++ .lst R :: more ∧ env = [some d, some (.ref st.length), a2] ∧ All2 (IsSt p st') R ((List.range i).flatMap (sttsC p)))
    ⟨[], [], _, rfl, rfl, trivial⟩ (fun _ _ _ _ _ => rfl) (fun i x env st' hi ⟨R, more, a2, e1, e2, hR⟩ => by
      subst e1 e2
      obtain ⟨hi, rfl⟩ := ints_get hi
      have hd' : listOf (st ++ .lst R :: more) d = some (encP p, w) := listOf_stays (Stays.app _ _) hd
      have so := stretches_of_ok hp hd' i (by omega)
      have ln := len_list hd'
      simp only [encP_len] at ln
      have Rl : R.length ≤ 30 * i := by
        rw [hR.len]
        exact Nat.le_trans (flat_le p i) (Nat.mul_le_mul_right _ p2)
      have lm : R.length + (sttsC p i).length ≤ LIM := le_LIM (by have := sttsC_le p i; omega)
      have t1 : (st ++ .lst R :: more ++ .lst (refs ((st ++ .lst R :: more).length + 1) (sttsC p i).length) :: (sttsC p i).map (stOb p))[st.length]? = some (.lst R) := by simp
      have t2 : lstOf (st ++ .lst R :: more ++ .lst (refs ((st ++ .lst R :: more).length + 1) (sttsC p i).length) :: (sttsC p i).map (stOb p)) (.ref (st ++ .lst R :: more).length) = some (refs ((st ++ .lst R :: more).length + 1) (sttsC p i).length) := by simp [lstOf]
      have t3 : (st ++ .lst R :: more ++ .lst (refs ((st ++ .lst R :: more).length + 1) (sttsC p i).length) :: (sttsC p i).map (stOb p)).set st.length (.lst (R ++ refs ((st ++ .lst R :: more).length + 1) (sttsC p i).length)) = st ++ .lst (R ++ refs ((st ++ .lst R :: more).length + 1) (sttsC p i).length) :: (more ++ .lst (refs ((st ++ .lst R :: more).length + 1) (sttsC p i).length) :: (sttsC p i).map (stOb p)) := by simp
      have tm : tyM (st ++ .lst R :: more) (.ref st.length) = some "list" := by simp [tyM]
      have ex : extendG (st ++ .lst R :: more ++ .lst (refs ((st ++ .lst R :: more).length + 1) (sttsC p i).length) :: (sttsC p i).map (stOb p)) (.ref st.length) [.ref (st ++ .lst R :: more).length] = .ok (.non, st ++ .lst (R ++ refs ((st ++ .lst R :: more).length + 1) (sttsC p i).length) :: (more ++ .lst (refs ((st ++ .lst R :: more).length + 1) (sttsC p i).length) :: (sttsC p i).map (stOb p))) := by
        unfold extendG
        simp only [t1, t2, refs_len, lm, if_true, t3]
      have nx : All2 (IsSt p (st ++ .lst (R ++ refs ((st ++ .lst R :: more).length + 1) (sttsC p i).length) :: (more ++ .lst (refs ((st ++ .lst R :: more).length + 1) (sttsC p i).length) :: (sttsC p i).map (stOb p)))) (R ++ refs ((st ++ .lst R :: more).length + 1) (sttsC p i).length) ((List.range (i + 1)).flatMap (sttsC p)) := by
        have h1 : All2 (IsSt p (st ++ .lst (R ++ refs ((st ++ .lst R :: more).length + 1) (sttsC p i).length) :: (more ++ .lst (refs ((st ++ .lst R :: more).length + 1) (sttsC p i).length) :: (sttsC p i).map (stOb p)))) R ((List.range i).flatMap (sttsC p)) := by
          refine hR.imp fun a b x => x.stays fun k fs e => ?_
          rw [← t3, List.getElem?_set_ne (by intro z; rw [← z] at e; simp at e)]
          rw [List.getElem?_append_left (List.getElem?_eq_some_iff.mp e).1]; exact e
        have h2 : All2 (IsSt p (st ++ .lst (R ++ refs ((st ++ .lst R :: more).length + 1) (sttsC p i).length) :: (more ++ .lst (refs ((st ++ .lst R :: more).length + 1) (sttsC p i).length) :: (sttsC p i).map (stOb p)))) (refs ((st ++ .lst R :: more).length + 1) (sttsC p i).length) (sttsC p i) := by
          refine isSt_refs p _ _ _ fun j hj => ?_
          rw [← t3, List.getElem?_set_ne (by simp; omega), List.getElem?_append_right (by omega), show (st ++ .lst R :: more).length + 1 + j - (st ++ .lst R :: more).length = j + 1 by omega]
          rfl
        rw [List.range_succ, List.flatMap_append]
        simp only [List.flatMap_cons, List.flatMap_nil, List.append_nil]
        exact All2.app h1 h2
      generalize st ++ .lst R :: more = S at so ln tm ex nx
      simp [so, ln, tm, ex]
      exact nx)
  rw [intsD_len] at hR
  simp
  exact ⟨R, more, ⟨rfl, rfl⟩, hR⟩
end Dl
namespace Dl
open PySem L2
/-- the longest cell -/
def most (ss : List (List Nat)) : Int := maxL (ss.map fun s => (s.length : Int))
def wid (y : Sty) (ss : List (List Nat)) : Int := max y.l (most ss + y.g)
def right (ss : List (List Nat)) : Bool := decide (ss.filter (fun s => decide (s ≠ [])) ≠ []) && (ss.filter fun s => decide (s ≠ [])).all figs
/-- a stretch's object in the store -/
def StAt (p : Page) (st : Store) (k : Nat) (s : Stt) : Prop := st[k]? = some (stOb p s)
theorem fld_cells {p : Page} {st : Store} {k : Nat} {s : Stt} (h : StAt p st k s) (env : Env) (i : Nat) (hi : env[i]? = some (some (.ref k))) : eFld 12 "cells" (eV i) env st = .ok (.lst ((cellsOf p s).map .str), st) := by
  unfold StAt stOb at h
  simp only [eFld, r_eV, hi, R.bind_ok, h, if_true, st_cells]
theorem fld_begin {p : Page} {st : Store} {k : Nat} {s : Stt} (h : StAt p st k s) (env : Env) (i : Nat) (hi : env[i]? = some (some (.ref k))) : eFld 12 "begin" (eV i) env st = .ok (.int s.b, st) := by
  unfold StAt stOb at h
  simp only [eFld, r_eV, hi, R.bind_ok, h, if_true, st_beg]
theorem fld_end {p : Page} {st : Store} {k : Nat} {s : Stt} (h : StAt p st k s) (env : Env) (i : Nat) (hi : env[i]? = some (some (.ref k))) : eFld 12 "end" (eV i) env st = .ok (.int s.e, st) := by
  unfold StAt stOb at h
  simp only [eFld, r_eV, hi, R.bind_ok, h, if_true, st_end]
theorem fld_column {p : Page} {st : Store} {k : Nat} {s : Stt} (h : StAt p st k s) (env : Env) (i : Nat) (hi : env[i]? = some (some (.ref k))) : eFld 12 "column" (eV i) env st = .ok (.int s.c, st) := by
  unfold StAt stOb at h
  simp only [eFld, r_eV, hi, R.bind_ok, h, if_true, st_col]
theorem cells_fit {p : Page} {s : Stt} (hp : okPage p = true) (hs : s.Of p) : (cellsOf p s).length ≤ 30 ∧ cellsOf p s ≠ [] ∧ ∀ c ∈ cellsOf p s, okCell c = true := by
  obtain ⟨p1, p2, p3⟩ := okPage_parts hp
  have h1 := hs.lt
  have h2 := hs.le
  refine ⟨by rw [cellsOf_len]; omega, fun z => by have := cellsOf_len p s; rw [z] at this; simp at this; omega, fun c hc => ?_⟩
  obtain ⟨k, hk, rfl⟩ := List.mem_map.mp hc
  rw [List.mem_range] at hk
  obtain ⟨r, hr, hl⟩ := clo_row (hs.clo (s.b + k) (by omega) (by omega))
  have hrow := okRow_parts (p3 r (List.mem_of_getElem? hr))
  have e : cellAt p (s.b + k) s.c = r[s.c] := by
    simp [cellAt, hr, show s.c < r.length by omega]
  rw [e]
  exact hrow.2.2 _ (by simp)
/-- the lengths of the cells, by a comprehension -/
theorem lens_ok (ss : List (List Nat)) (env : Env) (j : Nat) (hj : j < env.length) (st : Store) : lcGo [] (.one j) tYesD (eB lenG (aCons (eV j) (aNil))) env (ss.map D.str) [] st = .ok ((ss.map fun s => (s.length : Int)).map D.int, st) := by
  rw [lc_map rfl (fun d => match d with | .str s => .int s.length | _ => .non) _ fun d hd => ?_]
  · rw [List.map_map, List.map_map]; rfl
  · obtain ⟨s, _, rfl⟩ := List.mem_map.mp hd
    exact ⟨_, rfl, by simp [hj, lenG]⟩
@[simp] theorem maxG2 (a b : Int) (st : Store) : maxG st [.int a, .int b] = .ok (.int (max a b), st) := (rfl)
@[simp] theorem minG2 (a b : Int) (st : Store) : minG st [.int a, .int b] = .ok (.int (min a b), st) := (rfl)
theorem most_ok (ss : List (List Nat)) (h : ss ≠ []) (st : Store) : maxG st [.lst (ss.map (D.int ∘ fun s => (s.length : Int)))] = .ok (.int (most ss), st) := by
  rw [← List.map_map]
  have ne : ss.map (fun s => (s.length : Int)) ≠ [] := by simpa using h
  unfold maxG
  simp only [lstOf, Option.bind_some, intsOf_map, if_pos ne, most]
def m_Stretch_width : FV := funD 3 d_Stretch_width
theorem width_ok {p : Page} (hp : okPage p = true) {s : Stt} (hs : s.Of p) {st : Store} {k : Nat} (h : StAt p st k s) (y : Sty) : m_Stretch_width [.ref k, y.enc] st = .ok (.int (wid y (cellsOf p s)), st) := by
  rw [m_Stretch_width, funD, d_Stretch_width]
  obtain ⟨c1, c2, c3⟩ := cells_fit hp hs
  have f := fld_cells h [some (.ref k), some (.tup [.int y.g, .int y.l]), none] 0 rfl
  have hl : (cellsOf p s).length ≤ LIM := le_LIM (by omega)
  have ln := lens_ok (cellsOf p s) [some (.ref k), some (.tup [.int y.g, .int y.l]), none] 2 (by simp) st
  have ne : (cellsOf p s).map (fun s => (s.length : Int)) ≠ [] := by simpa using c2
  simp [f, itemsOf, hl, ln, Sty.enc, ixG, -r_eFld, most_ok _ c2, addG, wid]
def m_Stretch_is_right : FV := funD 3 (d_Stretch_is_right m_is_figures)
theorem is_right_ok {p : Page} (hp : okPage p = true) {s : Stt} (hs : s.Of p) {st : Store} {k : Nat} (h : StAt p st k s) : m_Stretch_is_right [.ref k] st = .ok (.bl (right (cellsOf p s)), st) := by
  rw [m_Stretch_is_right, funD, d_Stretch_is_right]
  obtain ⟨c1, c2, c3⟩ := cells_fit hp hs
  have f := fld_cells h [some (.ref k), none, none] 0 rfl
  have hl : (cellsOf p s).length ≤ LIM := le_LIM (by omega)
  generalize cellsOf p s = ss at f hl c3 ⊢
  have l1 : lcGo [] (.one 2) (tv (eOp (eqG true) (eV 2) (eC (.str [])))) (eV 2) [some (.ref k), none, none] (ss.map D.str) [] st = .ok ((ss.filter fun s => decide (s ≠ [])).map D.str, st) := by
    rw [lc_keep rfl (fun d => match d with | .str c => decide (c ≠ []) | _ => true) _ (fun d hd => ?_) (by simp)]
    · rw [List.filter_map]; rfl
    · obtain ⟨c, _, rfl⟩ := List.mem_map.mp hd
      simp
  have hl2 : (ss.filter fun s => decide (s ≠ [])).length ≤ LIM := Nat.le_trans (List.length_filter_le _ _) hl
  have l2 : lcGo [] (.one 2) (tNotD (tv (eCall 1 m_is_figures (aCons (eV 2) (aNil))))) (eV 2) [some (.ref k), some (.lst ((ss.filter fun s => decide (s ≠ [])).map D.str)), none] ((ss.filter fun s => decide (s ≠ [])).map D.str) [] st = .ok (((ss.filter fun s => decide (s ≠ [])).filter fun s => !figs s).map D.str, st) := by
    rw [lc_keep rfl (fun d => match d with | .str c => !figs c | _ => true) _ (fun d hd => ?_) (by simp)]
    · rw [List.filter_map]; rfl
    · obtain ⟨c, hc, rfl⟩ := List.mem_map.mp hd
      have := (okCell_parts (c3 c (List.mem_filter.mp hc).1)).1
      simp [is_figures_str c (by omega)]
  unfold right
  generalize (ss.filter fun s => decide (s ≠ [])) = full at l1 l2 hl2 ⊢
  have e1 : eqG true st (.lst (full.map D.str)) (.lst []) = .ok (.bl (decide (full ≠ [])), st) := by
    rw [eqG_pl (by simp) rfl (by have := dps_strs full; simp; omega) (by simp)]
    simp
  have e2 : ∀ l : List (List Nat), eqG false st (.lst (l.map D.str)) (.lst []) = .ok (.bl (decide (l = [])), st) := fun l => by
    rw [eq_nilD (pls_strs _) (Nat.le_trans (dps_strs _) (by decide))]
    simp
  by_cases hf : full = []
  · subst hf
    have e0 : eqG true st (.lst []) (.lst []) = .ok (.bl false, st) := by simpa using e1
    simp [f, itemsOf, hl, l1, -r_eFld, e0]
  · simp [f, itemsOf, hl, l1, -r_eFld, e1, hf, hl2, l2, e2]
    rw [Bool.eq_iff_iff]
    simp [List.filter_eq_nil_iff]
end Dl
namespace Dl
open PySem L2
theorem turn_eq {r : SR} {e : Env} {s : Store} {J : Env → Store → Prop} (h : r = .nx e s) (k : J e s) : r.turn J := by rw [h]; exact k
end Dl
namespace Dl
open PySem L2
def begOf (p : Page) (c : Nat) : Nat → Nat
  | 0 => 0
  | k + 1 => if clo p c k = true then begOf p c k else k + 1
theorem begOf_le (p : Page) (c : Nat) : ∀ k, begOf p c k ≤ k
  | 0 => Nat.le_refl _
  | k + 1 => by
    unfold begOf
    split
    · exact Nat.le_succ_of_le (begOf_le p c k)
    · exact Nat.le_refl _
theorem begOf_self {p : Page} {c k : Nat} : begOf p c k = k ↔ (k = 0 ∨ clo p c (k - 1) = false) := by
  cases k with
  | zero => simp [begOf]
  | succ k =>
    unfold begOf
    cases h : clo p c k with
    | true =>
      have := begOf_le p c k
      simp [h]
      omega
    | false => simp [h]
@[simp] theorem lenR (r : Row) (st : Store) : lenG st [encR r] = .ok (.int r.length, st) := by simp [lenG, encR]
@[simp] theorem sty0 (y : Sty) (st : Store) : ixG st y.enc (.int 0) = .ok (.int y.g, st) := by simp [Sty.enc, ixG]
@[simp] theorem sty1 (y : Sty) (st : Store) : ixG st y.enc (.int 1) = .ok (.int y.l, st) := by simp [Sty.enc, ixG]
@[simp] theorem lenS (s : List Nat) (st : Store) : lenG st [.str s] = .ok (.int s.length, st) := (rfl)
theorem run_all {p : Page} {c k : Nat} (hk : clo p c k = true) : ∀ j, begOf p c k ≤ j → j < endOf p c (k + 1) → clo p c j = true := by
  have hlt : k < p.length := by
    obtain ⟨r, hr, _⟩ := clo_row hk
    exact (List.getElem?_eq_some_iff.mp hr).1
  have eo := endOf_ok (p := p) (c := c) (k := k + 1) (by omega)
  have low : ∀ n, n ≤ k → ∀ j, begOf p c n ≤ j → j < n → clo p c j = true := by
    intro n
    induction n with
    | zero => intro _ j _ h; omega
    | succ n ih =>
      intro hn j h1 h2
      unfold begOf at h1
      cases hc : clo p c n with
      | true =>
        rw [if_pos hc] at h1
        by_cases z : j = n
        · rw [z]; exact hc
        · exact ih (by omega) j h1 (by omega)
      | false =>
        rw [if_neg (by simp [hc])] at h1
        omega
  intro j h1 h2
  by_cases z : j < k
  · exact low k (Nat.le_refl _) j h1 z
  · by_cases z2 : j = k
    · rw [z2]; exact hk
    · exact eo.2.2.1 j (by omega) h2
end Dl
namespace Dl
open PySem L2
@[simp] theorem ix_tup (ds : List D) (i : Int) (st : Store) : ixG st (.tup ds) (.int i) = R.of ((atI ds i).map fun x => (x, st)) := (rfl)
@[simp] theorem ix_lst (ds : List D) (i : Int) (st : Store) : ixG st (.lst ds) (.int i) = R.of ((atI ds i).map fun x => (x, st)) := (rfl)
@[simp] theorem ix_str (s : List Nat) (i : Int) (st : Store) : ixG st (.str s) (.int i) = R.of ((atI s i).map fun c => (.str [c], st)) := (rfl)
end Dl
namespace Dl
open PySem L2
theorem stts_le {p : Page} (hp : okPage p = true) : (stts p).length ≤ 150 := Nat.le_trans (flat_le p 5) (by have := (okPage_parts hp).2.1; omega)
end Dl
namespace Dl
open PySem L2
/-- stops_by: 10 slots, 3 parameters -/
def d_stops_by (m_Stretch_width : FV) : SV := sCons (sAsg (eDictT) (gN 3)) (sCons (sFor (iSeq (eV 2)) (gN 4) (sFor (iR2 (aCons (eFld 12 "begin" (eV 4)) (aCons (eFld 12 "end" (eV 4)) (aNil)))) (gN 5) (sAsg (eMeth 12 "width" 2 m_Stretch_width (eV 4) (aCons (eV 1) (aNil))) (gSb (eV 3) (eTup (aCons (eV 5) (aCons (eFld 12 "column" (eV 4)) (aNil)))) dsetG)))) (sCons (sAsg (eLst true (aNil)) (gN 6)) (sCons (sFor (iEn (aCons (eV 0) (aNil))) (gTp 2 (gsCons (gN 5) (gsCons (gN 7) (gsNil)))) (sCons (sAsg (eLst true (aCons (eC (.int 0)) (aNil))) (gN 8)) (sCons (sFor (iR1 (aCons (eOp subG (eB lenG (aCons (eV 7) (aNil))) (eC (.int 1))) (aNil))) (gN 9) (sExpr (eMt "list" (appendG) (eV 8) (aCons (eOp (addG false) (eOp ixG (eV 8) (eNeg (eC (.int 1)))) (eOp dgetG (eV 3) (eTup (aCons (eV 5) (aCons (eV 9) (aNil)))))) (aNil))))) (sExpr (eMt "list" (appendG) (eV 6) (aCons (eV 8) (aNil))))))) (sRet (eV 6)))))
/-- begins_by: 7 slots, 3 parameters -/
def d_begins_by (m_stops_by : FV) (m_Stretch_is_right : FV) (m_Stretch_width : FV) : SV := sCons (sAsg (eCall 3 m_stops_by (aCons (eV 0) (aCons (eV 1) (aCons (eV 2) (aNil))))) (gN 3)) (sCons (sFor (iSeq (eV 2)) (gN 4) (sIf (tv (eMeth 12 "is_right" 1 m_Stretch_is_right (eV 4) aNil)) (sFor (iR1 (aCons (eB lenG (aCons (eFld 12 "cells" (eV 4)) (aNil))) (aNil))) (gN 5) (sCons (sAsg (eOp ixG (eV 3) (eOp (addG false) (eFld 12 "begin" (eV 4)) (eV 5))) (gN 6)) (sAsg (eOp subG (eOp subG (eOp (addG false) (eOp ixG (eV 6) (eFld 12 "column" (eV 4))) (eMeth 12 "width" 2 m_Stretch_width (eV 4) (aCons (eV 1) (aNil)))) (eOp ixG (eV 1) (eC (.int 0)))) (eB lenG (aCons (eOp ixG (eFld 12 "cells" (eV 4)) (eV 5)) (aNil)))) (gSb (eV 6) (eFld 12 "column" (eV 4)) setLG)))) (sNext))) (sRet (eV 3)))
/-- laid: 2 slots, 2 parameters -/
def d_laid (m_need_page : FV) (m_need_style : FV) (m_begins_by : FV) (m_all_stretches : FV) : SV := sCons (sExpr (eCall 1 m_need_page (aCons (eV 0) (aNil)))) (sCons (sExpr (eCall 1 m_need_style (aCons (eV 1) (aNil)))) (sRet (eCall 3 m_begins_by (aCons (eV 0) (aCons (eV 1) (aCons (eCall 1 m_all_stretches (aCons (eV 0) (aNil))) (aNil)))))))
end Dl
namespace Dl
open PySem L2
theorem begOf_eq {p : Page} {c b : Nat} (hb : isB p c b = true) : ∀ k, b ≤ k → (∀ j, b ≤ j → j ≤ k → clo p c j = true) → begOf p c k = b
  | 0, h, _ => by
    have : b = 0 := by omega
    subst this; rfl
  | k + 1, h, hc => by
    by_cases z : b = k + 1
    · subst z
      rw [begOf_self]
      simp only [isB, Bool.and_eq_true, Bool.or_eq_true, Bool.not_eq_true', beq_iff_eq] at hb
      exact hb.2
    · unfold begOf
      rw [if_pos (hc k (by omega) (by omega))]
      exact begOf_eq hb k (by omega) fun j h1 h2 => hc j h1 (by omega)
def sttAt (p : Page) (k c : Nat) : Stt := sttOf p c (begOf p c k)
/-- the cell k, c lies in the stretch s -/
def Covers (s : Stt) (k c : Nat) : Prop := s.c = c ∧ s.b ≤ k ∧ k < s.e
instance (s : Stt) (k c : Nat) : Decidable (Covers s k c) := by unfold Covers; exact inferInstance
theorem stts_form {p : Page} {s : Stt} (h : s ∈ stts p) : s = sttOf p s.c s.b := by
  unfold stts at h
  rw [List.mem_flatMap] at h
  obtain ⟨c, hc, h⟩ := h
  obtain ⟨b, hb, rfl⟩ := List.mem_map.mp h
  rfl
theorem covers_at {p : Page} {s : Stt} (h : s ∈ stts p) {k c : Nat} (hk : Covers s k c) : s = sttAt p k c := by
  have so := stts_mem h
  obtain ⟨rfl, h1, h2⟩ := hk
  unfold sttAt
  rw [begOf_eq so.beg k h1 fun j a b => so.clo j a (by omega)]
  exact stts_form h
theorem begOf_isB {p : Page} {c : Nat} : ∀ k, clo p c k = true → isB p c (begOf p c k) = true
  | 0, h => by
    show isB p c 0 = true
    simp [isB, h]
  | k + 1, h => by
    unfold begOf
    by_cases hc : clo p c k = true
    · rw [if_pos hc]; exact begOf_isB k hc
    · rw [if_neg hc]
      simp [isB, h, hc]
theorem endOf_run {p : Page} {c k : Nat} (hk : clo p c k = true) : endOf p c (begOf p c k) = endOf p c (k + 1) := by
  have hlt : k < p.length := by
    obtain ⟨r, hr, _⟩ := clo_row hk
    exact (List.getElem?_eq_some_iff.mp hr).1
  have eo := endOf_ok (p := p) (c := c) (k := k + 1) (by omega)
  have bl := begOf_le p c k
  exact endOf_eq (by omega) eo.2.1 (run_all hk) eo.2.2.2
theorem sttAt_mem {p : Page} {k c : Nat} (hc : c < 5) (hk : clo p c k = true) : sttAt p k c ∈ stts p ∧ Covers (sttAt p k c) k c := by
  have hlt : k < p.length := by
    obtain ⟨r, hr, _⟩ := clo_row hk
    exact (List.getElem?_eq_some_iff.mp hr).1
  have eo := endOf_ok (p := p) (c := c) (k := k + 1) (by omega)
  have bl := begOf_le p c k
  refine ⟨?_, rfl, bl, ?_⟩
  · unfold stts
    rw [List.mem_flatMap]
    refine ⟨c, List.mem_range.mpr hc, List.mem_map.mpr ⟨begOf p c k, ?_, rfl⟩⟩
    unfold begs
    rw [List.mem_filter, List.mem_range]
    exact ⟨by omega, begOf_isB k hk⟩
  · show k < endOf p c (begOf p c k)
    rw [endOf_run hk]; omega
def wAt (p : Page) (y : Sty) (k c : Nat) : Int := wid y (cellsOf p (sttAt p k c))
def sumW (p : Page) (y : Sty) (k : Nat) : Nat → Int
  | 0 => 0
  | c + 1 => sumW p y k c + wAt p y k c
def leftsN (p : Page) (y : Sty) (k n : Nat) : List Int := (List.range n).map (sumW p y k)
theorem leftsN_succ (p : Page) (y : Sty) (k n : Nat) : leftsN p y k (n + 1) = leftsN p y k n ++ [sumW p y k n] := by
  unfold leftsN
  rw [List.range_succ, List.map_append]; rfl
@[simp] theorem leftsN_len (p : Page) (y : Sty) (k n : Nat) : (leftsN p y k n).length = n := by simp [leftsN]
def cellsIn (p : Page) (k : Nat) : Nat := (p.getD k []).length
def rightAt (p : Page) (k c : Nat) : Bool := clo p c k && right (cellsOf p (sttAt p k c))
def bAt (p : Page) (y : Sty) (k c : Nat) : Int := if rightAt p k c = true then sumW p y k (c + 1) - y.g - (cellAt p k c).length else sumW p y k c
def rowI (p : Page) (f : Nat → Nat → Int) (k : Nat) : List D := ((List.range (cellsIn p k)).map (f k)).map .int
def gridS (p : Page) (f : Nat → Nat → Int) : Store := (List.range p.length).map fun k => .lst (rowI p f k)
@[simp] theorem rowI_len (p : Page) (f : Nat → Nat → Int) (k : Nat) : (rowI p f k).length = cellsIn p k := by simp [rowI]
@[simp] theorem gridS_len (p : Page) (f : Nat → Nat → Int) : (gridS p f).length = p.length := by simp [gridS]
theorem rowI_at {p : Page} (f : Nat → Nat → Int) {k c : Nat} (h : c < cellsIn p k) : (rowI p f k)[c]? = some (.int (f k c)) := by simp [rowI, h]
theorem gridS_at {p : Page} (f : Nat → Nat → Int) {k : Nat} (h : k < p.length) : (gridS p f)[k]? = some (.lst (rowI p f k)) := by simp [gridS, h]
theorem rowI_congr {p : Page} {f g : Nat → Nat → Int} {k : Nat} (h : ∀ c, c < cellsIn p k → f k c = g k c) : rowI p f k = rowI p g k := by
  unfold rowI
  refine congrArg (List.map D.int) (List.map_congr_left fun c hc => h c ?_)
  exact List.mem_range.mp hc
theorem gridS_congr {p : Page} {f g : Nat → Nat → Int} (h : ∀ k c, k < p.length → c < cellsIn p k → f k c = g k c) : gridS p f = gridS p g := by
  unfold gridS
  refine List.map_congr_left fun k hk => ?_
  rw [rowI_congr fun c hc => h k c (List.mem_range.mp hk) hc]
theorem gridS_set {p : Page} (f : Nat → Nat → Int) {k c : Nat} (hk : k < p.length) (hc : c < cellsIn p k) (v : Int) :
    (gridS p f).set k (.lst ((rowI p f k).set c (.int v))) = gridS p fun k' c' => if k' = k ∧ c' = c then v else f k' c' := by
  refine List.ext_getElem? fun j => ?_
  by_cases hj : j < p.length
  · rw [gridS_at _ hj]
    by_cases z : k = j
    · subst z
      rw [List.getElem?_set_self (by simpa using hk)]
      refine congrArg (fun l => some (Ob.lst l)) (List.ext_getElem? fun i => ?_)
      by_cases hi : i < cellsIn p k
      · rw [rowI_at _ hi]
        by_cases q : c = i
        · subst q
          rw [List.getElem?_set_self (by simpa using hc)]
          simp
        · rw [List.getElem?_set_ne q, rowI_at _ hi]
          simp [Ne.symm q]
      · rw [List.getElem?_eq_none (by simp; omega), List.getElem?_eq_none (by simp; omega)]
    · rw [List.getElem?_set_ne z, gridS_at _ hj, rowI_congr fun c' _ => ?_]
      simp [Ne.symm z]
  · rw [List.getElem?_eq_none (by simp; omega), List.getElem?_eq_none (by simp; omega)]
theorem cellsIn_row {p : Page} {k : Nat} {r : Row} (h : p[k]? = some r) : cellsIn p k = r.length := by
  unfold cellsIn
  rw [List.getD_eq_getElem?_getD, h]; rfl
theorem cellsIn_le {p : Page} (hp : okPage p = true) {k : Nat} (hk : k < p.length) : 1 ≤ cellsIn p k ∧ cellsIn p k ≤ 6 := by
  obtain ⟨p1, p2, p3⟩ := okPage_parts hp
  have hr : p[k]? = some p[k] := by simp [hk]
  rw [cellsIn_row hr]
  obtain ⟨r1, r2, r3⟩ := okRow_parts (p3 _ (List.mem_of_getElem? hr))
  exact ⟨r1, r2⟩
theorem clo_cells {p : Page} {k c : Nat} (hk : k < p.length) : clo p c k = decide (c + 1 < cellsIn p k) := by
  have hr : p[k]? = some p[k] := by simp [hk]
  rw [clo_at hr, cellsIn_row hr]
end Dl
namespace Dl
open PySem L2
theorem ints_getL {lo : Int} {n j : Nat} {x : D} (h : (intsD lo n)[j]? = some x) : j < n ∧ x = .int (lo + (j : Int)) := by
  have hl := (List.getElem?_eq_some_iff.mp h).1
  rw [intsD_len] at hl
  rw [ints_at lo n j hl] at h
  cases h
  exact ⟨hl, rfl⟩
def m_stops_by : FV := funD 10 (d_stops_by m_Stretch_width)
def kkc (k c : Nat) : List L2.Key := [Sum.inl (k : Int), Sum.inl (c : Int)]
theorem kkc_inj {k c k' c' : Nat} : kkc k c = kkc k' c' ↔ k = k' ∧ c = c' := by
  unfold kkc
  simp only [List.cons.injEq, Sum.inl.injEq, and_true]
  omega
/-- what the widths tell -/
def Told (p : Page) (y : Sty) (kvs : List (List L2.Key × D)) (k c : Nat) : Prop := valK kvs (kkc k c) = some (.int (wAt p y k c))
theorem told_put {p : Page} {y : Sty} {kvs : List (List L2.Key × D)} {k c k' c' : Nat} (h : Told p y kvs k c ∨ (k = k' ∧ c = c')) : Told p y (putKD kvs (kkc k' c') (.int (wAt p y k' c'))) k c := by
  unfold Told
  rw [valK_put]
  by_cases z : kkc k c = kkc k' c'
  · rw [if_pos z]
    obtain ⟨rfl, rfl⟩ := kkc_inj.mp z
    rfl
  · rw [if_neg z]
    rcases h with h | h
    · exact h
    · exact absurd (kkc_inj.mpr h) z
theorem stAt_app {p : Page} {st more : Store} {k : Nat} {s : Stt} (h : StAt p st k s) : StAt p (st ++ more) k s := by
  unfold StAt at h ⊢
  rw [List.getElem?_append_left (List.getElem?_eq_some_iff.mp h).1]; exact h
theorem get_app {st more : Store} {n : Nat} {o : Ob} (h : st[n]? = some o) : (st ++ more)[n]? = some o := by
  rw [List.getElem?_append_left (List.getElem?_eq_some_iff.mp h).1]; exact h
theorem stops_by_ok {p : Page} (hp : okPage p = true) (y : Sty) {d : D} {w : List (Nat × List D)} {st : Store} (hd : listOf st d = some (encP p, w)) {n : Nat} {RR : List D} (hn : st[n]? = some (.lst RR)) (hR : All2 (IsSt p st) RR (stts p)) :
    ∃ kvs, m_stops_by [d, y.enc, .ref n] st = .ok (.ref (st.length + 1), st ++ .dT kvs :: .lst (refs (st.length + 2) p.length) :: gridS p (sumW p y)) := by
  rw [m_stops_by, funD, d_stops_by]
  obtain ⟨p1, p2, p3⟩ := okPage_parts hp
  have hit : itemsOf (st ++ [Ob.dT []]) (.ref n) = some (RR, [(n, RR)]) := by simp only [itemsOf, get_app hn]
  simp [hit]
  generalize q : forGo _ _ _ _ _ _ = r
  obtain ⟨e, s, rfl, kvs, a4, a5, rfl, rfl, hkl, hkv⟩ := for_at q (fun i env st' => ∃ kvs a4 a5, st' = st ++ [Ob.dT kvs] ∧ env = [some d, some y.enc, some (.ref n), some (.ref st.length), a4, a5, none, none, none, none] ∧ kvs.length ≤ 30 * i ∧ ∀ s ∈ (stts p).take i, ∀ k, s.b ≤ k → k < s.e → Told p y kvs k s.c)
    ⟨[], none, none, rfl, rfl, by simp, by simp⟩ (fun i env st' _ ⟨kvs, a4, a5, e1, e2, e3⟩ => by subst e1; exact still_one (get_app hn)) (fun i x env st' hi ⟨kvs, a4, a5, e1, e2, hl, hk⟩ => by
      obtain ⟨s, hs, kk, rfl, hkk⟩ := hR.get hi
      have so := stts_mem (List.mem_of_getElem? hs)
      have slt := so.lt
      have sle := so.le
      have sc4 := so.c4
      have sa : ∀ more, StAt p (st ++ more) kk s := fun more => stAt_app hkk
      have il : i < 150 := by have := (List.getElem?_eq_some_iff.mp hs).1; have := stts_le hp; omega
      subst e2
      have f2 := fld_begin (sa [Ob.dT kvs]) [some d, some y.enc, some (.ref n), some (.ref st.length), some (.ref kk), a5, none, none, none, none] 4 rfl
      have f3 := fld_end (sa [Ob.dT kvs]) [some d, some y.enc, some (.ref n), some (.ref st.length), some (.ref kk), a5, none, none, none, none] 4 rfl
      rw [← e1] at f2 f3
      have mb : (-1000000 ≤ (s.b : Int) ∧ (s.b : Int) ≤ 1000000) ∧ -1000000 ≤ (s.e : Int) ∧ (s.e : Int) ≤ 1000000 := by omega
      have en2 : ((s.e : Int) - (s.b : Int)).toNat = s.e - s.b := by omega
      have hle : s.e - s.b ≤ LIM := le_LIM (by omega)
      simp [f2, f3, -r_eFld, mb, en2, hle]
      generalize q : forGo _ _ _ _ _ _ = r
      obtain ⟨e, s', rfl, kvs', a5', rfl, rfl, hl', hk1, hk2⟩ := for_at q (fun j env st' => ∃ kvs a5, st' = st ++ [Ob.dT kvs] ∧ env = [some d, some y.enc, some (.ref n), some (.ref st.length), some (.ref kk), a5, none, none, none, none] ∧ kvs.length ≤ 30 * i + j ∧ (∀ s ∈ (stts p).take i, ∀ k, s.b ≤ k → k < s.e → Told p y kvs k s.c) ∧ ∀ k, s.b ≤ k → k < s.b + j → Told p y kvs k s.c)
        ⟨kvs, a5, e1, rfl, by omega, hk, fun k h1 h2 => by omega⟩ (fun _ _ _ _ _ => rfl) (fun j x env st' hj ⟨kvs, a5, e1, e2, hl, hk1, hk2⟩ => by
          obtain ⟨hj2, rfl⟩ := ints_getL hj
          subst e2
          have f4 := fld_column (sa [Ob.dT kvs]) [some d, some y.enc, some (.ref n), some (.ref st.length), some (.ref kk), some (.int ((s.b : Int) + (j : Int))), none, none, none, none] 4 rfl
          have w1 := width_ok hp so (sa [Ob.dT kvs]) y
          have hk' : (st ++ [Ob.dT kvs])[kk]? = some (.ins 12 (stFs s (cellsOf p s))) := sa [Ob.dT kvs]
          have ll : kvs.length < LIM := lt_LIM (by omega)
          have ww : wid y (cellsOf p s) = wAt p y (s.b + j) s.c := by
            unfold wAt
            rw [← covers_at (List.mem_of_getElem? hs) (k := s.b + j) (c := s.c) ⟨rfl, by omega, by omega⟩]
          have ds : dsetG (st ++ [Ob.dT kvs]) (.ref st.length) (.tup [.int ((s.b : Int) + (j : Int)), .int s.c]) (.int (wid y (cellsOf p s))) = some (st ++ [Ob.dT (putKD kvs (kkc (s.b + j) s.c) (.int (wAt p y (s.b + j) s.c)))]) := by
            have ek : kkc (s.b + j) s.c = [Sum.inl ((s.b : Int) + (j : Int)), Sum.inl (s.c : Int)] := by
              unfold kkc; rw [show ((s.b + j : Nat) : Int) = (s.b : Int) + (j : Int) by omega]
            rw [ek, ← ww]
            simp [dsetG, ll]
          rw [← e1] at f4 w1 hk' ds
          refine turn_eq (e := [some d, some y.enc, some (.ref n), some (.ref st.length), some (.ref kk), some (.int ((s.b : Int) + (j : Int))), none, none, none, none]) (s := st ++ [Ob.dT (putKD kvs (kkc (s.b + j) s.c) (.int (wAt p y (s.b + j) s.c)))]) (by
            simp [f4, -r_eFld, hk', st_width, w1, ds, gSb]) ⟨_, _, rfl, rfl, Nat.le_trans (putKD_len _ _ _) (by omega), fun s1 h1 k h2 h3 => told_put (.inl (hk1 s1 h1 k h2 h3)), fun k h1 h2 => told_put ?_⟩
          by_cases z : k = s.b + j
          · exact .inr ⟨z, rfl⟩
          · exact .inl (hk2 k h1 (by omega)))
      rw [intsD_len] at hl' hk2
      refine ⟨kvs', rfl, ⟨_, _, rfl⟩, by omega, fun s1 h1 k h2 h3 => ?_⟩
      rw [take_snoc hs, List.mem_append] at h1
      rcases h1 with h1 | h1
      · exact hk1 s1 h1 k h2 h3
      · obtain rfl : s1 = s := by simpa using h1
        exact hk2 k h2 (by omega))
  rw [hR.len, List.take_length] at hkv
  have told : ∀ k c, clo p c k = true → c < 5 → Told p y kvs k c := fun k c h hc => by
    obtain ⟨m, cv⟩ := sttAt_mem hc h
    have := hkv _ m k cv.2.1 cv.2.2
    rwa [cv.1] at this
  clear hkv hkl
  have hd1 : ∀ more, listOf (st ++ more) d = some (encP p, w) := fun more => listOf_stays (Stays.app _ _) hd
  simp [hd1]
  generalize q : forGo _ _ _ _ _ _ = r
  obtain ⟨e, s, rfl, a5, a7, a8, a9, rfl, rfl⟩ := for_at q (fun i env st' => ∃ a5 a7 a8 a9, st' = st ++ Ob.dT kvs :: .lst (refs (st.length + 2) i) :: (gridS p (sumW p y)).take i ∧ env = [some d, some y.enc, some (.ref n), some (.ref st.length), a4, a5, some (.ref (st.length + 1)), a7, a8, a9])
    ⟨_, _, _, _, by simp [refs], rfl⟩ (fun i env st' _ ⟨a5, a7, a8, a9, e1, e2⟩ => by subst e1; exact still_list (hd1 _)) (fun i x env st' hi ⟨a5, a7, a8, a9, e1, e2⟩ => by
      obtain ⟨z, hz, rfl⟩ := pairUp_at hi
      unfold encP at hz
      rw [List.getElem?_map] at hz
      cases er : p[i]? with
      | none => rw [er] at hz; cases hz
      | some r =>
        rw [er] at hz
        cases hz
        have hip := (List.getElem?_eq_some_iff.mp er).1
        have ci := cellsIn_row er
        have cl := cellsIn_le hp hip
        have el : st'.length = st.length + 2 + i := by rw [e1]; simp; omega
        have g0 : st'[st.length]? = some (.dT kvs) := by rw [e1]; simp
        have g1 : st'[st.length + 1]? = some (.lst (refs (st.length + 2) i)) := by rw [e1]; simp
        have m1 : -1000000 ≤ (r.length : Int) - 1 ∧ (r.length : Int) - 1 ≤ 1000000 := by omega
        have tn : ((r.length : Int) - 1).toNat = r.length - 1 := by omega
        subst e2
        simp [subG, m1, tn]
        generalize q : forGo _ _ _ _ _ _ = r'
        obtain ⟨e, s, rfl, a9', rfl, rfl⟩ := for_at q (fun j env st'' => ∃ a9, st'' = st' ++ [Ob.lst ((leftsN p y i (j + 1)).map .int)] ∧ env = [some d, some y.enc, some (.ref n), some (.ref st.length), a4, some (.int i), some (.ref (st.length + 1)), some (encR r), some (.ref st'.length), a9])
          ⟨_, rfl, rfl⟩ (fun _ _ _ _ _ => rfl) (fun j x env st'' hj ⟨a9, e1, e2⟩ => by
            obtain ⟨hj, rfl⟩ := ints_get hj
            have hcl : clo p j i = true := by rw [clo_cells hip, ci]; exact decide_eq_true (by omega)
            have tl := told i j hcl (by omega)
            have gA : (st' ++ [Ob.lst ((leftsN p y i (j + 1)).map D.int)])[st.length]? = some (.dT kvs) := get_app g0
            have gL : (st' ++ [Ob.lst ((leftsN p y i (j + 1)).map D.int)])[st'.length]? = some (.lst ((leftsN p y i (j + 1)).map .int)) := by simp
            have ixl : ixG (st' ++ [Ob.lst ((leftsN p y i (j + 1)).map D.int)]) (.ref st'.length) (.int (-1)) = .ok (.int (sumW p y i j), st' ++ [Ob.lst ((leftsN p y i (j + 1)).map D.int)]) := by
              have : atI ((leftsN p y i (j + 1)).map D.int) (-1) = some (.int (sumW p y i j)) := by
                rw [leftsN_succ, List.map_append]; exact atI_last _ _
              simp [ixG, lstOf, this]
            have dg : dgetG (st' ++ [Ob.lst ((leftsN p y i (j + 1)).map D.int)]) (.ref st.length) (.tup [.int i, .int j]) = .ok (.int (wAt p y i j), st' ++ [Ob.lst ((leftsN p y i (j + 1)).map D.int)]) := by
              have e3 : dvalG (st' ++ [Ob.lst ((leftsN p y i (j + 1)).map D.int)]) (.ref st.length) (.tup [.int i, .int j]) = some (some (.int (wAt p y i j))) := by
                simp only [dvalG, gA, keysOf_int, keysOf_nil, Option.map_some]
                exact congrArg some tl
              simp only [dgetG, e3]
            have tm : tyM (st' ++ [Ob.lst ((leftsN p y i (j + 1)).map D.int)]) (.ref st'.length) = some "list" := by simp only [tyM, gL]
            have ll : j + 1 < LIM := lt_LIM (by omega)
            have ap : appendG (st' ++ [Ob.lst ((leftsN p y i (j + 1)).map D.int)]) (.ref st'.length) [.int (sumW p y i j + wAt p y i j)] = .ok (.non, st' ++ [Ob.lst ((leftsN p y i (j + 2)).map D.int)]) := by
              rw [leftsN_succ p y i (j + 1)]
              simp [appendG, ll]
              rfl
            subst e2
            rw [← e1] at ixl dg tm ap
            exact turn_eq (e := [some d, some y.enc, some (.ref n), some (.ref st.length), a4, some (.int i), some (.ref (st.length + 1)), some (encR r), some (.ref st'.length), some (.int j)]) (s := st' ++ [Ob.lst ((leftsN p y i (j + 2)).map D.int)]) (by
              simp [ixl, dg, tm, ap, addG]) ⟨_, rfl, rfl⟩)
        rw [intsD_len]
        have h1 : r.length - 1 + 1 = cellsIn p i := by omega
        rw [h1]
        have gL : (st' ++ [Ob.lst ((leftsN p y i (cellsIn p i)).map D.int)])[st.length + 1]? = some (.lst (refs (st.length + 2) i)) := get_app g1
        have tm : tyM (st' ++ [Ob.lst ((leftsN p y i (cellsIn p i)).map D.int)]) (.ref (st.length + 1)) = some "list" := by simp only [tyM, gL]
        have ll : i < LIM := lt_LIM (by omega)
        have er' : rowI p (sumW p y) i = (leftsN p y i (cellsIn p i)).map D.int := rfl
        have ap : appendG (st' ++ [Ob.lst ((leftsN p y i (cellsIn p i)).map D.int)]) (.ref (st.length + 1)) [.ref st'.length] = .ok (.non, st ++ Ob.dT kvs :: .lst (refs (st.length + 2) (i + 1)) :: (gridS p (sumW p y)).take (i + 1)) := by
          simp only [appendG, gL, refs_len, ll, if_true]
          refine congrArg (fun l => R.ok (D.non, l)) ?_
          rw [refs_succ, ← el, take_snoc (gridS_at _ hip), er', e1]
          simp
        simp [tm, ap])
  rw [pairUp_len, encP_len]
  simp
  exact List.take_of_length_le (by simp)
end Dl
namespace Dl
open PySem L2
theorem stts_nodup (p : Page) : (stts p).Nodup := by
  unfold stts List.Nodup
  rw [List.pairwise_flatMap]
  refine ⟨fun c hc => ?_, ?_⟩
  · unfold sttsC
    rw [List.pairwise_map]
    have h0 : List.Pairwise (fun a b : Nat => a ≠ b) (begs p c p.length) := by
      unfold begs
      exact List.Pairwise.filter _ List.nodup_range
    exact h0.imp fun {a b} h z => h (congrArg Stt.b z)
  · have h0 : List.Pairwise (fun a b : Nat => a ≠ b) (List.range 5) := List.nodup_range
    refine h0.imp fun {a b} h x hx y hy z => ?_
    obtain ⟨b1, _, rfl⟩ := List.mem_map.mp hx
    obtain ⟨b2, _, rfl⟩ := List.mem_map.mp hy
    exact h (congrArg Stt.c z)
def cov (p : Page) (i k c : Nat) : Bool := ((stts p).take i).any fun s => decide (Covers s k c)
theorem cov_false {p : Page} {i : Nat} {s : Stt} (hs : (stts p)[i]? = some s) {k c : Nat} (hk : Covers s k c) : cov p i k c = false := by
  unfold cov
  rw [List.any_eq_false]
  intro s' h'
  simp only [decide_eq_true_eq]
  intro hc
  have e1 := covers_at (List.mem_of_mem_take h') hc
  have e2 := covers_at (List.mem_of_getElem? hs) hk
  rw [← e2] at e1
  subst e1
  obtain ⟨j, hj⟩ := List.mem_iff_getElem?.mp h'
  rw [List.getElem?_take] at hj
  split at hj
  · rename_i hlt
    obtain ⟨l1, g1⟩ := List.getElem?_eq_some_iff.mp hj
    obtain ⟨l2, g2⟩ := List.getElem?_eq_some_iff.mp hs
    have := List.pairwise_iff_getElem.mp (stts_nodup p) j i l1 l2 hlt
    exact this (g1.trans g2.symm)
  · cases hj
theorem cov_succ {p : Page} {i : Nat} {s : Stt} (hs : (stts p)[i]? = some s) (k c : Nat) : cov p (i + 1) k c = (cov p i k c || decide (Covers s k c)) := by
  unfold cov
  rw [take_snoc hs, List.any_append]
  simp
def upd2 (f : Nat → Nat → Int) (k c : Nat) (v : Int) : Nat → Nat → Int := fun k' c' => if k' = k ∧ c' = c then v else f k' c'
def layS (B : Store) (p : Page) (f : Nat → Nat → Int) : Store := B ++ .lst (refs (B.length + 1) p.length) :: gridS p f
section
variable {B : Store} {p : Page} {f : Nat → Nat → Int} {k c : Nat}
theorem lay_keep {o : Ob} {n : Nat} (h : B[n]? = some o) : (layS B p f)[n]? = some o := get_app h
theorem lay_found : (layS B p f)[B.length]? = some (.lst (refs (B.length + 1) p.length)) := by simp [layS]
theorem lay_row (hk : k < p.length) : (layS B p f)[B.length + 1 + k]? = some (.lst (rowI p f k)) := by
  unfold layS
  rw [List.getElem?_append_right (by omega), show B.length + 1 + k - B.length = k + 1 by omega, List.getElem?_cons_succ, gridS_at f hk]
theorem refs_get {n m : Nat} (h : k < m) : (refs n m)[k]? = some (.ref (n + k)) := by simp [refs, h]
theorem lay_ixF (hk : k < p.length) : ixG (layS B p f) (.ref B.length) (.int k) = .ok (.ref (B.length + 1 + k), layS B p f) := by
  have : lstOf (layS B p f) (.ref B.length) = some (refs (B.length + 1) p.length) := by simp only [lstOf, lay_found]
  simp only [ixG, this, atI_nat, refs_get hk]
  rfl
theorem lay_ixR (hk : k < p.length) (hc : c < cellsIn p k) : ixG (layS B p f) (.ref (B.length + 1 + k)) (.int c) = .ok (.int (f k c), layS B p f) := by
  have : lstOf (layS B p f) (.ref (B.length + 1 + k)) = some (rowI p f k) := by simp only [lstOf, lay_row hk]
  simp only [ixG, this, atI_nat, rowI_at f hc]
  rfl
theorem lay_set (hk : k < p.length) (hc : c < cellsIn p k) (v : Int) : setLG (layS B p f) (.ref (B.length + 1 + k)) (.int c) (.int v) = some (layS B p (upd2 f k c v)) := by
  have hx : ixN (rowI p f k).length (c : Int) = some c := by
    have h2 : (c : Int) < ((cellsIn p k : Nat) : Int) := by omega
    simp [ixN, hc]
  simp only [setLG, lay_row hk, hx]
  unfold layS upd2
  rw [List.set_append_right _ _ (by omega), show B.length + 1 + k - B.length = k + 1 by omega, List.set_cons_succ, gridS_set f hk hc]
end
theorem lay_congr {B : Store} {p : Page} {f g : Nat → Nat → Int} (h : ∀ k c, k < p.length → c < cellsIn p k → f k c = g k c) : layS B p f = layS B p g := by
  unfold layS; rw [gridS_congr h]
def m_begins_by : FV := funD 7 (d_begins_by m_stops_by m_Stretch_is_right m_Stretch_width)
theorem begins_by_ok {p : Page} (hp : okPage p = true) (y : Sty) {d : D} {w : List (Nat × List D)} {st : Store} (hd : listOf st d = some (encP p, w)) {n : Nat} {RR : List D} (hn : st[n]? = some (.lst RR)) (hR : All2 (IsSt p st) RR (stts p)) :
    ∃ kvs, m_begins_by [d, y.enc, .ref n] st = .ok (.ref (st.length + 1), layS (st ++ [.dT kvs]) p (bAt p y)) := by
  rw [m_begins_by, funD, d_begins_by]
  obtain ⟨p1, p2, p3⟩ := okPage_parts hp
  obtain ⟨kvs, sb⟩ := stops_by_ok hp y hd hn hR
  obtain ⟨B, hB⟩ : ∃ B, B = st ++ [Ob.dT kvs] := ⟨_, rfl⟩
  have Bl : B.length = st.length + 1 := by rw [hB]; simp
  have eS : st ++ Ob.dT kvs :: Ob.lst (refs (st.length + 2) p.length) :: gridS p (sumW p y) = layS B p (sumW p y) := by
    unfold layS
    rw [Bl, hB]; simp
  rw [eS, ← Bl] at sb
  refine ⟨kvs, ?_⟩
  rw [← hB, ← Bl]
  have hnB : B[n]? = some (.lst RR) := by rw [hB]; exact get_app hn
  have hit : ∀ f, itemsOf (layS B p f) (.ref n) = some (RR, [(n, RR)]) := fun f => by simp only [itemsOf, lay_keep hnB]
  have hRB : All2 (IsSt p B) RR (stts p) := hR.imp fun a b ⟨k, u, v⟩ => ⟨k, u, by rw [hB]; exact get_app v⟩
  clear hR hn hd
  simp [sb, hit]
  generalize q : forGo _ _ _ _ _ _ = r
  obtain ⟨e, s, rfl, f, a4, a5, a6, rfl, rfl, hf⟩ := for_at q (fun i env st' => ∃ f a4 a5 a6, st' = layS B p f ∧ env = [some d, some y.enc, some (.ref n), some (.ref B.length), a4, a5, a6] ∧ ∀ k c, f k c = if cov p i k c = true then bAt p y k c else sumW p y k c)
    ⟨_, _, _, _, rfl, rfl, fun k c => by simp [cov]⟩ (fun i env st' _ ⟨f, a4, a5, a6, e1, e2, e3⟩ => by subst e1; exact still_one (lay_keep hnB)) (fun i x env st' hi ⟨f, a4, a5, a6, e1, e2, hf⟩ => by
      obtain ⟨s, hs, kk, rfl, hkk⟩ := hRB.get hi
      have so := stts_mem (List.mem_of_getElem? hs)
      have slt := so.lt
      have sle := so.le
      have sc4 := so.c4
      have sa : ∀ f, StAt p (layS B p f) kk s := fun f => lay_keep hkk
      have hk' : ∀ f, (layS B p f)[kk]? = some (.ins 12 (stFs s (cellsOf p s))) := fun f => sa f
      have w2 := fun f => is_right_ok hp so (sa f)
      subst e1 e2
      cases hr : right (cellsOf p s) with
      | false =>
        rw [hr] at w2
        refine turn_eq (e := [some d, some y.enc, some (.ref n), some (.ref B.length), some (.ref kk), a5, a6]) (s := layS B p f) (by simp [hk', st_right, w2]) ⟨f, _, _, _, rfl, rfl, fun k c => ?_⟩
        rw [hf k c, cov_succ hs]
        by_cases hc : Covers s k c
        · have e0 : bAt p y k c = sumW p y k c := by
            unfold bAt rightAt
            rw [← covers_at (List.mem_of_getElem? hs) hc, hr]
            simp
          simp [e0]
        · simp [hc]
      | true =>
        rw [hr] at w2
        have f1 := fld_cells (sa f) [some d, some y.enc, some (.ref n), some (.ref B.length), some (.ref kk), a5, a6] 4 rfl
        have cl := cellsOf_len p s
        have m1 : (s.e - s.b : Nat) ≤ LIM := le_LIM (by omega)
        have m2 : -1000000 ≤ ((s.e - s.b : Nat) : Int) ∧ ((s.e - s.b : Nat) : Int) ≤ 1000000 := by omega
        simp [hk', st_right, w2, f1, -r_eFld, lenG, lstOf, cl, m1, m2]
        generalize q : forGo _ _ _ _ _ _ = r
        obtain ⟨e, s', rfl, f', a5', a6', rfl, rfl, hf'⟩ := for_at q (fun j env st' => ∃ f a5 a6, st' = layS B p f ∧ env = [some d, some y.enc, some (.ref n), some (.ref B.length), some (.ref kk), a5, a6] ∧ ∀ k c, f k c = if (cov p i k c || (decide (Covers s k c) && decide (k < s.b + j))) = true then bAt p y k c else sumW p y k c)
          ⟨f, _, _, rfl, rfl, fun k c => by
            rw [hf k c]
            have : (decide (Covers s k c) && decide (k < s.b + 0)) = false := by
              by_cases z : Covers s k c
              · have := z.2.1
                simp [z]; omega
              · simp [z]
            rw [this, Bool.or_false]⟩ (fun _ _ _ _ _ => rfl) (fun j x env st' hj ⟨f, a5, a6, e1, e2, hf⟩ => by
            obtain ⟨hj2, rfl⟩ := ints_get hj
            subst e1 e2
            have kp : s.b + j < p.length := by omega
            have hcl : clo p s.c (s.b + j) = true := so.clo _ (by omega) (by omega)
            have hcc : s.c + 1 < cellsIn p (s.b + j) := by
              rw [clo_cells kp] at hcl; exact of_decide_eq_true hcl
            have cv : Covers s (s.b + j) s.c := ⟨rfl, by omega, by omega⟩
            have sAt := covers_at (List.mem_of_getElem? hs) cv
            have fv : f (s.b + j) s.c = sumW p y (s.b + j) s.c := by
              rw [hf, cov_false hs cv]; simp
            have ww : wid y (cellsOf p s) = wAt p y (s.b + j) s.c := by unfold wAt; rw [← sAt]
            have bv : bAt p y (s.b + j) s.c = sumW p y (s.b + j) s.c + wid y (cellsOf p s) - y.g - ((cellAt p (s.b + j) s.c).length : Int) := by
              unfold bAt rightAt
              rw [hcl, ← sAt, hr, ww]
              rfl
            have env1 : ∀ z, eFld 12 "begin" (eV 4) [some d, some y.enc, some (.ref n), some (.ref B.length), some (.ref kk), some (.int j), z] (layS B p f) = .ok (.int s.b, layS B p f) := fun z => fld_begin (sa f) _ 4 rfl
            have env2 : ∀ z, eFld 12 "column" (eV 4) [some d, some y.enc, some (.ref n), some (.ref B.length), some (.ref kk), some (.int j), z] (layS B p f) = .ok (.int s.c, layS B p f) := fun z => fld_column (sa f) _ 4 rfl
            have env3 : ∀ z, eFld 12 "cells" (eV 4) [some d, some y.enc, some (.ref n), some (.ref B.length), some (.ref kk), some (.int j), z] (layS B p f) = .ok (.lst ((cellsOf p s).map .str), layS B p f) := fun z => fld_cells (sa f) _ 4 rfl
            have w1 := width_ok hp so (sa f) y
            have x1 := lay_ixF (B := B) (p := p) (f := f) kp
            rw [show ((s.b + j : Nat) : Int) = (s.b : Int) + (j : Int) by omega] at x1
            have x2 := lay_ixR (B := B) (p := p) (f := f) kp (show s.c < cellsIn p (s.b + j) by omega)
            rw [fv] at x2
            have x3 := lay_set (B := B) (p := p) (f := f) kp (show s.c < cellsIn p (s.b + j) by omega) (bAt p y (s.b + j) s.c)
            rw [bv] at x3
            have x4 : atI ((cellsOf p s).map D.str) (j : Int) = some (.str (cellAt p (s.b + j) s.c)) := by
              rw [atI_nat]
              have : j < s.e - s.b := by omega
              simp [cellsOf, this]
            refine turn_eq (e := [some d, some y.enc, some (.ref n), some (.ref B.length), some (.ref kk), some (.int j), some (.ref (B.length + 1 + (s.b + j)))]) (s := layS B p (upd2 f (s.b + j) s.c (sumW p y (s.b + j) s.c + wid y (cellsOf p s) - y.g - ((cellAt p (s.b + j) s.c).length : Int)))) (by
              simp [env1, env2, env3, -r_eFld, x1, x2, x3, x4, hk', st_width, w1, addG, subG, gSb]) ⟨_, _, _, rfl, rfl, fun k c => ?_⟩
            rw [← bv]
            unfold upd2
            by_cases z : k = s.b + j ∧ c = s.c
            · obtain ⟨rfl, rfl⟩ := z
              simp [cv]
            · rw [if_neg z, hf k c]
              have : (decide (Covers s k c) && decide (k < s.b + j)) = (decide (Covers s k c) && decide (k < s.b + (j + 1))) := by
                by_cases h : Covers s k c
                · have : k ≠ s.b + j := fun q => z ⟨q, h.1.symm⟩
                  simp only [h, decide_true, Bool.true_and]
                  refine decide_eq_decide.mpr ?_
                  omega
                · simp [h]
              rw [this])
        rw [intsD_len] at hf'
        refine ⟨f', rfl, ⟨_, _, _, rfl⟩, fun k c => ?_⟩
        rw [hf' k c, cov_succ hs]
        have : (decide (Covers s k c) && decide (k < s.b + (s.e - s.b))) = decide (Covers s k c) := by
          by_cases h : Covers s k c
          · have := h.2.2
            simp [h]; omega
          · simp [h]
        rw [this])
  rw [hRB.len] at hf
  simp
  refine lay_congr fun k c hk hc => ?_
  rw [hf k c]
  by_cases hcl : clo p c k = true
  · have h5 : c < 5 := by
      have := cellsIn_le hp hk
      rw [clo_cells hk] at hcl
      have := of_decide_eq_true hcl
      omega
    obtain ⟨m, cv⟩ := sttAt_mem h5 hcl
    have : cov p (stts p).length k c = true := by
      unfold cov
      rw [List.take_length, List.any_eq_true]
      exact ⟨_, m, decide_eq_true cv⟩
    rw [if_pos this]
  · have e0 : bAt p y k c = sumW p y k c := by
      unfold bAt rightAt
      simp [hcl]
    rw [e0]; simp
end Dl
namespace Dl
open PySem L2
end Dl
namespace Dl
open PySem L2
def m_laid : FV := funD 2 (d_laid m_need_page m_need_style m_begins_by m_all_stretches)
theorem laid_ok {p : Page} (hp : okPage p = true) {y : Sty} (hy : y.ok) {d : D} {w : List (Nat × List D)} {st : Store} (hd : listOf st d = some (encP p, w)) :
    ∃ M, m_laid [d, y.enc] st = .ok (.ref (st.length + M.length), layS (st ++ M) p (bAt p y)) := by
  rw [m_laid, funD, d_laid]
  obtain ⟨RR, more, ha, hR⟩ := all_stretches_ok hp hd
  have np := need_page_ok hd hp
  have ns := need_style_ok hy st
  have hd1 : listOf (st ++ .lst RR :: more) d = some (encP p, w) := listOf_stays (Stays.app _ _) hd
  obtain ⟨kvs, sb⟩ := begins_by_ok hp y hd1 (n := st.length) (RR := RR) (by simp) hR
  refine ⟨.lst RR :: more ++ [.dT kvs], ?_⟩
  simp [np, ns, ha, sb]
  omega
def rowsD (p : Page) (f : Nat → Nat → Int) : List D := (List.range p.length).map fun k => .lst (rowI p f k)
theorem lay_pre (st M : Store) (p : Page) (f : Nat → Nat → Int) : ∃ m, layS (st ++ M) p f = st ++ m := ⟨M ++ Ob.lst (refs ((st ++ M).length + 1) p.length) :: gridS p f, by unfold layS; rw [List.append_assoc]⟩
end Dl
namespace Dl
open PySem L2
/-- line_of: 5 slots, 2 parameters -/
def d_line_of : SV := sCons (sAsg (eC (.str [])) (gN 2)) (sCons (sFor (iZm (aCons (eV 0) (aCons (eV 1) (aNil)))) (gTp 2 (gsCons (gN 3) (gsCons (gN 4) (gsNil)))) (sIf (tv (eOp (eqG true) (eV 3) (eC (.str [])))) (sAsg (eOp (addG false) (eMt "str" (ljustG) (eV 2) (aCons (eV 4) (aNil))) (eV 3)) (gN 2)) (sNext))) (sRet (eV 2)))
/-- shown: 5 slots, 2 parameters -/
def d_shown (m_laid : FV) (m_line_of : FV) : SV := sCons (sAsg (eCall 2 m_laid (aCons (eV 0) (aCons (eV 1) (aNil)))) (gN 2)) (sRet (eLc true (iZp (aCons (eV 0) (aCons (eV 2) (aNil)))) [3, 4] (.two 3 4) (tYesD) (eCall 2 m_line_of (aCons (eV 3) (aCons (eV 4) (aNil))))))
end Dl
namespace Dl
open PySem L2
@[simp] theorem r_iZm (g : AV) (env : Env) (st : Store) : iZm g env st = (g env st).bind fun a => match a.1 with
  | [.tup ds, e] => match listOf a.2 e with
    | some w' => .ok ((zipUp ds w'.1, w'.2), a.2)
    | none => .bad
  | _ => .bad := (rfl)
theorem most_le {ss : List (List Nat)} (h0 : ss ≠ []) (h : ∀ s ∈ ss, s.length ≤ 10) : 0 ≤ most ss ∧ most ss ≤ 10 := by
  have ne : ss.map (fun s => (s.length : Int)) ≠ [] := by simpa using h0
  obtain ⟨h1, _⟩ := maxL_mem ne
  unfold most
  obtain ⟨s, hs, e⟩ := List.mem_map.mp h1
  have := h s hs
  rw [← e]
  omega
theorem wAt_b {p : Page} (hp : okPage p = true) {y : Sty} (hy : y.ok) {k c : Nat} (hk : k < p.length) (hc : c + 1 < cellsIn p k) : 0 ≤ wAt p y k c ∧ wAt p y k c ≤ 14 := by
  have hcl : clo p c k = true := by rw [clo_cells hk]; exact decide_eq_true hc
  have := (cellsIn_le hp hk).2
  obtain ⟨m, cv⟩ := sttAt_mem (by omega : c < 5) hcl
  obtain ⟨c1, c2, c3⟩ := cells_fit hp (stts_mem m)
  have b := most_le c2 fun s hs => (okCell_parts (c3 s hs)).1
  obtain ⟨⟨h1, h2⟩, h3, h4⟩ := hy
  unfold wAt wid
  omega
theorem sumW_b {p : Page} (hp : okPage p = true) {y : Sty} (hy : y.ok) {k : Nat} (hk : k < p.length) : ∀ c, c < cellsIn p k → 0 ≤ sumW p y k c ∧ sumW p y k c ≤ 14 * (c : Int)
  | 0, _ => by simp [sumW]
  | c + 1, h => by
    have h1 := sumW_b hp hy hk c (by omega)
    have h2 := wAt_b hp hy hk h
    simp only [sumW]
    omega
theorem cellAt_len {p : Page} (hp : okPage p = true) {k c : Nat} (hk : k < p.length) (hc : c < cellsIn p k) : (cellAt p k c).length ≤ 10 := by
  obtain ⟨p1, p2, p3⟩ := okPage_parts hp
  have hr : p[k]? = some p[k] := by simp [hk]
  rw [cellsIn_row hr] at hc
  obtain ⟨r1, r2, r3⟩ := okRow_parts (p3 _ (List.mem_of_getElem? hr))
  have e : cellAt p k c = p[k][c] := by simp [cellAt, hk, hc]
  rw [e]
  exact (okCell_parts (r3 _ (by simp))).1
theorem bAt_b {p : Page} (hp : okPage p = true) {y : Sty} (hy : y.ok) {k c : Nat} (hk : k < p.length) (hc : c < cellsIn p k) : -100 ≤ bAt p y k c ∧ bAt p y k c ≤ 100 := by
  have h6 := (cellsIn_le hp hk).2
  have h1 := sumW_b hp hy hk c hc
  have hl := cellAt_len hp hk hc
  have ⟨⟨g1, g2⟩, _⟩ := hy
  unfold bAt
  by_cases hr : rightAt p k c = true
  · rw [if_pos hr]
    have hcl : clo p c k = true := by
      unfold rightAt at hr
      simp only [Bool.and_eq_true] at hr
      exact hr.1
    rw [clo_cells hk] at hcl
    have h2 := wAt_b hp hy hk (of_decide_eq_true hcl)
    simp only [sumW]
    omega
  · rw [if_neg hr]
    omega
def lineN (p : Page) (f : Nat → Nat → Int) (k : Nat) : Nat → List Nat
  | 0 => []
  | n + 1 => if cellAt p k n = [] then lineN p f k n else ljustL (lineN p f k n) (f k n) ++ cellAt p k n
def lineR (p : Page) (f : Nat → Nat → Int) (k : Nat) : List Nat := lineN p f k (cellsIn p k)
theorem ljustL_len (s : List Nat) (i : Int) : (ljustL s i).length = max s.length i.toNat := by
  unfold ljustL
  rw [List.length_append, List.length_replicate]
  omega
theorem lineN_len {p : Page} (hp : okPage p = true) {f : Nat → Nat → Int} {k : Nat} (hk : k < p.length) (hf : ∀ c, c < cellsIn p k → -100 ≤ f k c ∧ f k c ≤ 100) : ∀ n, n ≤ cellsIn p k → (lineN p f k n).length ≤ 100 + 10 * n
  | 0, _ => by simp [lineN]
  | n + 1, h => by
    have ih := lineN_len hp hk hf n (by omega)
    have hl := cellAt_len hp hk (show n < cellsIn p k by omega)
    have := hf n (by omega)
    unfold lineN
    split
    · omega
    · rw [List.length_append, ljustL_len]
      omega
theorem zip_row {p : Page} {f : Nat → Nat → Int} {k : Nat} {r : Row} (hr : p[k]? = some r) {c : Nat} {x : D} (h : (zipUp (r.map .str) (rowI p f k))[c]? = some x) : c < cellsIn p k ∧ x = .tup [.str (cellAt p k c), .int (f k c)] := by
  obtain ⟨a, b, e1, e2, rfl⟩ := zipUp_at h
  have ci := cellsIn_row hr
  rw [List.getElem?_map] at e1
  have hc : c < r.length := by
    cases q : r[c]? with
    | none => rw [q] at e1; cases e1
    | some s => exact (List.getElem?_eq_some_iff.mp q).1
  have ec : cellAt p k c = r[c] := by simp [cellAt, hr, hc]
  have e3 : r[c]? = some r[c] := by simp [hc]
  rw [e3] at e1
  cases e1
  rw [rowI_at f (by omega)] at e2
  cases e2
  rw [ec]
  exact ⟨by omega, rfl⟩
theorem zip_row_len {p : Page} {f : Nat → Nat → Int} {k : Nat} {r : Row} (hr : p[k]? = some r) : (zipUp (r.map .str) (rowI p f k)).length = cellsIn p k := by
  rw [zipUp_len, List.length_map, rowI_len, cellsIn_row hr, Nat.min_self]
def m_line_of : FV := funD 5 d_line_of
theorem line_of_ok {p : Page} (hp : okPage p = true) {f : Nat → Nat → Int} {k : Nat} {r : Row} (hr : p[k]? = some r) (hf : ∀ c, c < cellsIn p k → -100 ≤ f k c ∧ f k c ≤ 100) {e : D} {w : List (Nat × List D)} {st : Store} (he : listOf st e = some (rowI p f k, w)) :
    m_line_of [encR r, e] st = .ok (.str (lineR p f k), st) := by
  rw [m_line_of, funD, d_line_of]
  have hk := (List.getElem?_eq_some_iff.mp hr).1
  have hc6 := (cellsIn_le hp hk).2
  simp [encR, he]
  generalize q : forGo _ _ _ _ _ _ = r'
  obtain ⟨e', s, rfl, rfl, a3, a4, rfl⟩ := for_at q (fun i env st' => st' = st ∧ ∃ a3 a4, env = [some (.tup (r.map .str)), some e, some (.str (lineN p f k i)), a3, a4]) ⟨rfl, _, _, rfl⟩ (fun i env st' _ hI => by rw [hI.1]; exact still_list he) (fun c x env st' hi ⟨e1, a3, a4, e2⟩ => by
    subst e1 e2
    obtain ⟨hc, rfl⟩ := zip_row hr hi
    have ll := lineN_len hp hk hf c (by omega)
    have hl := cellAt_len hp hk hc
    have hfc := hf c hc
    have b1 : -1000000 ≤ f k c := by omega
    have b2 : f k c ≤ 1000000 := by omega
    have jl := ljustL_len (lineN p f k c) (f k c)
    have l3 : (ljustL (lineN p f k c) (f k c)).length + (cellAt p k c).length ≤ LIM := le_LIM (by omega)
    by_cases z : cellAt p k c = []
    · simp [z, lineN]
    · simp [z, lineN, tyM, ljustG, b1, b2, addG, l3])
  rw [zip_row_len hr]
  simp [lineR]
def m_shown : FV := funD 5 (d_shown m_laid m_line_of)
def linesD (p : Page) (f : Nat → Nat → Int) : List D := (List.range p.length).map fun k => .str (lineR p f k)
theorem linesD_at {p : Page} {f : Nat → Nat → Int} {k : Nat} (h : k < p.length) : (linesD p f)[k]? = some (.str (lineR p f k)) := by simp [linesD, h]
theorem shown_ok {p : Page} (hp : okPage p = true) {y : Sty} (hy : y.ok) {d : D} {w : List (Nat × List D)} {st : Store} (hd : listOf st d = some (encP p, w)) :
    ∃ M, m_shown [d, y.enc] st = .ok (.ref (st.length + M.length), st ++ M ++ [.lst (linesD p (bAt p y))]) := by
  rw [m_shown, funD, d_shown]
  obtain ⟨M, la⟩ := laid_ok hp hy hd
  obtain ⟨p1, p2, p3⟩ := okPage_parts hp
  obtain ⟨S, hS⟩ : ∃ S, S = layS (st ++ M) p (bAt p y) := ⟨_, rfl⟩
  have hB : (st ++ M).length = st.length + M.length := by simp
  rw [← hS] at la
  have hdS : listOf S d = some (encP p, w) := by
    obtain ⟨m, e⟩ := lay_pre st M p (bAt p y)
    rw [hS, e]; exact listOf_stays (Stays.app _ _) hd
  have gF : S[st.length + M.length]? = some (.lst (refs (st.length + M.length + 1) p.length)) := by rw [hS, ← hB]; exact lay_found
  have hF : listOf S (.ref (st.length + M.length)) = some (refs (st.length + M.length + 1) p.length, [(st.length + M.length, refs (st.length + M.length + 1) p.length)]) := by simp only [listOf, gF]
  have zl : (zipUp (encP p) (refs (st.length + M.length + 1) p.length)).length = p.length := by
    rw [zipUp_len, encP_len, refs_len, Nat.min_self]
  have zl2 : p.length ≤ LIM := le_LIM (by omega)
  have ex : ∃ m, S = st ++ M ++ m := by
    rw [hS]; exact ⟨_, rfl⟩
  refine ⟨S.drop st.length, ?_⟩
  have eS : st ++ S.drop st.length = S := by
    obtain ⟨m, e⟩ := ex
    rw [e, List.append_assoc, List.drop_left]
  rw [eS]
  have lS : st.length + (S.drop st.length).length = S.length := by
    conv => rhs; rw [← eS]
    rw [List.length_append]
  rw [lS]
  simp [la, hdS, hF, zl, zl2]
  generalize q : lcGo _ _ _ _ _ _ _ _ = r'
  obtain ⟨acc, s, rfl, rfl, rfl⟩ := lc_at q (fun i acc st' => S = st' ∧ acc = (linesD p (bAt p y)).take i) ⟨rfl, rfl⟩ (fun i acc st' _ hI => by
    rw [← hI.1]
    unfold still
    rw [List.all_append, Bool.and_eq_true]
    exact ⟨still_list hdS, still_list hF⟩) (fun i x acc st' hi ⟨e1, e2⟩ => by
    subst e1 e2
    obtain ⟨a, b, e1, e2, rfl⟩ := zipUp_at hi
    unfold encP at e1
    rw [List.getElem?_map] at e1
    cases er : p[i]? with
    | none => rw [er] at e1; cases e1
    | some r =>
      rw [er] at e1
      cases e1
      have hip := (List.getElem?_eq_some_iff.mp er).1
      rw [refs_get hip] at e2
      cases e2
      have gR : S[st.length + M.length + 1 + i]? = some (.lst (rowI p (bAt p y) i)) := by rw [hS, ← hB]; exact lay_row hip
      have lo := line_of_ok hp er (f := bAt p y) (fun c hc => bAt_b hp hy hip hc) (e := .ref (st.length + M.length + 1 + i)) (w := [(st.length + M.length + 1 + i, rowI p (bAt p y) i)]) (st := S) (by simp only [listOf, gR])
      refine ⟨_, rfl, ?_⟩
      simp [lo]
      rw [take_snoc (linesD_at hip)])
  rw [zl]
  simp [newL]
  exact List.take_of_length_le (by simp [linesD])
end Dl
namespace Dl
open PySem L2
end Dl
namespace Dl
open PySem L2
/-- Sheet_init: 3 slots, 3 parameters -/
def d_Sheet_init (m_need_page : FV) (m_need_style : FV) (m_begins_by : FV) (m_all_stretches : FV) : SV := sCons (sExpr (eCall 1 m_need_page (aCons (eV 1) (aNil)))) (sCons (sExpr (eCall 1 m_need_style (aCons (eV 2) (aNil)))) (sCons (sFldD 13 "rows" (eV 0) (eB (listG false) (aCons (eV 1) (aNil)))) (sCons (sFldD 13 "style" (eV 0) (eV 2)) (sCons (sFldD 13 "lefts" (eV 0) (eCall 3 m_begins_by (aCons (eFld 13 "rows" (eV 0)) (aCons (eV 2) (aCons (eCall 1 m_all_stretches (aCons (eFld 13 "rows" (eV 0)) (aNil))) (aNil)))))) (sFldD 13 "past" (eV 0) (eLst true (aNil)))))))
/-- Sheet_page: 1 slots, 1 parameters -/
def d_Sheet_page : SV := sRet (eB (listG true) (aCons (eFld 13 "rows" (eV 0)) (aNil)))
/-- Sheet_back: 1 slots, 1 parameters -/
def d_Sheet_back (m_begins_by : FV) (m_all_stretches : FV) : SV := sCons (sIf (tv (eOp (eqG false) (eFld 13 "past" (eV 0)) (eLst false (aNil)))) (sRet (eC (.bl false))) (sNext)) (sCons (sFldD 13 "rows" (eV 0) (eMt "list" (popG) (eFld 13 "past" (eV 0)) aNil)) (sCons (sFldD 13 "lefts" (eV 0) (eCall 3 m_begins_by (aCons (eFld 13 "rows" (eV 0)) (aCons (eFld 13 "style" (eV 0)) (aCons (eCall 1 m_all_stretches (aCons (eFld 13 "rows" (eV 0)) (aNil))) (aNil)))))) (sRet (eC (.bl true)))))
end Dl
namespace Dl
open PySem L2
abbrev Pos3 := Nat × Nat × Nat
def Valid (p : Page) (t : Pos3) : Prop := t.1 < p.length ∧ t.2.1 < cellsIn p t.1 ∧ t.2.2 ≤ (cellAt p t.1 t.2.1).length
end Dl
namespace Dl
open PySem L2
end Dl
namespace Dl
open PySem L2
end Dl
namespace Dl
open PySem L2
/-- a list of rows of numbers stands at n -/
def Lays (Z : Store) (n : Nat) (p : Page) (f : Nat → Nat → Int) : Prop := Z[n]? = some (.lst (refs (n + 1) p.length)) ∧ ∀ k, k < p.length → Z[n + 1 + k]? = some (.lst (rowI p f k))
theorem lays_of (B : Store) (p : Page) (f : Nat → Nat → Int) : Lays (layS B p f) B.length p f := ⟨lay_found, fun k hk => lay_row hk⟩
theorem Lays.stays {Z Z' : Store} {n : Nat} {p : Page} {f : Nat → Nat → Int} (h : Lays Z n p f) (s : Stays Z Z') : Lays Z' n p f := ⟨s _ _ h.1, fun k hk => s _ _ (h.2 k hk)⟩
theorem Lays.ixF {Z : Store} {n : Nat} {p : Page} {f : Nat → Nat → Int} (h : Lays Z n p f) {k : Nat} (hk : k < p.length) : ixG Z (.ref n) (.int k) = .ok (.ref (n + 1 + k), Z) := by
  have : lstOf Z (.ref n) = some (refs (n + 1) p.length) := by simp only [lstOf, h.1]
  simp only [ixG, this, atI_nat, refs_get hk]
  rfl
theorem Lays.ixR {Z : Store} {n : Nat} {p : Page} {f : Nat → Nat → Int} (h : Lays Z n p f) {k c : Nat} (hk : k < p.length) (hc : c < cellsIn p k) : ixG Z (.ref (n + 1 + k)) (.int c) = .ok (.int (f k c), Z) := by
  have : lstOf Z (.ref (n + 1 + k)) = some (rowI p f k) := by simp only [lstOf, h.2 k hk]
  simp only [ixG, this, atI_nat, rowI_at f hc]
  rfl
end Dl
namespace Dl
open PySem L2
end Dl
namespace Dl
open PySem L2
theorem ixC {p : Page} {Z : Store} {d : D} {w : List (Nat × List D)} (hd : listOf Z d = some (encP p, w)) {k c : Nat} (hk : k < p.length) (hc : c < cellsIn p k) : ∃ rr, ixG Z d (.int k) = .ok (rr, Z) ∧ ixG Z rr (.int c) = .ok (.str (cellAt p k c), Z) ∧ lenG Z [rr] = .ok (.int (cellsIn p k), Z) := by
  have er : p[k]? = some p[k] := by simp [hk]
  have ci := cellsIn_row er
  have e : cellAt p k c = p[k][c] := by
    have : c < p[k].length := by omega
    simp [cellAt, hk, this]
  refine ⟨encR p[k], ?_, ?_, ?_⟩
  · rw [ix_list hd, atI_nat]; simp [encP, hk]
  · have : c < p[k].length := by omega
    rw [e]
    simp [encR, ixG, atI_nat, this]
  · rw [lenR, ci]
end Dl
namespace Dl
open PySem L2
structure Same (p p' : Page) : Prop where
  len : p'.length = p.length
  cells : ∀ k, cellsIn p' k = cellsIn p k
theorem Same.clo {p p' : Page} (h : Same p p') : clo p' = clo p := by
  funext c k
  by_cases hk : k < p.length
  · rw [clo_cells hk, clo_cells (by rw [h.len]; exact hk), h.cells]
  · rw [clo_out (p := p') (by rw [h.len]; omega), clo_out (p := p) (by omega)]
theorem row_cell {p : Page} {k c : Nat} {r : Row} (hr : p[k]? = some r) (hc : c < r.length) : cellAt p k c = r[c] := by simp [cellAt, hr, hc]
theorem okPage_same {p p' : Page} (hp : okPage p = true) (h : Same p p') (hc : ∀ k c, k < p.length → c < cellsIn p k → okCell (cellAt p' k c) = true) : okPage p' = true := by
  obtain ⟨p1, p2, p3⟩ := okPage_parts hp
  unfold okPage
  simp only [Bool.and_eq_true, decide_eq_true_eq, List.all_eq_true]
  refine ⟨⟨by rw [h.len]; exact p1, by rw [h.len]; exact p2⟩, fun r hr => ?_⟩
  obtain ⟨k, hk⟩ := List.mem_iff_getElem?.mp hr
  have hkl : k < p.length := by rw [← h.len]; exact (List.getElem?_eq_some_iff.mp hk).1
  have e := cellsIn_row hk
  rw [h.cells] at e
  have b := cellsIn_le hp hkl
  unfold okRow
  simp only [Bool.and_eq_true, decide_eq_true_eq, List.all_eq_true]
  refine ⟨⟨by omega, by omega⟩, fun s hs => ?_⟩
  obtain ⟨c, hcc⟩ := List.mem_iff_getElem?.mp hs
  obtain ⟨hcl, hce⟩ := List.getElem?_eq_some_iff.mp hcc
  have := hc k c hkl (by omega)
  rw [row_cell hk hcl, hce] at this
  exact this
structure Sh (p : Page) (c : Nat) (S : Nat → Bool) (p' : Page) : Prop where
  same : Same p p'
  cell : ∀ j c', cellAt p' j c' = if c' = c ∧ S j = true then (cellAt p j c').drop 1 else cellAt p j c'
theorem Sh.refl (p : Page) (c : Nat) : Sh p c (fun _ => false) p := ⟨⟨rfl, fun _ => rfl⟩, fun j c' => by simp⟩
theorem drop_ok {s : List Nat} (h : okCell s = true) : okCell (s.drop 1) = true := by
  unfold okCell at h ⊢
  simp only [Bool.and_eq_true, decide_eq_true_eq, List.all_eq_true] at h ⊢
  exact ⟨by rw [List.length_drop]; omega, fun c hc => h.2 c (List.mem_of_mem_drop hc)⟩
theorem cellAt_ok {p : Page} (hp : okPage p = true) {k c : Nat} (hk : k < p.length) (hc : c < cellsIn p k) : okCell (cellAt p k c) = true := by
  obtain ⟨p1, p2, p3⟩ := okPage_parts hp
  have hr : p[k]? = some p[k] := by simp [hk]
  rw [cellsIn_row hr] at hc
  obtain ⟨r1, r2, r3⟩ := okRow_parts (p3 _ (List.mem_of_getElem? hr))
  rw [row_cell hr hc]
  exact r3 _ (by simp)
theorem Sh.ok {p p' : Page} {c : Nat} {S : Nat → Bool} (h : Sh p c S p') (hp : okPage p = true) : okPage p' = true := by
  refine okPage_same hp h.same fun k c' hk hc => ?_
  rw [h.cell]
  split
  · exact drop_ok (cellAt_ok hp hk hc)
  · exact cellAt_ok hp hk hc
end Dl
namespace Dl
open PySem L2
end Dl
namespace Dl
open PySem L2
end Dl
namespace Dl
open PySem L2
end Dl
namespace Dl
open PySem L2
end Dl
namespace Dl
open PySem L2
def Sim (x x' : List Nat) : Prop := x.length = x'.length ∧ figs x = figs x'
/-- all rows between are closed -/
def Run (p : Page) (c k j : Nat) : Prop := ∀ i, min k j ≤ i → i ≤ max k j → clo p c i = true
/-- rows of two pages that lie alike -/
structure Xf (p p' : Page) (R : Nat → Nat → Prop) : Prop where
  lt : ∀ k k', R k k' → k < p.length ∧ k' < p'.length
  cells : ∀ k k', R k k' → cellsIn p k = cellsIn p' k'
  sim : ∀ k k' c, R k k' → c < cellsIn p k → Sim (cellAt p k c) (cellAt p' k' c)
  run1 : ∀ k k' c j, R k k' → Run p c k j → ∃ j', R j j' ∧ Run p' c k' j'
  run2 : ∀ k k' c j', R k k' → Run p' c k' j' → ∃ j, R j j' ∧ Run p c k j
section
variable {p p' : Page} {R : Nat → Nat → Prop}
theorem Xf.clo (h : Xf p p' R) {k k' : Nat} (r : R k k') (c : Nat) : clo p' c k' = clo p c k := by
  obtain ⟨a, b⟩ := h.lt k k' r
  rw [clo_cells a, clo_cells b, h.cells k k' r]
end
end Dl
namespace Dl
open PySem L2
theorem All2.snoc {A B : Type} {R : A → B → Prop} {as : List A} {bs : List B} {a : A} {b : B} (h : All2 R as bs) (k : R a b) : All2 R (as ++ [a]) (bs ++ [b]) := h.app ⟨k, trivial⟩
end Dl
namespace Dl
open PySem L2
end Dl
namespace Dl
open PySem L2
@[simp] theorem r_eRevL (m : Bool) (f : EV) (env : Env) (st : Store) : eRevL m f env st = (f env st).bind fun a => match lstOf a.2 a.1 with
  | some ds => newL m ds.reverse a.2
  | none => .bad := (rfl)
@[simp] theorem rowsD_len (p : Page) (f : Nat → Nat → Int) : (rowsD p f).length = p.length := by simp [rowsD]
theorem okPage_mk {p : Page} (h1 : 1 ≤ p.length) (h2 : p.length ≤ 30) (h3 : ∀ r ∈ p, okRow r = true) : okPage p = true := by
  unfold okPage
  simp only [Bool.and_eq_true, decide_eq_true_eq, List.all_eq_true]
  exact ⟨⟨h1, h2⟩, h3⟩
end Dl
namespace Dl
open PySem L2
def shFs (p : Page) (y : Sty) (L Q : Nat) : List (Str × D) := [("rows", .lst (encP p)), ("style", y.enc), ("lefts", .ref L), ("past", .ref Q)]
def cuFs (n : Nat) (t : Pos3) : List (Str × D) := [("sheet", .ref n), ("number", .int t.1), ("cell", .int t.2.1), ("place", .int t.2.2)]
theorem look_hit {A : Type} (x : Str) (a : A) (r : List (Str × A)) : ((x, a) :: r).lookup x = some a := by simp [List.lookup_cons]
theorem look_miss {A : Type} {x z : Str} (a : A) (r : List (Str × A)) (h : (x == z) = false) : ((z, a) :: r).lookup x = r.lookup x := by rw [List.lookup_cons, h]
section
variable (p : Page) (y : Sty) (L Q : Nat)
theorem sh_rows : (shFs p y L Q).lookup ("rows" : Str) = some (.lst (encP p)) := look_hit _ _ _
theorem sh_style : (shFs p y L Q).lookup ("style" : Str) = some y.enc := by
  unfold shFs
  rw [look_miss _ _ (by decide +kernel), look_hit]
theorem sh_lefts : (shFs p y L Q).lookup ("lefts" : Str) = some (.ref L) := by
  unfold shFs
  rw [look_miss _ _ (by decide +kernel), look_miss _ _ (by decide +kernel), look_hit]
theorem sh_past : (shFs p y L Q).lookup ("past" : Str) = some (.ref Q) := by
  unfold shFs
  rw [look_miss _ _ (by decide +kernel), look_miss _ _ (by decide +kernel), look_miss _ _ (by decide +kernel), look_hit]
theorem sh_no {m : Str} (h1 : (m == "rows") = false) (h2 : (m == "style") = false) (h3 : (m == "lefts") = false) (h4 : (m == "past") = false) : (shFs p y L Q).lookup m = none := by
  unfold shFs
  rw [look_miss _ _ h1, look_miss _ _ h2, look_miss _ _ h3, look_miss _ _ h4]; rfl
theorem sh_back : (shFs p y L Q).lookup ("back" : Str) = none := sh_no p y L Q (by decide +kernel) (by decide +kernel) (by decide +kernel) (by decide +kernel)
end
theorem put_sh (a b c d : D) : putD "past" d (putD "lefts" c (putD "style" b (putD "rows" a []))) = ([("rows", a), ("style", b), ("lefts", c), ("past", d)] : List (Str × D)) := by
  simp only [putD, show ¬ (("rows" : Str) = "style") by decide +kernel, show ¬ (("rows" : Str) = "lefts") by decide +kernel, show ¬ (("rows" : Str) = "past") by decide +kernel, show ¬ (("style" : Str) = "lefts") by decide +kernel, show ¬ (("style" : Str) = "past") by decide +kernel, show ¬ (("lefts" : Str) = "past") by decide +kernel, if_false]
theorem set_self {S : Store} {c : Nat} {o o' : Ob} (h : S[c]? = some o') : (S.set c o)[c]? = some o := by
  rw [List.getElem?_set_self (List.getElem?_eq_some_iff.mp h).1]
theorem listG_of {st : Store} {d : D} {ds : List D} {w : List (Nat × List D)} (h : listOf st d = some (ds, w)) : listG false st [d] = .ok (.lst ds, st) := by
  unfold listOf at h
  split at h
  · cases h; simp [listG, lstOf, newL]
  · split at h
    · cases h
      rename_i e
      simp [listG, lstOf, e, newL]
    · cases h
  · cases h
/-- where the cells of some rows begin, kept -/
theorem lefts_ok {p : Page} (hp : okPage p = true) (y : Sty) {d : D} {w : List (Nat × List D)} {st : Store} (hd : listOf st d = some (encP p, w)) :
    ∃ k M1 n M2, m_all_stretches [d] st = .ok (.ref k, st ++ M1) ∧ m_begins_by [d, y.enc, .ref k] (st ++ M1) = .ok (.ref n, st ++ M1 ++ M2) ∧ st.length ≤ n ∧ Lays (st ++ M1 ++ M2) n p (bAt p y) := by
  obtain ⟨RR, more, ha, hR⟩ := all_stretches_ok hp hd
  have hd1 : listOf (st ++ .lst RR :: more) d = some (encP p, w) := listOf_stays (Stays.app _ _) hd
  obtain ⟨kvs, sb⟩ := begins_by_ok hp y hd1 (n := st.length) (RR := RR) (by simp) hR
  obtain ⟨m, e⟩ := lay_pre (st ++ .lst RR :: more) [.dT kvs] p (bAt p y)
  have la := lays_of ((st ++ .lst RR :: more) ++ [.dT kvs]) p (bAt p y)
  rw [e] at sb la
  refine ⟨_, _, _, _, ha, sb, by simp; omega, ?_⟩
  have : ((st ++ .lst RR :: more) ++ [Ob.dT kvs]).length = (st ++ .lst RR :: more).length + 1 := by simp; omega
  rwa [this] at la
theorem app_get (st : Store) (o : Ob) (M : Store) : (st ++ o :: M)[st.length]? = some o := by simp
theorem app_set (st : Store) (o o' : Ob) (M : Store) : (st ++ o :: M).set st.length o' = st ++ o' :: M := by simp
def m_Sheet_init : FV := funD 3 (d_Sheet_init m_need_page m_need_style m_begins_by m_all_stretches)
theorem Sheet_init_ok {p : Page} (hp : okPage p = true) {y : Sty} (hy : y.ok) {d : D} {w : List (Nat × List D)} {st : Store} (hd : listOf st d = some (encP p, w)) :
    ∃ M L Q, m_Sheet_init [.ref st.length, d, y.enc] (st ++ [.ins 13 []]) = .ok (.non, st ++ .ins 13 (shFs p y L Q) :: M) ∧ Lays (st ++ .ins 13 (shFs p y L Q) :: M) L p (bAt p y) ∧ (st ++ .ins 13 (shFs p y L Q) :: M)[Q]? = some (.lst []) ∧ st.length < L ∧ L + p.length < Q := by
  rw [m_Sheet_init, funD, d_Sheet_init]
  have hS : ∀ o M, listOf (st ++ o :: M) d = some (encP p, w) := fun o M => listOf_stays (Stays.app _ _) hd
  have np := need_page_ok (hS (.ins 13 []) []) hp
  have ns := need_style_ok hy (st ++ [.ins 13 []])
  have lg := listG_of (hS (.ins 13 []) [])
  obtain ⟨f1, hf1⟩ : ∃ f1, f1 = putD "rows" (.lst (encP p)) [] := ⟨_, rfl⟩
  obtain ⟨f2, hf2⟩ : ∃ f2, f2 = putD "style" y.enc f1 := ⟨_, rfl⟩
  have l1 : f1.length < 900 := by rw [hf1]; have := put_len "rows" (.lst (encP p)) []; simp at this; omega
  have l2 : f2.length < 900 := by rw [hf2, hf1]; have := put_len "style" y.enc (putD "rows" (.lst (encP p)) []); have := put_len "rows" (.lst (encP p)) []; simp at *; omega
  have r2 : f2.lookup ("rows" : Str) = some (.lst (encP p)) := by
    rw [hf2, hf1]
    simp only [putD, show ¬ (("rows" : Str) = "style") by decide +kernel, if_false]
    exact look_hit _ _ _
  obtain ⟨k, M1, n, M2, as, bb, hn, la⟩ := lefts_ok hp y (d := .lst (encP p)) (w := []) (st := st ++ [.ins 13 f2]) rfl
  obtain ⟨f3, hf3⟩ : ∃ f3, f3 = putD "lefts" (.ref n) f2 := ⟨_, rfl⟩
  have l3 : f3.length < 900 := by rw [hf3]; have := put_len "lefts" (.ref n) f2; rw [hf2, hf1] at *; have := put_len "style" y.enc (putD "rows" (.lst (encP p)) []); have := put_len "rows" (.lst (encP p)) []; simp at *; omega
  have e1 : st ++ [Ob.ins 13 f2] ++ M1 = st ++ .ins 13 f2 :: M1 := by simp
  have e2 : st ++ [Ob.ins 13 f2] ++ M1 ++ M2 = st ++ .ins 13 f2 :: (M1 ++ M2) := by simp
  rw [e1] at as bb
  rw [e2] at la
  rw [show st ++ Ob.ins 13 f2 :: M1 ++ M2 = st ++ .ins 13 f2 :: (M1 ++ M2) by simp] at bb
  have g1 := app_get st (.ins 13 []) []
  have g2 := app_get st (.ins 13 f1) []
  have g3 := app_get st (.ins 13 f2) []
  have g4 := app_get st (.ins 13 f2) (M1 ++ M2)
  have g5 := app_get st (.ins 13 f3) (M1 ++ M2 ++ [.lst []])
  have s1 := app_set st (.ins 13 []) (.ins 13 f1) []
  have s2 := app_set st (.ins 13 f1) (.ins 13 f2) []
  have s3 := app_set st (.ins 13 f2) (.ins 13 f3) (M1 ++ M2)
  obtain ⟨q, hq⟩ : ∃ q, q = (st ++ .ins 13 f3 :: (M1 ++ M2)).length := ⟨_, rfl⟩
  have e4 : st ++ Ob.ins 13 f3 :: (M1 ++ M2) ++ [.lst []] = st ++ .ins 13 f3 :: (M1 ++ M2 ++ [.lst []]) := by simp
  have hf4 : putD "past" (.ref q) f3 = shFs p y n q := by
    rw [hf3, hf2, hf1]; exact put_sh _ _ _ _
  have s4 := app_set st (.ins 13 f3) (.ins 13 (shFs p y n q)) (M1 ++ M2 ++ [.lst []])
  have ql : q = st.length + (M1.length + M2.length + 1) := by rw [hq]; simp
  refine ⟨M1 ++ M2 ++ [.lst []], n, q, ?_, ?_, ?_, ?_, ?_⟩
  · generalize hA : st ++ [Ob.ins 13 []] = A at *
    generalize hB : st ++ [Ob.ins 13 f1] = B at *
    generalize hC : st ++ [Ob.ins 13 f2] = C at *
    generalize hDD : st ++ Ob.ins 13 f2 :: M1 = DD at *
    generalize hE : st ++ Ob.ins 13 f2 :: (M1 ++ M2) = EE at *
    generalize hF : st ++ Ob.ins 13 f3 :: (M1 ++ M2) = FF at *
    generalize hG : st ++ Ob.ins 13 f3 :: (M1 ++ M2 ++ [.lst []]) = GG at *
    simp [np, ns, lg, g1, ← hf1, s1, g2, l1, ← hf2, s2, g3, r2, as, bb, g4, l2, ← hf3, s3, e4, ← hq, g5, l3, hf4, s4]
  · have key : ∀ (i : Nat) (o : Ob), st.length < i → (st ++ .ins 13 f2 :: (M1 ++ M2))[i]? = some o → (st ++ .ins 13 (shFs p y n q) :: (M1 ++ M2 ++ [.lst []]))[i]? = some o := fun i o hi e => by
      rw [List.getElem?_append_right (by omega)] at e ⊢
      obtain ⟨j, ej⟩ : ∃ j, i - st.length = j + 1 := ⟨i - st.length - 1, by omega⟩
      rw [ej] at e ⊢
      rw [List.getElem?_cons_succ] at e ⊢
      exact get_app e
    simp at hn
    exact ⟨key _ _ (by omega) la.1, fun k hk => key _ _ (by omega) (la.2 k hk)⟩
  · rw [ql, List.getElem?_append_right (by omega)]
    rw [show st.length + (M1.length + M2.length + 1) - st.length = M1.length + M2.length + 1 by omega, List.getElem?_cons_succ, List.getElem?_append_right (by simp)]
    simp
  · simp at hn; omega
  · have : (st ++ .ins 13 f2 :: (M1 ++ M2))[n]? = some _ := la.1
    by_cases z : p.length = 0
    · have := okPage_parts hp; omega
    · have h2 := la.2 (p.length - 1) (by omega)
      have := (List.getElem?_eq_some_iff.mp h2).1
      rw [ql]
      simp at this
      omega
end Dl
namespace Dl
open PySem L2
theorem set_same {S : Store} {c : Nat} {o : Ob} (h : S[c]? = some o) : S.set c o = S := by
  obtain ⟨hl, e⟩ := List.getElem?_eq_some_iff.mp h
  subst e
  exact List.set_getElem_self hl
/-- all objects stay -/
def Pre (S S' : Store) : Prop := ∀ (i : Nat) (o : Ob), S[i]? = some o → S'[i]? = some o
theorem Pre.app (S M : Store) : Pre S (S ++ M) := fun _ _ h => get_app h
theorem Pre.stays {S S' : Store} (h : Pre S S') : Stays S S' := fun i o e => h i _ e
theorem set_keep {S : Store} {c k : Nat} {o o' : Ob} (hne : k ≠ c) (h : S[k]? = some o) : (S.set c o')[k]? = some o := by
  rw [List.getElem?_set_ne (Ne.symm hne)]; exact h
theorem Lays.set {S : Store} {L c : Nat} {p : Page} {f : Nat → Nat → Int} {o : Ob} (h : Lays S L p f) (hc : c < L) : Lays (S.set c o) L p f :=
  ⟨set_keep (by omega) h.1, fun k hk => set_keep (by omega) (h.2 k hk)⟩
/-- a cursor at a place of a sheet -/
structure Cu (S : Store) (c n : Nat) (p : Page) (y : Sty) (L Q : Nat) (t : Pos3) : Prop where
  cu : S[c]? = some (.ins 14 (cuFs n t))
  sh : S[n]? = some (.ins 13 (shFs p y L Q))
  la : Lays S L p (bAt p y)
  pa : S[Q]? = some (.lst [])
  va : Valid p t
  cn : c < n
  nL : n < L
  LQ : L + p.length < Q
def mv (S : Store) (c n : Nat) (t : Pos3) : Store := S.set c (.ins 14 (cuFs n t))
section
variable {S : Store} {c n L Q : Nat} {p : Page} {y : Sty} {t : Pos3}
theorem Cu.same (h : Cu S c n p y L Q t) : mv S c n t = S := set_same h.cu
end
end Dl
namespace Dl
open PySem L2
section
variable {S : Store} {c n L Q : Nat} {p : Page} {y : Sty} {t : Pos3}
def m_Sheet_page : FV := funD 1 d_Sheet_page
theorem sh_page_ok {S : Store} {n : Nat} {p : Page} {y : Sty} {L Q : Nat} (h : S[n]? = some (.ins 13 (shFs p y L Q))) : m_Sheet_page [.ref n] S = .ok (.ref S.length, S ++ [.lst (encP p)]) := by
  rw [m_Sheet_page, funD, d_Sheet_page]
  simp [h, sh_rows, listG, lstOf]
def m_Sheet_back : FV := funD 1 (d_Sheet_back m_begins_by m_all_stretches)
end
end Dl
namespace Dl
open PySem L2
/-- Sheet_need_number: 3 slots, 3 parameters -/
def d_Sheet_need_number (m_is_number : FV) : SV := sIf (tNotD (tv (eCall 3 m_is_number (aCons (eV 1) (aCons (eC (.int 0)) (aCons (eV 2) (aNil))))))) (sRaise 3) (sNext)
/-- Sheet_turn_to: 8 slots, 3 parameters -/
def d_Sheet_turn_to (m_begins_by : FV) (m_all_stretches : FV) : SV := sCons (sAsg (eFld 13 "lefts" (eV 0)) (gN 3)) (sCons (sExpr (eMt "list" (appendG) (eFld 13 "past" (eV 0)) (aCons (eFld 13 "rows" (eV 0)) (aNil)))) (sCons (sFldD 13 "rows" (eV 0) (eV 1)) (sCons (sFldD 13 "lefts" (eV 0) (eCall 3 m_begins_by (aCons (eV 1) (aCons (eFld 13 "style" (eV 0)) (aCons (eCall 1 m_all_stretches (aCons (eV 1) (aNil))) (aNil)))))) (sCons (sAsg (eLst true (aNil)) (gN 4)) (sCons (sFor (iEn (aCons (eV 2) (aNil))) (gTp 2 (gsCons (gN 5) (gsCons (gN 6) (gsNil)))) (sIf (tv (eOp (isG true) (eV 6) (eC .non))) (sFor (iR1 (aCons (eB lenG (aCons (eOp ixG (eV 1) (eV 5)) (aNil))) (aNil))) (gN 7) (sIf (tv (eOp (eqG true) (eOp ixG (eOp ixG (eV 3) (eV 6)) (eV 7)) (eOp ixG (eOp ixG (eFld 13 "lefts" (eV 0)) (eV 5)) (eV 7)))) (sExpr (eMt "list" (appendG) (eV 4) (aCons (eTup (aCons (eV 5) (aCons (eV 7) (aCons (eOp ixG (eOp ixG (eV 3) (eV 6)) (eV 7)) (aCons (eOp ixG (eOp ixG (eFld 13 "lefts" (eV 0)) (eV 5)) (eV 7)) (aNil)))))) (aNil)))) (sNext))) (sNext))) (sRet (eV 4)))))))
/-- Sheet_put: 4 slots, 3 parameters -/
def d_Sheet_put (m_Sheet_need_number : FV) (m_need_row : FV) (m_Sheet_turn_to : FV) : SV := sCons (sExpr (eMeth 13 "need_number" 3 m_Sheet_need_number (eV 0) (aCons (eV 1) (aCons (eB lenG (aCons (eFld 13 "rows" (eV 0)) (aNil))) (aNil))))) (sCons (sExpr (eCall 1 m_need_row (aCons (eV 2) (aNil)))) (sCons (sIf (tv (eOp (eqG false) (eB lenG (aCons (eFld 13 "rows" (eV 0)) (aNil))) (eC (.int 30)))) (sRaise 3) (sNext)) (sCons (sAsg (eLR false (eB lenG (aCons (eFld 13 "rows" (eV 0)) (aNil)))) (gN 3)) (sRet (eMeth 13 "turn_to" 3 m_Sheet_turn_to (eV 0) (aCons (eOp (addG false) (eOp (addG false) (eSl false (eFld 13 "rows" (eV 0)) (poNone) (poSome (eV 1))) (eLst false (aCons (eV 2) (aNil)))) (eSl false (eFld 13 "rows" (eV 0)) (poSome (eV 1)) (poNone))) (aCons (eOp (addG false) (eOp (addG false) (eSl false (eV 3) (poNone) (poSome (eV 1))) (eLst false (aCons (eC .non) (aNil)))) (eSl false (eV 3) (poSome (eV 1)) (poNone))) (aNil))))))))
/-- Sheet_take: 3 slots, 2 parameters -/
def d_Sheet_take (m_Sheet_need_number : FV) (m_Sheet_turn_to : FV) : SV := sCons (sExpr (eMeth 13 "need_number" 3 m_Sheet_need_number (eV 0) (aCons (eV 1) (aCons (eOp subG (eB lenG (aCons (eFld 13 "rows" (eV 0)) (aNil))) (eC (.int 1))) (aNil))))) (sCons (sIf (tv (eOp (eqG false) (eB lenG (aCons (eFld 13 "rows" (eV 0)) (aNil))) (eC (.int 1)))) (sRaise 3) (sNext)) (sCons (sAsg (eLR false (eB lenG (aCons (eFld 13 "rows" (eV 0)) (aNil)))) (gN 2)) (sRet (eMeth 13 "turn_to" 3 m_Sheet_turn_to (eV 0) (aCons (eOp (addG false) (eSl false (eFld 13 "rows" (eV 0)) (poNone) (poSome (eV 1))) (eSl false (eFld 13 "rows" (eV 0)) (poSome (eOp (addG false) (eV 1) (eC (.int 1)))) (poNone))) (aCons (eOp (addG false) (eSl false (eV 2) (poNone) (poSome (eV 1))) (eSl false (eV 2) (poSome (eOp (addG false) (eV 1) (eC (.int 1)))) (poNone))) (aNil)))))))
/-- Sheet_change: 5 slots, 3 parameters -/
def d_Sheet_change (m_Sheet_need_number : FV) (m_need_row : FV) (m_Sheet_turn_to : FV) : SV := sCons (sExpr (eMeth 13 "need_number" 3 m_Sheet_need_number (eV 0) (aCons (eV 1) (aCons (eOp subG (eB lenG (aCons (eFld 13 "rows" (eV 0)) (aNil))) (eC (.int 1))) (aNil))))) (sCons (sExpr (eCall 1 m_need_row (aCons (eV 2) (aNil)))) (sCons (sAsg (eLR false (eB lenG (aCons (eFld 13 "rows" (eV 0)) (aNil)))) (gN 3)) (sCons (sAsg (eOp (addG false) (eOp (addG false) (eSl false (eFld 13 "rows" (eV 0)) (poNone) (poSome (eV 1))) (eLst false (aCons (eV 2) (aNil)))) (eSl false (eFld 13 "rows" (eV 0)) (poSome (eOp (addG false) (eV 1) (eC (.int 1)))) (poNone))) (gN 4)) (sRet (eMeth 13 "turn_to" 3 m_Sheet_turn_to (eV 0) (aCons (eV 4) (aCons (eOp (addG false) (eOp (addG false) (eSl false (eV 3) (poNone) (poSome (eV 1))) (eLst false (aCons (eC .non) (aNil)))) (eSl false (eV 3) (poSome (eOp (addG false) (eV 1) (eC (.int 1)))) (poNone))) (aNil))))))))
/-- Sheet_need_place: 4 slots, 4 parameters -/
def d_Sheet_need_place (m_Sheet_need_number : FV) (m_is_number : FV) : SV := sCons (sExpr (eMeth 13 "need_number" 3 m_Sheet_need_number (eV 0) (aCons (eV 1) (aCons (eOp subG (eB lenG (aCons (eFld 13 "rows" (eV 0)) (aNil))) (eC (.int 1))) (aNil))))) (sCons (sIf (tNotD (tv (eCall 3 m_is_number (aCons (eV 2) (aCons (eC (.int 0)) (aCons (eOp subG (eB lenG (aCons (eOp ixG (eFld 13 "rows" (eV 0)) (eV 1)) (aNil))) (eC (.int 1))) (aNil))))))) (sRaise 4) (sNext)) (sIf (tNotD (tv (eCall 3 m_is_number (aCons (eV 3) (aCons (eC (.int 0)) (aCons (eB lenG (aCons (eOp ixG (eOp ixG (eFld 13 "rows" (eV 0)) (eV 1)) (eV 2)) (aNil))) (aNil))))))) (sRaise 4) (sNext)))
/-- Sheet_strike_k10: 9 slots, 5 parameters -/
def d_Sheet_strike_k10 (m_Sheet_need_place : FV) (m_is_sign : FV) (m_is_cell : FV) (m_Sheet_change : FV) : SV := sCons (sExpr (eMeth 13 "need_place" 4 m_Sheet_need_place (eV 0) (aCons (eV 1) (aCons (eV 2) (aCons (eV 3) (aNil)))))) (sCons (sAsg (eOp ixG (eFld 13 "rows" (eV 0)) (eV 1)) (gN 5)) (sCons (sAsg (eOp ixG (eV 5) (eV 2)) (gN 6)) (sCons (sIf (tv (eOp (eqG false) (eV 4) (eC (.str [9])))) (sCons (sIf (tv (eOp (eqG false) (eB lenG (aCons (eV 5) (aNil))) (eC (.int 6)))) (sRaise 4) (sNext)) (sAsg (eTup (aCons (eSl false (eV 6) (poNone) (poSome (eV 3))) (aCons (eSl false (eV 6) (poSome (eV 3)) (poNone)) (aNil)))) (gN 7))) (sCons (sIf (tOrD (tNotD (tv (eIs "str" (eV 4)))) (tOrD (tv (eOp (eqG true) (eB lenG (aCons (eV 4) (aNil))) (eC (.int 1)))) (tNotD (tv (eCall 1 m_is_sign (aCons (eV 4) (aNil))))))) (sRaise 4) (sNext)) (sAsg (eTup (aCons (eOp (addG false) (eOp (addG false) (eSl false (eV 6) (poNone) (poSome (eV 3))) (eV 4)) (eSl false (eV 6) (poSome (eV 3)) (poNone))) (aNil))) (gN 7)))) (sCons (sIf (tv (eOp (eqG true) (eLc false (iSeq (eV 7)) [8] (.one 8) (tNotD (tv (eCall 1 m_is_cell (aCons (eV 8) (aNil))))) (eV 8)) (eLst false (aNil)))) (sRaise 4) (sNext)) (sRet (eMeth 13 "change" 3 m_Sheet_change (eV 0) (aCons (eV 1) (aCons (eOp (addG false) (eOp (addG false) (eSl false (eV 5) (poNone) (poSome (eV 2))) (eV 7)) (eSl false (eV 5) (poSome (eOp (addG false) (eV 2) (eC (.int 1)))) (poNone))) (aNil)))))))))
/-- Sheet_erase: 8 slots, 4 parameters -/
def d_Sheet_erase (m_Sheet_need_place : FV) (m_is_cell : FV) (m_Sheet_change : FV) : SV := sCons (sExpr (eMeth 13 "need_place" 4 m_Sheet_need_place (eV 0) (aCons (eV 1) (aCons (eV 2) (aCons (eV 3) (aNil)))))) (sCons (sAsg (eOp ixG (eFld 13 "rows" (eV 0)) (eV 1)) (gN 4)) (sCons (sAsg (eOp ixG (eV 4) (eV 2)) (gN 5)) (sCons (sIf (tv (eOp ltG (eV 3) (eB lenG (aCons (eV 5) (aNil))))) (sPar 6 7 (aCons (eOp (addG false) (eSl false (eV 5) (poNone) (poSome (eV 3))) (eSl false (eV 5) (poSome (eOp (addG false) (eV 3) (eC (.int 1)))) (poNone))) (aCons (eSl false (eV 4) (poSome (eOp (addG false) (eV 2) (eC (.int 1)))) (poNone)) (aNil)))) (sCons (sIf (tv (eOp (eqG false) (eV 2) (eOp subG (eB lenG (aCons (eV 4) (aNil))) (eC (.int 1))))) (sRaise 4) (sNext)) (sPar 6 7 (aCons (eOp (addG false) (eV 5) (eOp ixG (eV 4) (eOp (addG false) (eV 2) (eC (.int 1))))) (aCons (eSl false (eV 4) (poSome (eOp (addG false) (eV 2) (eC (.int 2)))) (poNone)) (aNil)))))) (sCons (sIf (tNotD (tv (eCall 1 m_is_cell (aCons (eV 6) (aNil))))) (sRaise 4) (sNext)) (sRet (eMeth 13 "change" 3 m_Sheet_change (eV 0) (aCons (eV 1) (aCons (eOp (addG false) (eOp (addG false) (eSl false (eV 4) (poNone) (poSome (eV 2))) (eTup (aCons (eV 6) (aNil)))) (eV 7)) (aNil)))))))))
/-- Sheet_part: 8 slots, 4 parameters -/
def d_Sheet_part (m_Sheet_need_place : FV) (m_Sheet_turn_to : FV) : SV := sCons (sExpr (eMeth 13 "need_place" 4 m_Sheet_need_place (eV 0) (aCons (eV 1) (aCons (eV 2) (aCons (eV 3) (aNil)))))) (sCons (sIf (tv (eOp (eqG false) (eB lenG (aCons (eFld 13 "rows" (eV 0)) (aNil))) (eC (.int 30)))) (sRaise 3) (sNext)) (sCons (sAsg (eOp ixG (eFld 13 "rows" (eV 0)) (eV 1)) (gN 4)) (sCons (sAsg (eLst false (aCons (eOp (addG false) (eSl false (eV 4) (poNone) (poSome (eV 2))) (eTup (aCons (eSl false (eOp ixG (eV 4) (eV 2)) (poNone) (poSome (eV 3))) (aNil)))) (aCons (eOp (addG false) (eTup (aCons (eSl false (eOp ixG (eV 4) (eV 2)) (poSome (eV 3)) (poNone)) (aNil))) (eSl false (eV 4) (poSome (eOp (addG false) (eV 2) (eC (.int 1)))) (poNone))) (aNil)))) (gN 5)) (sCons (sAsg (eLR false (eB lenG (aCons (eFld 13 "rows" (eV 0)) (aNil)))) (gN 6)) (sCons (sAsg (eOp (addG false) (eOp (addG false) (eSl false (eFld 13 "rows" (eV 0)) (poNone) (poSome (eV 1))) (eV 5)) (eSl false (eFld 13 "rows" (eV 0)) (poSome (eOp (addG false) (eV 1) (eC (.int 1)))) (poNone))) (gN 7)) (sRet (eMeth 13 "turn_to" 3 m_Sheet_turn_to (eV 0) (aCons (eV 7) (aCons (eOp (addG false) (eOp (addG false) (eSl false (eV 6) (poNone) (poSome (eV 1))) (eLst false (aCons (eC .non) (aCons (eC .non) (aNil))))) (eSl false (eV 6) (poSome (eOp (addG false) (eV 1) (eC (.int 1)))) (poNone))) (aNil))))))))))
/-- Sheet_unite: 7 slots, 2 parameters -/
def d_Sheet_unite (m_Sheet_need_number : FV) (m_is_cell : FV) (m_Sheet_turn_to : FV) : SV := sCons (sExpr (eMeth 13 "need_number" 3 m_Sheet_need_number (eV 0) (aCons (eV 1) (aCons (eOp subG (eB lenG (aCons (eFld 13 "rows" (eV 0)) (aNil))) (eC (.int 2))) (aNil))))) (sCons (sPar 2 3 (aCons (eOp ixG (eFld 13 "rows" (eV 0)) (eV 1)) (aCons (eOp ixG (eFld 13 "rows" (eV 0)) (eOp (addG false) (eV 1) (eC (.int 1)))) (aNil)))) (sCons (sAsg (eOp (addG false) (eOp ixG (eV 2) (eNeg (eC (.int 1)))) (eOp ixG (eV 3) (eC (.int 0)))) (gN 4)) (sCons (sIf (tOrD (tv (eOp gtG (eOp subG (eOp (addG false) (eB lenG (aCons (eV 2) (aNil))) (eB lenG (aCons (eV 3) (aNil)))) (eC (.int 1))) (eC (.int 6)))) (tNotD (tv (eCall 1 m_is_cell (aCons (eV 4) (aNil)))))) (sRaise 4) (sNext)) (sCons (sAsg (eLR false (eB lenG (aCons (eFld 13 "rows" (eV 0)) (aNil)))) (gN 5)) (sCons (sAsg (eOp (addG false) (eOp (addG false) (eSl false (eFld 13 "rows" (eV 0)) (poNone) (poSome (eV 1))) (eLst false (aCons (eOp (addG false) (eOp (addG false) (eSl false (eV 2) (poNone) (poSome (eNeg (eC (.int 1))))) (eTup (aCons (eV 4) (aNil)))) (eSl false (eV 3) (poSome (eC (.int 1))) (poNone))) (aNil)))) (eSl false (eFld 13 "rows" (eV 0)) (poSome (eOp (addG false) (eV 1) (eC (.int 2)))) (poNone))) (gN 6)) (sRet (eMeth 13 "turn_to" 3 m_Sheet_turn_to (eV 0) (aCons (eV 6) (aCons (eOp (addG false) (eOp (addG false) (eSl false (eV 5) (poNone) (poSome (eV 1))) (eLst false (aCons (eC .non) (aNil)))) (eSl false (eV 5) (poSome (eOp (addG false) (eV 1) (eC (.int 2)))) (poNone))) (aNil))))))))))
/-- need_row: 1 slots, 1 parameters -/
def d_need_row (m_is_row : FV) : SV := sIf (tNotD (tv (eCall 1 m_is_row (aCons (eV 0) (aNil))))) (sRaise 3) (sNext)
/-- law_drawn: 10 slots, 2 parameters -/
def d_law_drawn (m_law_take : FV) (m_law_row : FV) (m_law_sign : FV) : SV := sCons (sAsg (eCall 2 m_law_take (aCons (eV 0) (aCons (eB lenG (aCons (eV 1) (aNil))) (aNil)))) (gN 2)) (sCons (sAsg (eOp ixG (eV 1) (eV 2)) (gN 3)) (sCons (sAsg (eCall 2 m_law_take (aCons (eV 0) (aCons (eB lenG (aCons (eV 3) (aNil))) (aNil)))) (gN 4)) (sCons (sAsg (eOp ixG (eLst false (aCons (eCall 2 m_law_take (aCons (eV 0) (aCons (eOp (addG false) (eB lenG (aCons (eOp ixG (eV 3) (eV 4)) (aNil))) (eC (.int 1))) (aNil)))) (aCons (eB lenG (aCons (eOp ixG (eV 3) (eV 4)) (aNil))) (aNil)))) (eCall 2 m_law_take (aCons (eV 0) (aCons (eC (.int 2)) (aNil))))) (gN 5)) (sCons (sPar 6 7 (aCons (eCall 2 m_law_take (aCons (eV 0) (aCons (eC (.int 12)) (aNil)))) (aCons (eLc false (iR1 (aCons (eC (.int 6)) (aNil))) [9] (.one 9) (tYesD) (eCall 2 m_law_take (aCons (eV 0) (aCons (eC (.int 2)) (aNil))))) (aNil)))) (sCons (sIf (tv (eOp ltG (eV 6) (eC (.int 2)))) (sRet (eTup (aCons (eC (.str [112, 117, 116])) (aCons (eOp ixG (eLst false (aCons (eV 2) (aCons (eB lenG (aCons (eV 1) (aNil))) (aNil)))) (eCall 2 m_law_take (aCons (eV 0) (aCons (eC (.int 2)) (aNil))))) (aCons (eCall 3 m_law_row (aCons (eV 0) (aCons (eV 7) (aCons (eOp (addG false) (eC (.int 1)) (eCall 2 m_law_take (aCons (eV 0) (aCons (eC (.int 6)) (aNil))))) (aNil))))) (aNil)))))) (sNext)) (sCons (sIf (tv (eOp (eqG false) (eV 6) (eC (.int 2)))) (sRet (eTup (aCons (eC (.str [116, 97, 107, 101])) (aCons (eV 2) (aNil))))) (sNext)) (sCons (sIf (tv (eOp (eqG false) (eV 6) (eC (.int 3)))) (sCons (sAsg (eCall 3 m_law_row (aCons (eV 0) (aCons (eV 7) (aCons (eOp ixG (eLst false (aCons (eB lenG (aCons (eV 3) (aNil))) (aCons (eOp (addG false) (eC (.int 1)) (eCall 2 m_law_take (aCons (eV 0) (aCons (eC (.int 6)) (aNil))))) (aNil)))) (eCall 2 m_law_take (aCons (eV 0) (aCons (eC (.int 2)) (aNil))))) (aNil))))) (gN 8)) (sRet (eTup (aCons (eC (.str [99, 104, 97, 110, 103, 101])) (aCons (eV 2) (aCons (eOp ixG (eLst false (aCons (eV 8) (aCons (eV 8) (aCons (eV 3) (aNil))))) (eCall 2 m_law_take (aCons (eV 0) (aCons (eC (.int 3)) (aNil))))) (aNil))))))) (sNext)) (sCons (sIf (tv (eOp ltG (eV 6) (eC (.int 7)))) (sRet (eTup (aCons (eC (.str [115, 116, 114, 105, 107, 101])) (aCons (eV 2) (aCons (eV 4) (aCons (eV 5) (aCons (eOp ixG (eLst false (aCons (eC (.str [9])) (aCons (eOp ixG (eC (.str [48, 49, 50, 51, 52, 53, 54, 55, 56, 57])) (eCall 2 m_law_take (aCons (eV 0) (aCons (eC (.int 10)) (aNil))))) (aCons (eCall 1 m_law_sign (aCons (eV 0) (aNil))) (aNil))))) (eOp subG (eV 6) (eC (.int 4)))) (aNil)))))))) (sNext)) (sCons (sIf (tv (eOp ltG (eV 6) (eC (.int 9)))) (sRet (eTup (aCons (eC (.str [101, 114, 97, 115, 101])) (aCons (eV 2) (aCons (eV 4) (aCons (eV 5) (aNil))))))) (sNext)) (sCons (sIf (tv (eOp ltG (eV 6) (eC (.int 11)))) (sRet (eOp ixG (eLst false (aCons (eTup (aCons (eC (.str [112, 97, 114, 116])) (aCons (eV 2) (aCons (eV 4) (aCons (eV 5) (aNil)))))) (aCons (eTup (aCons (eC (.str [117, 110, 105, 116, 101])) (aCons (eV 2) (aNil)))) (aNil)))) (eOp subG (eV 6) (eC (.int 9))))) (sNext)) (sRet (eTup (aCons (eC (.str [98, 97, 99, 107])) (aNil))))))))))))))
/-- law_do: 3 slots, 2 parameters -/
def d_law_do (m_Sheet_put : FV) (m_Sheet_take : FV) (m_Sheet_change : FV) (m_Sheet_strike_k10 : FV) (m_Sheet_erase : FV) (m_Sheet_part : FV) (m_Sheet_unite : FV) (m_Sheet_back : FV) : SV := sCons (sAsg (eOp ixG (eV 1) (eC (.int 0))) (gN 2)) (sCons (sIf (tv (eOp (eqG false) (eV 2) (eC (.str [112, 117, 116])))) (sRet (eMeth 13 "put" 3 m_Sheet_put (eV 0) (aCons (eOp ixG (eV 1) (eC (.int 1))) (aCons (eOp ixG (eV 1) (eC (.int 2))) (aNil))))) (sNext)) (sCons (sIf (tv (eOp (eqG false) (eV 2) (eC (.str [116, 97, 107, 101])))) (sRet (eMeth 13 "take" 2 m_Sheet_take (eV 0) (aCons (eOp ixG (eV 1) (eC (.int 1))) (aNil)))) (sNext)) (sCons (sIf (tv (eOp (eqG false) (eV 2) (eC (.str [99, 104, 97, 110, 103, 101])))) (sRet (eMeth 13 "change" 3 m_Sheet_change (eV 0) (aCons (eOp ixG (eV 1) (eC (.int 1))) (aCons (eOp ixG (eV 1) (eC (.int 2))) (aNil))))) (sNext)) (sCons (sIf (tv (eOp (eqG false) (eV 2) (eC (.str [115, 116, 114, 105, 107, 101])))) (sRet (eMeth 13 "strike" 5 m_Sheet_strike_k10 (eV 0) (aCons (eOp ixG (eV 1) (eC (.int 1))) (aCons (eOp ixG (eV 1) (eC (.int 2))) (aCons (eOp ixG (eV 1) (eC (.int 3))) (aCons (eOp ixG (eV 1) (eC (.int 4))) (aNil))))))) (sNext)) (sCons (sIf (tv (eOp (eqG false) (eV 2) (eC (.str [101, 114, 97, 115, 101])))) (sRet (eMeth 13 "erase" 4 m_Sheet_erase (eV 0) (aCons (eOp ixG (eV 1) (eC (.int 1))) (aCons (eOp ixG (eV 1) (eC (.int 2))) (aCons (eOp ixG (eV 1) (eC (.int 3))) (aNil)))))) (sNext)) (sCons (sIf (tv (eOp (eqG false) (eV 2) (eC (.str [112, 97, 114, 116])))) (sRet (eMeth 13 "part" 4 m_Sheet_part (eV 0) (aCons (eOp ixG (eV 1) (eC (.int 1))) (aCons (eOp ixG (eV 1) (eC (.int 2))) (aCons (eOp ixG (eV 1) (eC (.int 3))) (aNil)))))) (sNext)) (sRet (eIf (tv (eOp (eqG false) (eV 2) (eC (.str [117, 110, 105, 116, 101])))) (eMeth 13 "unite" 2 m_Sheet_unite (eV 0) (aCons (eOp ixG (eV 1) (eC (.int 1))) (aNil))) (eMeth 13 "back" 1 m_Sheet_back (eV 0) aNil)))))))))
/-- law_told: 3 slots, 2 parameters -/
def d_law_told (m_law_do : FV) : SV := sCons (sAsg (eC .non) (gN 2)) (sCons (sTry [3, 4] 3 (sAsg (eCall 2 m_law_do (aCons (eV 0) (aCons (eV 1) (aNil)))) (gN 2)) (sAsg (eC (.str [114, 101, 102, 117, 115, 101, 100])) (gN 2))) (sRet (eV 2)))
end Dl
namespace Dl
open PySem L2
def pagesD (ps : List Page) : List D := ps.map fun q => .lst (encP q)
/-- a sheet in the store -/
structure Sht (S : Store) (n : Nat) (p : Page) (y : Sty) (L Q : Nat) (ps : List Page) : Prop where
  sh : S[n]? = some (.ins 13 (shFs p y L Q))
  la : Lays S L p (bAt p y)
  pa : S[Q]? = some (.lst (pagesD ps))
  nL : n < L
  nQ : n < Q
  LQ : Q < L ∨ L + p.length < Q
theorem put_rows (p q : Page) (y : Sty) (L Q : Nat) : putD "rows" (.lst (encP q)) (shFs p y L Q) = shFs q y L Q := by
  simp only [shFs, putD, if_true]
theorem put_lefts (p : Page) (y : Sty) (L L' Q : Nat) : putD "lefts" (.ref L') (shFs p y L Q) = shFs p y L' Q := by
  simp only [shFs, putD, show ¬ (("rows" : Str) = "lefts") by decide +kernel, show ¬ (("style" : Str) = "lefts") by decide +kernel, if_false, if_true]
theorem sh_len (p : Page) (y : Sty) (L Q : Nat) : (shFs p y L Q).length = 4 := rfl
/-- what is told of a row -/
def mvRow (p : Page) (y : Sty) (q : Page) (k e n : Nat) : List D := ((List.range n).filter fun c => !decide (bAt p y e c = bAt q y k c)).map fun (c : Nat) => D.tup [.int k, .int c, .int (bAt p y e c), .int (bAt q y k c)]
def mvOne (p : Page) (y : Sty) (q : Page) (k : Nat) : Option Nat → List D
  | none => []
  | some e => mvRow p y q k e (cellsIn q k)
def mvTo (p : Page) (y : Sty) (q : Page) (o : List (Option Nat)) (n : Nat) : List D := (List.range n).flatMap fun k => mvOne p y q k (o.getD k none)
def mvAll (p : Page) (y : Sty) (q : Page) (o : List (Option Nat)) : List D := mvTo p y q o o.length
theorem mvRow_succ (p : Page) (y : Sty) (q : Page) (k e n : Nat) : mvRow p y q k e (n + 1) = mvRow p y q k e n ++ (if bAt p y e n = bAt q y k n then [] else [.tup [.int k, .int n, .int (bAt p y e n), .int (bAt q y k n)]]) := by
  unfold mvRow
  rw [List.range_succ, List.filter_append, List.map_append]
  by_cases h : bAt p y e n = bAt q y k n
  · simp [h]
  · simp [h]
theorem mvRow_le (p : Page) (y : Sty) (q : Page) (k e n : Nat) : (mvRow p y q k e n).length ≤ n := by
  unfold mvRow
  rw [List.length_map]
  exact Nat.le_trans (List.length_filter_le _ _) (by simp)
theorem mvTo_succ (p : Page) (y : Sty) (q : Page) (o : List (Option Nat)) (n : Nat) : mvTo p y q o (n + 1) = mvTo p y q o n ++ mvOne p y q n (o.getD n none) := by
  unfold mvTo
  rw [List.range_succ, List.flatMap_append]; simp
def encO : Option Nat → D
  | none => .non
  | some e => .int e
/-- which rows were there -/
def OrigOk (p q : Page) (o : List (Option Nat)) : Prop := o.length = q.length ∧ ∀ k e, o[k]? = some (some e) → e < p.length ∧ cellsIn p e = cellsIn q k
theorem mvTo_le {p q : Page} {y : Sty} {o : List (Option Nat)} (hq : okPage q = true) (ho : OrigOk p q o) : ∀ n, n ≤ o.length → (mvTo p y q o n).length ≤ 6 * n
  | 0, _ => by simp [mvTo]
  | n + 1, h => by
    rw [mvTo_succ, List.length_append]
    have a := mvTo_le (y := y) hq ho n (by omega)
    have b : (mvOne p y q n (o.getD n none)).length ≤ 6 := by
      cases o.getD n none with
      | none => simp [mvOne]
      | some e =>
        have h1 := mvRow_le p y q n e (cellsIn q n)
        have h2 := (cellsIn_le hq (k := n) (by have := ho.1; omega)).2
        show (mvRow p y q n e (cellsIn q n)).length ≤ 6
        omega
    omega
def m_Sheet_turn_to : FV := funD 8 (d_Sheet_turn_to m_begins_by m_all_stretches)
theorem turn_to_ok {S : Store} {n L Q : Nat} {p q : Page} {y : Sty} {ps : List Page} {o : List (Option Nat)} (h : Sht S n p y L Q ps) (hp : okPage p = true) (hq : okPage q = true) (hl : ps.length < 1000) (ho : OrigOk p q o) :
    ∃ S' L' F, m_Sheet_turn_to [.ref n, .lst (encP q), .lst (o.map encO)] S = .ok (.ref F, S') ∧ Sht S' n q y L' Q (ps ++ [p]) ∧ S'[F]? = some (.lst (mvAll p y q o)) ∧ S.length ≤ F ∧ F ≠ Q ∧ F ≠ n ∧ (F < L' ∨ L' + q.length < F) ∧ S.length ≤ L' ∧
      (∀ i ob, i ≠ n → i ≠ Q → S[i]? = some ob → S'[i]? = some ob) ∧ S.length ≤ S'.length := by
  rw [m_Sheet_turn_to, funD, d_Sheet_turn_to]
  obtain ⟨p1, p2, p3⟩ := okPage_parts hp
  obtain ⟨q1, q2, q3⟩ := okPage_parts hq
  have nL := h.nL
  have nQ := h.nQ
  have LQ := h.LQ
  have nS : n < S.length := (List.getElem?_eq_some_iff.mp h.sh).1
  have QS : Q < S.length := (List.getElem?_eq_some_iff.mp h.pa).1
  have LS : L + p.length < S.length := by
    have := (List.getElem?_eq_some_iff.mp (h.la.2 (p.length - 1) (by omega))).1
    omega
  obtain ⟨S1, hS1⟩ : ∃ S1, S1 = S.set Q (.lst (pagesD (ps ++ [p]))) := ⟨_, rfl⟩
  have k1 : ∀ (i : Nat) (ob : Ob), i ≠ Q → S[i]? = some ob → S1[i]? = some ob := fun i ob hi e => by rw [hS1]; exact set_keep hi e
  have ll : (pagesD ps).length < LIM := lt_LIM (by simp [pagesD]; omega)
  have ap : appendG S (.ref Q) [.lst (encP p)] = .ok (.non, S1) := by
    simp only [appendG, h.pa, ll, if_true]
    rw [hS1]; simp [pagesD]
  have tyQ : tyM S (.ref Q) = some "list" := by simp only [tyM, h.pa]
  have g1 := k1 _ _ (by omega) h.sh
  obtain ⟨S2, hS2⟩ : ∃ S2, S2 = S1.set n (.ins 13 (shFs q y L Q)) := ⟨_, rfl⟩
  have k2 : ∀ (i : Nat) (ob : Ob), i ≠ n → S1[i]? = some ob → S2[i]? = some ob := fun i ob hi e => by rw [hS2]; exact set_keep hi e
  have g2 : S2[n]? = some (.ins 13 (shFs q y L Q)) := by rw [hS2]; exact set_self g1
  have len2 : S2.length = S.length := by rw [hS2, hS1]; simp
  obtain ⟨k, M1, L', M2, as, bb, hL, la⟩ := lefts_ok hq y (d := .lst (encP q)) (w := []) (st := S2) rfl
  rw [len2] at hL
  obtain ⟨S3, hS3⟩ : ∃ S3, S3 = S2 ++ M1 := ⟨_, rfl⟩
  obtain ⟨S4, hS4⟩ : ∃ S4, S4 = S3 ++ M2 := ⟨_, rfl⟩
  rw [← hS3] at as bb la
  rw [← hS4] at bb la
  have g3 : S3[n]? = some (.ins 13 (shFs q y L Q)) := by rw [hS3]; exact get_app g2
  have g4 : S4[n]? = some (.ins 13 (shFs q y L Q)) := by rw [hS4]; exact get_app g3
  obtain ⟨S5, hS5⟩ : ∃ S5, S5 = S4.set n (.ins 13 (shFs q y L' Q)) := ⟨_, rfl⟩
  have g5 : S5[n]? = some (.ins 13 (shFs q y L' Q)) := by rw [hS5]; exact set_self g4
  have k5 : ∀ (i : Nat) (ob : Ob), i ≠ n → S4[i]? = some ob → S5[i]? = some ob := fun i ob hi e => by rw [hS5]; exact set_keep hi e
  have kk : ∀ (i : Nat) (ob : Ob), i ≠ n → i ≠ Q → S[i]? = some ob → S5[i]? = some ob := fun i ob h1 h2 e => k5 _ _ h1 (by rw [hS4, hS3]; exact get_app (get_app (k2 _ _ h1 (k1 _ _ h2 e))))
  have la5 : Lays S5 L' q (bAt q y) := ⟨k5 _ _ (by omega) la.1, fun k hk => k5 _ _ (by omega) (la.2 k hk)⟩
  have lo5 : Lays S5 L p (bAt p y) := ⟨kk _ _ (by omega) (by omega) h.la.1, fun k hk => kk _ _ (by omega) (by omega) (h.la.2 k hk)⟩
  have pa5 : S5[Q]? = some (.lst (pagesD (ps ++ [p]))) := k5 _ _ (by omega) (by rw [hS4, hS3]; exact get_app (get_app (k2 _ _ (by omega) (by rw [hS1]; exact set_self h.pa))))
  obtain ⟨F, hF⟩ : ∃ F, F = S5.length := ⟨_, rfl⟩
  have lenF : S.length ≤ F ∧ L' + q.length < F := by
    have h1 := (List.getElem?_eq_some_iff.mp (la5.2 (q.length - 1) (by omega))).1
    have h2 : S5.length = S4.length := by rw [hS5]; simp
    have h3 : S.length ≤ S4.length := by rw [hS4, hS3, List.length_append, List.length_append, len2]; omega
    omega
  have get6 : ∀ (X : List D) (i : Nat) (ob : Ob), S5[i]? = some ob → (S5 ++ [.lst X])[i]? = some ob := fun X i ob e => get_app e
  have lq : ∀ st : Store, lenG st [.lst (encP q)] = .ok (.int q.length, st) := fun st => by
    have := len_list (st := st) (d := .lst (encP q)) (w := (encP q, [])) rfl
    rwa [encP_len] at this
  refine ⟨S5 ++ [.lst (mvAll p y q o)], L', F, ?_, ⟨get6 _ _ _ g5, ⟨get6 _ _ _ la5.1, fun k hk => get6 _ _ _ (la5.2 k hk)⟩, get6 _ _ _ pa5, by omega, nQ, .inl (by omega)⟩, by rw [hF]; simp, by omega, by omega, by omega, by omega, hL, fun i ob h1 h2 e => get6 _ _ _ (kk i ob h1 h2 e), by rw [List.length_append]; omega⟩
  have z4 : ∀ p L, (shFs p y L Q).length = 4 := fun p L => sh_len _ _ _ _
  simp [h.sh, sh_lefts, sh_past, sh_rows, tyQ, ap, g1, z4, put_rows, ← hS2, g2, sh_style, as, bb, g3, g4, put_lefts, ← hS5, ← hF, listOf]
  generalize q0 : forGo _ _ _ _ _ _ = r
  obtain ⟨e, s, rfl, rfl, a5, a6, a7, rfl⟩ := for_at q0 (fun i env st' => st' = S5 ++ [Ob.lst (mvTo p y q o i)] ∧ ∃ (a5 a6 a7 : Option D), env = [some (.ref n), some (.lst (encP q)), some (.lst (o.map encO)), some (.ref L), some (.ref F), a5, a6, a7]) ⟨by simp [mvTo], none, none, none, rfl⟩ (fun _ _ _ _ _ => rfl) (fun i x env st' hi ⟨e1, a5, a6, a7, e2⟩ => by
    obtain ⟨z, hz, rfl⟩ := pairUp_at hi
    have hil : i < o.length := by
      have := (List.getElem?_eq_some_iff.mp hz).1
      simpa using this
    rw [List.getElem?_map, List.getElem?_eq_getElem hil] at hz
    cases hz
    subst e1 e2
    rw [mvTo_succ]
    have ho' : o.getD i none = o[i] := by simp [hil]
    have hiq : i < q.length := by have := ho.1; omega
    rw [ho']
    cases hoi : o[i] with
    | none =>
      refine turn_eq (e := [some (.ref n), some (.lst (encP q)), some (.lst (o.map encO)), some (.ref L), some (.ref F), some (.int i), some .non, a7]) (s := S5 ++ [Ob.lst (mvTo p y q o i)]) ?_ ⟨by simp [mvOne], _, _, _, rfl⟩
      simp [encO, isG]
    | some el =>
      obtain ⟨hel, hce⟩ := ho.2 i el (by rw [List.getElem?_eq_getElem hil, hoi])
      have cl := cellsIn_le hq hiq
      have ml := mvTo_le hq ho i (Nat.le_of_lt hil) (y := y)
      obtain ⟨rr, i1, _, i3⟩ := ixC (Z := S5 ++ [Ob.lst (mvTo p y q o i)]) (d := .lst (encP q)) (w := []) rfl hiq (c := 0) (by omega)
      have m1 : -1000000 ≤ (cellsIn q i : Int) ∧ (cellsIn q i : Int) ≤ 1000000 := by omega
      obtain ⟨rq, hrq⟩ : ∃ rq, rq = D.lst (encP q) := ⟨_, rfl⟩
      rw [← hrq] at i1 ⊢
      simp [encO, isG, i1, i3, m1, -ix_lst]
      generalize q0 : forGo _ _ _ _ _ _ = r
      obtain ⟨e, s, rfl, rfl, a7', rfl⟩ := for_at q0 (fun j env st' => st' = S5 ++ [Ob.lst (mvTo p y q o i ++ mvRow p y q i el j)] ∧ ∃ (a7 : Option D), env = [some (.ref n), some rq, some (.lst (o.map encO)), some (.ref L), some (.ref F), some (.int i), some (.int el), a7]) ⟨by simp [mvRow], a7, rfl⟩ (fun _ _ _ _ _ => rfl) (fun j x env st' hj ⟨e1, a7, e2⟩ => by
        obtain ⟨hj2, rfl⟩ := ints_getL hj
        obtain ⟨S6, hS6'⟩ : ∃ S6, S6 = st' := ⟨_, rfl⟩
        rw [← hS6'] at e1 ⊢
        have hS6 := e1
        subst e2
        have lo6 : Lays S6 L p (bAt p y) := by rw [hS6]; exact ⟨get6 _ _ _ lo5.1, fun k hk => get6 _ _ _ (lo5.2 k hk)⟩
        have la6 : Lays S6 L' q (bAt q y) := by rw [hS6]; exact ⟨get6 _ _ _ la5.1, fun k hk => get6 _ _ _ (la5.2 k hk)⟩
        have g6 : S6[n]? = some (.ins 13 (shFs q y L' Q)) := by rw [hS6]; exact get6 _ _ _ g5
        have gF : S6[F]? = some (.lst (mvTo p y q o i ++ mvRow p y q i el j)) := by rw [hS6, hF]; simp
        have tyF : tyM S6 (.ref F) = some "list" := by simp only [tyM, gF]
        have mr := mvRow_le p y q i el j
        have llF : (mvTo p y q o i ++ mvRow p y q i el j).length < LIM := lt_LIM (by have := ho.1; rw [List.length_append]; omega)
        have x1 := lo6.ixF hel
        have x2 := lo6.ixR hel (c := j) (by omega)
        have x3 := la6.ixF hiq
        have x4 := la6.ixR hiq (c := j) hj2
        have nei : ∀ a b : Int, eqG true S6 (.int a) (.int b) = .ok (.bl (!decide (a = b)), S6) := fun a b => by rw [eqG_pl (by simp) (by simp) (by simp) (by simp)]; simp
        have ap6 : ∀ v : D, appendG S6 (.ref F) [v] = .ok (.non, S5 ++ [Ob.lst (mvTo p y q o i ++ mvRow p y q i el j ++ [v])]) := fun v => by
          simp only [appendG, gF, llF, if_true]
          rw [hS6, hF]; simp
        rw [mvRow_succ]
        by_cases z : bAt p y el j = bAt q y i j
        · refine turn_eq (e := [some (.ref n), some rq, some (.lst (o.map encO)), some (.ref L), some (.ref F), some (.int i), some (.int el), some (.int j)]) (s := S6) ?_ ⟨by rw [hS6, if_pos z, List.append_nil], _, rfl⟩
          simp [x1, x2, g6, sh_lefts, x3, x4, nei, z]
        · refine turn_eq (e := [some (.ref n), some rq, some (.lst (o.map encO)), some (.ref L), some (.ref F), some (.int i), some (.int el), some (.int j)]) (s := S5 ++ [Ob.lst (mvTo p y q o i ++ mvRow p y q i el j ++ [.tup [.int i, .int j, .int (bAt p y el j), .int (bAt q y i j)]])]) ?_ ⟨by rw [if_neg z, List.append_assoc], _, rfl⟩
          simp [x1, x2, g6, sh_lefts, x3, x4, nei, z, tyF, ap6])
      refine ⟨?_, _, _, a7', rfl⟩
      rw [intsD_len]
      rfl)
  simp [mvAll, pairUp_len]
end Dl
namespace Dl
open PySem L2
inductive Deed where
  | put (k : Nat) (r : Row) | take (k : Nat) | change (k : Nat) (r : Row) | strike (k c e : Nat) (s : List Nat) | erase (k c e : Nat) | part (k c e : Nat) | unite (k : Nat) | back
/-- a piece of l, from k on up to j, is m -/
def spl {A : Type} (l : List A) (k : Nat) (m : List A) (j : Nat) : List A := l.take k ++ m ++ l.drop j
def everyN (n : Nat) : List (Option Nat) := (List.range n).map some
def rowAt (p : Page) (k : Nat) : Row := p.getD k []
/-- which rows stand for which: (from, the new ones, up to) -/
def editOf (p : Page) : Deed → Option (Nat × List Row × Nat)
  | .put k r => if p.length = 30 then none else some (k, [r], k)
  | .take k => if p.length = 1 then none else some (k, [], k + 1)
  | .change k r => some (k, [r], k + 1)
  | .strike k c e s =>
    if s = [9] then (if cellsIn p k = 6 then none else some (k, [spl (rowAt p k) c [(cellAt p k c).take e, (cellAt p k c).drop e] (c + 1)], k + 1))
    else if (cellAt p k c).length = 10 then none else some (k, [spl (rowAt p k) c [(cellAt p k c).take e ++ s ++ (cellAt p k c).drop e] (c + 1)], k + 1)
  | .erase k c e =>
    if e < (cellAt p k c).length then some (k, [spl (rowAt p k) c [(cellAt p k c).take e ++ (cellAt p k c).drop (e + 1)] (c + 1)], k + 1)
    else if c + 1 = cellsIn p k then none else if 10 < (cellAt p k c ++ cellAt p k (c + 1)).length then none else some (k, [spl (rowAt p k) c [cellAt p k c ++ cellAt p k (c + 1)] (c + 2)], k + 1)
  | .part k c e => if p.length = 30 then none else some (k, [(rowAt p k).take c ++ [(cellAt p k c).take e], (cellAt p k c).drop e :: (rowAt p k).drop (c + 1)], k + 1)
  | .unite k =>
    if k + 1 = p.length then none
    else if 6 < cellsIn p k + cellsIn p (k + 1) - 1 ∨ 10 < (cellAt p k (cellsIn p k - 1) ++ cellAt p (k + 1) 0).length then none
    else some (k, [(rowAt p k).dropLast ++ [cellAt p k (cellsIn p k - 1) ++ cellAt p (k + 1) 0] ++ (rowAt p (k + 1)).drop 1], k + 2)
  | .back => none
def editD (p : Page) (x : Nat × List Row × Nat) : Page × List (Option Nat) := (spl p x.1 x.2.1 x.2.2, spl (everyN p.length) x.1 (List.replicate x.2.1.length none) x.2.2)
/-- a deed that the law draws -/
def DeedOk (p : Page) : Deed → Prop
  | .put k r => k ≤ p.length ∧ okRow r = true
  | .take k => k < p.length
  | .change k r => k < p.length ∧ okRow r = true
  | .strike k c e s => Valid p (k, c, e) ∧ (s = [9] ∨ ∃ x, s = [x] ∧ okSign x = true)
  | .erase k c e => Valid p (k, c, e)
  | .part k c e => Valid p (k, c, e)
  | .unite k => k < p.length
  | .back => True
def EditOk (p : Page) (x : Nat × List Row × Nat) : Prop := x.1 ≤ x.2.2 ∧ x.2.2 ≤ p.length ∧ (∀ r ∈ x.2.1, okRow r = true) ∧ 1 ≤ p.length - (x.2.2 - x.1) + x.2.1.length ∧ p.length - (x.2.2 - x.1) + x.2.1.length ≤ 30
theorem edit_mk {p : Page} {k j : Nat} {rs : List Row} (h1 : k ≤ j) (h2 : j ≤ p.length) (h3 : ∀ r ∈ rs, okRow r = true) (h4 : 1 ≤ p.length - (j - k) + rs.length) (h5 : p.length - (j - k) + rs.length ≤ 30) : EditOk p (k, rs, j) := ⟨h1, h2, h3, h4, h5⟩
theorem spl_len {A : Type} {l m : List A} {k j : Nat} (h : k ≤ j) (hj : j ≤ l.length) : (spl l k m j).length = l.length - (j - k) + m.length := by
  unfold spl
  rw [List.length_append, List.length_append, List.length_take, List.length_drop, Nat.min_eq_left (by omega)]
  omega
theorem spl_get {A : Type} {l m : List A} {k j : Nat} (h : k ≤ j) (hj : j ≤ l.length) (i : Nat) : (spl l k m j)[i]? = if i < k then l[i]? else if i < k + m.length then m[i - k]? else l[j + (i - (k + m.length))]? := by
  unfold spl
  have hk : (l.take k).length = k := by rw [List.length_take]; omega
  by_cases a : i < k
  · rw [if_pos a, List.append_assoc, List.getElem?_append_left (by omega), List.getElem?_take_of_lt a]
  · rw [if_neg a]
    by_cases b : i < k + m.length
    · rw [if_pos b, List.getElem?_append_left (by rw [List.length_append, hk]; exact b), List.getElem?_append_right (by omega), hk]
    · rw [if_neg b, List.getElem?_append_right (by rw [List.length_append, hk]; omega), List.length_append, hk, List.getElem?_drop]
theorem every_get (n i : Nat) : (everyN n)[i]? = if i < n then some (some i) else none := by
  unfold everyN
  rw [List.getElem?_map]
  by_cases h : i < n
  · rw [if_pos h, List.getElem?_range h]; rfl
  · rw [if_neg h, List.getElem?_eq_none (by simpa using h)]; rfl
theorem every_len (n : Nat) : (everyN n).length = n := by simp [everyN]
theorem edit_ok {p : Page} (hp : okPage p = true) {x : Nat × List Row × Nat} (h : EditOk p x) : okPage (editD p x).1 = true ∧ OrigOk p (editD p x).1 (editD p x).2 := by
  obtain ⟨k, rs, j⟩ := x
  obtain ⟨h1, h2, h3, h4, h5⟩ := h
  obtain ⟨p1, p2, p3⟩ := okPage_parts hp
  simp only at h1 h2 h3 h4 h5
  have l1 : (spl p k rs j).length = p.length - (j - k) + rs.length := spl_len h1 h2
  have l2 : (spl (everyN p.length) k (List.replicate rs.length none) j).length = p.length - (j - k) + rs.length := by
    have := spl_len (l := everyN p.length) (m := List.replicate rs.length none) h1 (by rw [every_len]; exact h2)
    rw [this, every_len, List.length_replicate]
  refine ⟨okPage_mk (by show 1 ≤ (spl p k rs j).length; omega) (by show (spl p k rs j).length ≤ 30; omega) fun r hr => ?_, l2.trans l1.symm, fun i e he => ?_⟩
  · have hr : r ∈ p.take k ++ rs ++ p.drop j := hr
    rcases List.mem_append.mp hr with hr | hr
    · rcases List.mem_append.mp hr with hr | hr
      · exact p3 r (List.mem_of_mem_take hr)
      · exact h3 r hr
    · exact p3 r (List.mem_of_mem_drop hr)
  · have he : (spl (everyN p.length) k (List.replicate rs.length none) j)[i]? = some (some e) := he
    rw [spl_get h1 (by rw [every_len]; exact h2)] at he
    have key : ∀ e', (spl p k rs j)[i]? = p[e']? → cellsIn p e' = cellsIn (spl p k rs j) i := fun e' hh => by
      unfold cellsIn
      rw [List.getD_eq_getElem?_getD, List.getD_eq_getElem?_getD, hh]
    have pg := spl_get (m := rs) h1 h2 i
    by_cases a : i < k
    · rw [if_pos a, every_get] at he
      rw [if_pos a] at pg
      split at he
      · cases he
        exact ⟨by assumption, key _ pg⟩
      · cases he
    · rw [if_neg a, List.length_replicate] at he
      rw [if_neg a] at pg
      by_cases b : i < k + rs.length
      · rw [if_pos b, List.getElem?_replicate] at he
        split at he <;> cases he
      · rw [if_neg b, every_get] at he
        rw [if_neg b] at pg
        split at he
        · cases he
          exact ⟨by assumption, key _ pg⟩
        · cases he
theorem okRow_mk {r : Row} (h1 : 1 ≤ r.length) (h2 : r.length ≤ 6) (h3 : ∀ c ∈ r, okCell c = true) : okRow r = true := by
  unfold okRow
  simp only [Bool.and_eq_true, decide_eq_true_eq, List.all_eq_true]
  exact ⟨⟨h1, h2⟩, h3⟩
theorem okCell_mk {s : List Nat} (h1 : s.length ≤ 10) (h2 : ∀ c ∈ s, okSign c = true) : okCell s = true := by
  unfold okCell
  simp only [Bool.and_eq_true, decide_eq_true_eq, List.all_eq_true]
  exact ⟨h1, h2⟩
theorem okCell_un {s : List Nat} (h : okCell s = true) : s.length ≤ 10 ∧ ∀ c ∈ s, okSign c = true := by
  unfold okCell at h
  simp only [Bool.and_eq_true, decide_eq_true_eq, List.all_eq_true] at h
  exact h
theorem okCell_take {s : List Nat} (h : okCell s = true) (n : Nat) : okCell (s.take n) = true := by
  obtain ⟨a, b⟩ := okCell_un h
  exact okCell_mk (by rw [List.length_take]; omega) fun c hc => b c (List.mem_of_mem_take hc)
theorem okCell_drop {s : List Nat} (h : okCell s = true) (n : Nat) : okCell (s.drop n) = true := by
  obtain ⟨a, b⟩ := okCell_un h
  exact okCell_mk (by rw [List.length_drop]; omega) fun c hc => b c (List.mem_of_mem_drop hc)
theorem okCell_app {s t : List Nat} (h : okCell s = true) (k : okCell t = true) (hl : (s ++ t).length ≤ 10) : okCell (s ++ t) = true := by
  refine okCell_mk hl fun c hc => ?_
  rcases List.mem_append.mp hc with h1 | h1
  · exact (okCell_un h).2 c h1
  · exact (okCell_un k).2 c h1
section
variable {p : Page} (hp : okPage p = true)
include hp
theorem rowAt_ok {k : Nat} (hk : k < p.length) : okRow (rowAt p k) = true ∧ (rowAt p k).length = cellsIn p k ∧ ∀ c ∈ rowAt p k, okCell c = true := by
  have e : rowAt p k = p[k] := by unfold rowAt; simp [hk]
  have o := (okPage_parts hp).2.2 p[k] (List.getElem_mem hk)
  refine ⟨by rw [e]; exact o, rfl, fun c hc => ?_⟩
  rw [e] at hc
  unfold okRow at o
  simp only [Bool.and_eq_true, decide_eq_true_eq, List.all_eq_true] at o
  exact o.2 c hc
theorem okRow_spl {k c j : Nat} {m : List (List Nat)} (hk : k < p.length) (h1 : c ≤ j) (h2 : j ≤ cellsIn p k) (h3 : ∀ x ∈ m, okCell x = true) (h4 : 1 ≤ m.length) (h5 : cellsIn p k - (j - c) + m.length ≤ 6) : okRow (spl (rowAt p k) c m j) = true := by
  obtain ⟨a, b, d⟩ := rowAt_ok hp hk
  have l := spl_len (l := rowAt p k) (m := m) h1 (by rw [b]; exact h2)
  rw [b] at l
  refine okRow_mk (by omega) (by omega) fun x hx => ?_
  have hx : x ∈ (rowAt p k).take c ++ m ++ (rowAt p k).drop j := hx
  rcases List.mem_append.mp hx with hx | hx
  · rcases List.mem_append.mp hx with hx | hx
    · exact d x (List.mem_of_mem_take hx)
    · exact h3 x hx
  · exact d x (List.mem_of_mem_drop hx)
theorem editOf_ok {d : Deed} (h : DeedOk p d) {x : Nat × List Row × Nat} (e : editOf p d = some x) : EditOk p x := by
  obtain ⟨p1, p2, p3⟩ := okPage_parts hp
  cases d with
  | put k r =>
    obtain ⟨h1, h2⟩ := h
    simp only [editOf] at e
    split at e
    · cases e
    · cases e
      exact edit_mk (Nat.le_refl _) h1 (fun r' hr => by rw [List.mem_singleton.mp hr]; exact h2) (by simp only [List.length_cons, List.length_nil]; omega) (by simp only [List.length_cons, List.length_nil]; omega)
  | take k =>
    have h : k < p.length := h
    simp only [editOf] at e
    split at e
    · cases e
    · cases e
      exact edit_mk (Nat.le_succ _) h (fun r' hr => by cases hr) (by simp only [List.length_cons, List.length_nil]; omega) (by simp only [List.length_cons, List.length_nil]; omega)
  | change k r =>
    obtain ⟨h1, h2⟩ := h
    simp only [editOf] at e
    cases e
    exact edit_mk (Nat.le_succ _) h1 (fun r' hr => by rw [List.mem_singleton.mp hr]; exact h2) (by simp only [List.length_cons, List.length_nil]; omega) (by simp only [List.length_cons, List.length_nil]; omega)
  | strike k c ee s =>
    obtain ⟨⟨v1, v2, v3⟩, hs⟩ := h
    simp only at v1 v2 v3
    have cl := cellsIn_le hp v1
    have co := cellAt_ok hp v1 v2
    simp only [editOf] at e
    split at e
    · split at e
      · cases e
      · cases e
        refine edit_mk (Nat.le_succ _) v1 (fun r' hr => ?_) (by simp only [List.length_cons, List.length_nil]; omega) (by simp only [List.length_cons, List.length_nil]; omega)
        rw [List.mem_singleton.mp hr]
        refine okRow_spl hp v1 (Nat.le_succ _) v2 (fun x hx => ?_) (by simp) (by simp; omega)
        simp only [List.mem_cons, List.not_mem_nil, or_false] at hx
        rcases hx with rfl | rfl
        · exact okCell_take co _
        · exact okCell_drop co _
    · rename_i hs9
      split at e
      · cases e
      · rename_i h10
        cases e
        refine edit_mk (Nat.le_succ _) v1 (fun r' hr => ?_) (by simp only [List.length_cons, List.length_nil]; omega) (by simp only [List.length_cons, List.length_nil]; omega)
        rw [List.mem_singleton.mp hr]
        refine okRow_spl hp v1 (Nat.le_succ _) v2 (fun x hx => ?_) (by simp) (by simp; omega)
        rw [List.mem_singleton.mp hx]
        clear hx
        obtain ⟨x, rfl, hx⟩ := hs.resolve_left hs9
        have c10 := (okCell_un co).1
        refine okCell_app (okCell_app (okCell_take co _) (okCell_mk (by simp) fun c hc => by rw [List.mem_singleton.mp hc]; exact hx) ?_) (okCell_drop co _) ?_
        · rw [List.length_append, List.length_take]; simp; omega
        · rw [List.length_append, List.length_append, List.length_take, List.length_drop]; simp; omega
  | erase k c ee =>
    obtain ⟨v1, v2, v3⟩ := h
    simp only at v1 v2 v3
    have cl := cellsIn_le hp v1
    have co := cellAt_ok hp v1 v2
    have c10 := (okCell_un co).1
    simp only [editOf] at e
    split at e
    · cases e
      refine edit_mk (Nat.le_succ _) v1 (fun r' hr => ?_) (by simp only [List.length_cons, List.length_nil]; omega) (by simp only [List.length_cons, List.length_nil]; omega)
      rw [List.mem_singleton.mp hr]
      refine okRow_spl hp v1 (Nat.le_succ _) v2 (fun x hx => ?_) (by simp) (by simp; omega)
      rw [List.mem_singleton.mp hx]
      refine okCell_app (okCell_take co _) (okCell_drop co _) ?_
      rw [List.length_append, List.length_take, List.length_drop]; omega
    · split at e
      · cases e
      · split at e
        · cases e
        · rename_i hne h10
          cases e
          refine edit_mk (Nat.le_succ _) v1 (fun r' hr => ?_) (by simp only [List.length_cons, List.length_nil]; omega) (by simp only [List.length_cons, List.length_nil]; omega)
          rw [List.mem_singleton.mp hr]
          refine okRow_spl hp v1 (by omega) (by omega) (fun x hx => ?_) (by simp) (by simp; omega)
          rw [List.mem_singleton.mp hx]
          exact okCell_app co (cellAt_ok hp v1 (by omega)) (by omega)
  | part k c ee =>
    obtain ⟨v1, v2, v3⟩ := h
    simp only at v1 v2 v3
    have cl := cellsIn_le hp v1
    have co := cellAt_ok hp v1 v2
    obtain ⟨ra, rb, rc⟩ := rowAt_ok hp v1
    simp only [editOf] at e
    split at e
    · cases e
    · cases e
      refine edit_mk (Nat.le_succ _) v1 (fun r' hr => ?_) (by simp only [List.length_cons, List.length_nil]; omega) (by simp only [List.length_cons, List.length_nil]; omega)
      simp only [List.mem_cons, List.not_mem_nil, or_false] at hr
      rcases hr with rfl | rfl
      · refine okRow_mk (by simp) (by rw [List.length_append, List.length_take]; simp; omega) fun x hx => ?_
        rcases List.mem_append.mp hx with hx | hx
        · exact rc x (List.mem_of_mem_take hx)
        · rw [List.mem_singleton.mp hx]; exact okCell_take co _
      · refine okRow_mk (by simp) (by rw [List.length_cons, List.length_drop]; omega) fun x hx => ?_
        rcases List.mem_cons.mp hx with rfl | hx
        · exact okCell_drop co _
        · exact rc x (List.mem_of_mem_drop hx)
  | unite k =>
    have h : k < p.length := h
    simp only [editOf] at e
    split at e
    · cases e
    · split at e
      · cases e
      · rename_i h1 h2
        cases e
        have hk1 : k + 1 < p.length := by omega
        have cl := cellsIn_le hp h
        have cl1 := cellsIn_le hp hk1
        obtain ⟨ra, rb, rc⟩ := rowAt_ok hp h
        obtain ⟨ra1, rb1, rc1⟩ := rowAt_ok hp hk1
        refine edit_mk (by omega) (by omega) (fun r' hr => ?_) (by simp only [List.length_cons, List.length_nil]; omega) (by simp only [List.length_cons, List.length_nil]; omega)
        rw [List.mem_singleton.mp hr]
        refine okRow_mk (by simp; omega) (by rw [List.length_append, List.length_append, List.length_dropLast, List.length_drop, rb, rb1]; simp; omega) fun x hx => ?_
        rcases List.mem_append.mp hx with hx | hx
        · rcases List.mem_append.mp hx with hx | hx
          · exact rc x (by rw [List.dropLast_eq_take] at hx; exact List.mem_of_mem_take hx)
          · rw [List.mem_singleton.mp hx]
            exact okCell_app (cellAt_ok hp h (by omega)) (cellAt_ok hp hk1 (by omega)) (by omega)
        · exact rc1 x (List.mem_of_mem_drop hx)
  | back => cases e
end
end Dl
namespace Dl
open PySem L2
theorem slLst (st : Store) (ds : List D) (lo hi : Option Int) : slG false st (.lst ds) lo hi = .ok (.lst (cutD ds lo hi), st) := by simp [slG, lstOf, newL]
theorem slTup (m : Bool) (st : Store) (ds : List D) (lo hi : Option Int) : slG m st (.tup ds) lo hi = .ok (.tup (cutD ds lo hi), st) := by simp [slG]
theorem slStr (m : Bool) (st : Store) (s : List Nat) (lo hi : Option Int) : slG m st (.str s) lo hi = .ok (.str (cutD s lo hi), st) := by simp [slG]
theorem cutT {A : Type} (xs : List A) (k : Nat) : cutD xs none (some (k : Int)) = xs.take k := cut_to xs k
theorem cutF {A : Type} (xs : List A) (k : Nat) : cutD xs (some (k : Int)) none = xs.drop k := cut_from xs k
theorem cutF1 {A : Type} (xs : List A) (k : Nat) : cutD xs (some ((k : Int) + 1)) none = xs.drop (k + 1) := cut_from xs (k + 1)
theorem cutF01 {A : Type} (xs : List A) : cutD xs (some 1) none = xs.drop 1 := cut_from xs 1
theorem cutTm {A : Type} (xs : List A) : cutD xs none (some (-1)) = xs.dropLast := by
  have e2 : HT.sIx xs.length xs.length (some (-1)) = xs.length - 1 := by
    show (if (-1 : Int) < 0 then ((-1 : Int) + (xs.length : Int)).toNat else min (-1 : Int).toNat xs.length) = _
    rw [if_pos (show (-1 : Int) < 0 by decide)]; omega
  unfold cutD
  rw [e2, HT.sIx_none, List.drop_zero, Nat.sub_zero, List.dropLast_eq_take]
theorem encP_app (a b : Page) : encP (a ++ b) = encP a ++ encP b := by simp [encP]
theorem encP_cons (r : Row) (b : Page) : encP (r :: b) = encR r :: encP b := rfl
theorem encP_nil : encP [] = [] := rfl
theorem encP_take (p : Page) (k : Nat) : (encP p).take k = encP (p.take k) := by unfold encP; rw [List.map_take]
theorem encP_drop (p : Page) (k : Nat) : (encP p).drop k = encP (p.drop k) := by unfold encP; rw [List.map_drop]
theorem ints_every (n : Nat) : intsD 0 n = (everyN n).map encO := by
  unfold intsD everyN
  rw [List.map_map]
  exact List.map_congr_left fun i _ => by simp [encO]
theorem sh_need_number (p : Page) (y : Sty) (L Q : Nat) : (shFs p y L Q).lookup ("need_number" : Str) = none := sh_no p y L Q (by decide +kernel) (by decide +kernel) (by decide +kernel) (by decide +kernel)
theorem sh_need_place (p : Page) (y : Sty) (L Q : Nat) : (shFs p y L Q).lookup ("need_place" : Str) = none := sh_no p y L Q (by decide +kernel) (by decide +kernel) (by decide +kernel) (by decide +kernel)
theorem sh_turn_to (p : Page) (y : Sty) (L Q : Nat) : (shFs p y L Q).lookup ("turn_to" : Str) = none := sh_no p y L Q (by decide +kernel) (by decide +kernel) (by decide +kernel) (by decide +kernel)
theorem sh_change (p : Page) (y : Sty) (L Q : Nat) : (shFs p y L Q).lookup ("change" : Str) = none := sh_no p y L Q (by decide +kernel) (by decide +kernel) (by decide +kernel) (by decide +kernel)
def m_Sheet_need_number : FV := funD 3 (d_Sheet_need_number m_is_number)
theorem need_number_ok (S : Store) (n : Nat) (k m : Int) : m_Sheet_need_number [.ref n, .int k, .int m] S = if 0 ≤ k ∧ k ≤ m then .ok (.non, S) else .exc 3 none S := by
  rw [m_Sheet_need_number, funD, d_Sheet_need_number]
  by_cases z : 0 ≤ k ∧ k ≤ m
  · simp [z]
  · simp only [if_neg z]
    have : decide (0 ≤ k ∧ k ≤ m) = false := decide_eq_false z
    simp [-Bool.decide_and, this]
def m_need_row : FV := funD 1 (d_need_row m_is_row)
theorem need_row_ok (S : Store) {r : Row} (h : okRow r = true) : m_need_row [encR r] S = .ok (.non, S) := by
  rw [m_need_row, funD, d_need_row]
  simp [is_row_tup, h]
theorem lenL (st : Store) (ds : List D) : lenG st [.lst ds] = .ok (.int ds.length, st) := rfl
theorem lenSt (st : Store) (s : List Nat) : lenG st [.str s] = .ok (.int s.length, st) := rfl
theorem eqi (neg : Bool) (st : Store) (a b : Int) : eqG neg st (.int a) (.int b) = .ok (.bl (if neg = true then !decide (a = b) else decide (a = b)), st) := by rw [eqG_pl (by simp) (by simp) (by simp) (by simp)]; simp
theorem eqs (neg : Bool) (st : Store) (a b : List Nat) : eqG neg st (.str a) (.str b) = .ok (.bl (if neg = true then !decide (a = b) else decide (a = b)), st) := by rw [eqG_pl (by simp) (by simp) (by simp) (by simp)]; simp
theorem addLl (S : Store) (a b : List D) (h : a.length + b.length ≤ 1000) : addG false S (.lst a) (.lst b) = .ok (.lst (a ++ b), S) := by
  have l := le_LIM (n := a.length + b.length) (by omega)
  simp [addG, lstOf, newL, l]
theorem addTt (S : Store) (a b : List D) (h : a.length + b.length ≤ 1000) : addG false S (.tup a) (.tup b) = .ok (.tup (a ++ b), S) := by
  have l := le_LIM (n := a.length + b.length) (by omega)
  simp [addG, l]
theorem addSs (S : Store) (a b : List Nat) (h : a.length + b.length ≤ 1000) : addG false S (.str a) (.str b) = .ok (.str (a ++ b), S) := by
  have l := le_LIM (n := a.length + b.length) (by omega)
  simp [addG, l]
theorem pieces (S : Store) (p : Page) (h30 : p.length ≤ 30) (k j : Nat) (jI : Int) (hj : jI = (j : Int)) : ∃ A B C E : List D,
    slG false S (.lst (encP p)) none (some (k : Int)) = .ok (.lst A, S) ∧ slG false S (.lst (encP p)) (some jI) none = .ok (.lst B, S) ∧
    slG false S (.lst (intsD 0 p.length)) none (some (k : Int)) = .ok (.lst C, S) ∧ slG false S (.lst (intsD 0 p.length)) (some jI) none = .ok (.lst E, S) ∧
    (∀ rs : Page, rs.length ≤ 10 → addG false S (.lst A) (.lst (encP rs)) = .ok (.lst (A ++ encP rs), S) ∧ addG false S (.lst (A ++ encP rs)) (.lst B) = .ok (.lst (encP (spl p k rs j)), S)) ∧
    (∀ m, m ≤ 10 → addG false S (.lst C) (.lst (List.replicate m .non)) = .ok (.lst (C ++ List.replicate m .non), S) ∧ addG false S (.lst (C ++ List.replicate m .non)) (.lst E) = .ok (.lst ((spl (everyN p.length) k (List.replicate m none) j).map encO), S)) ∧
    addG false S (.lst A) (.lst B) = .ok (.lst (encP (spl p k [] j)), S) ∧ addG false S (.lst C) (.lst E) = .ok (.lst ((spl (everyN p.length) k [] j).map encO), S) := by
  subst hj
  have la : (encP (p.take k)).length ≤ 30 := by rw [encP_len, List.length_take]; omega
  have lb : (encP (p.drop j)).length ≤ 30 := by rw [encP_len, List.length_drop]; omega
  have lc : (((everyN p.length).take k).map encO).length ≤ 30 := by rw [List.length_map, List.length_take, every_len]; omega
  have le : (((everyN p.length).drop j).map encO).length ≤ 30 := by rw [List.length_map, List.length_drop, every_len]; omega
  refine ⟨encP (p.take k), encP (p.drop j), ((everyN p.length).take k).map encO, ((everyN p.length).drop j).map encO, by rw [slLst, cutT, encP_take], by rw [slLst, cutF, encP_drop],
    by rw [slLst, cutT, ints_every, List.map_take], by rw [slLst, cutF, ints_every, List.map_drop], fun rs hr => ⟨?_, ?_⟩, fun m hm => ⟨?_, ?_⟩, ?_, ?_⟩
  · exact addLl S _ _ (by rw [encP_len rs]; omega)
  · rw [addLl S _ _ (by rw [List.length_append, encP_len rs]; omega), ← encP_app, ← encP_app]; rfl
  · exact addLl S _ _ (by rw [List.length_replicate]; omega)
  · rw [addLl S _ _ (by rw [List.length_append, List.length_replicate]; omega)]
    unfold spl
    rw [List.map_append, List.map_append, List.map_replicate]; rfl
  · rw [addLl S _ _ (by omega), ← encP_app]
    unfold spl
    rw [List.append_nil]
  · rw [addLl S _ _ (by omega)]
    unfold spl
    rw [List.append_nil, List.map_append]
section
variable {S : Store} {n L Q : Nat} {p : Page} {y : Sty} {ps : List Page}
def m_Sheet_put : FV := funD 4 (d_Sheet_put m_Sheet_need_number m_need_row m_Sheet_turn_to)
theorem sh_put_ok (h : Sht S n p y L Q ps) (hp : okPage p = true) {k : Nat} {r : Row} (hk : k ≤ p.length) (hr : okRow r = true) :
    m_Sheet_put [.ref n, .int k, encR r] S = if p.length = 30 then .exc 3 none S else m_Sheet_turn_to [.ref n, .lst (encP (spl p k [r] k)), .lst ((spl (everyN p.length) k [none] k).map encO)] S := by
  obtain ⟨p1, p2, p3⟩ := okPage_parts hp
  rw [m_Sheet_put, funD, d_Sheet_put]
  have nn := need_number_ok S n k p.length
  rw [if_pos ⟨by omega, by omega⟩] at nn
  have nr := need_row_ok S hr
  have hsh := h.sh
  have b1 : (p.length : Int) ≤ 1000000 := by omega
  obtain ⟨A, B, C, E, s1, s2, s3, s4, f, g, _, _⟩ := pieces S p p2 k k k rfl
  obtain ⟨f1, f2⟩ := f [r] (by simp)
  obtain ⟨g1, g2⟩ := g 1 (by decide)
  rw [encP_cons, encP_nil] at f1 f2
  simp only [List.replicate_one] at g1 g2
  by_cases z : p.length = 30
  · have z' : (p.length : Int) = 30 := by omega
    rw [if_pos z]
    rw [z'] at nn
    simp [hsh, sh_need_number, sh_rows, lenL, nn, nr, eqi, z']
  · have z' : ¬ (p.length : Int) = 30 := by omega
    rw [if_neg z]
    simp [hsh, sh_need_number, sh_turn_to, sh_rows, lenL, nn, nr, eqi, z', b1, newL, s1, s2, s3, s4, f1, f2, g1, g2]
    generalize m_Sheet_turn_to _ _ = r
    cases r <;> rfl
def m_Sheet_take : FV := funD 3 (d_Sheet_take m_Sheet_need_number m_Sheet_turn_to)
theorem sh_take_ok (h : Sht S n p y L Q ps) (hp : okPage p = true) {k : Nat} (hk : k < p.length) :
    m_Sheet_take [.ref n, .int k] S = if p.length = 1 then .exc 3 none S else m_Sheet_turn_to [.ref n, .lst (encP (spl p k [] (k + 1))), .lst ((spl (everyN p.length) k [] (k + 1)).map encO)] S := by
  obtain ⟨p1, p2, p3⟩ := okPage_parts hp
  rw [m_Sheet_take, funD, d_Sheet_take]
  have nn := need_number_ok S n k ((p.length : Int) - 1)
  rw [if_pos ⟨by omega, by omega⟩] at nn
  have hsh := h.sh
  have b1 : (p.length : Int) ≤ 1000000 := by omega
  obtain ⟨A, B, C, E, s1, s2, s3, s4, _, _, f1, g1⟩ := pieces S p p2 k (k + 1) ((k : Int) + 1) (by omega)
  by_cases z : p.length = 1
  · have z' : (p.length : Int) = 1 := by omega
    rw [if_pos z]
    rw [z'] at nn
    simp at nn
    simp [hsh, sh_need_number, sh_rows, lenL, nn, eqi, z', subG]
  · have z' : ¬ (p.length : Int) = 1 := by omega
    rw [if_neg z]
    have a1 : ∀ a b : Int, addG false S (.int a) (.int b) = .ok (.int (a + b), S) := fun _ _ => rfl
    simp [hsh, sh_need_number, sh_turn_to, sh_rows, lenL, nn, eqi, z', b1, newL, subG, a1, s1, s2, s3, s4, f1, g1]
    generalize m_Sheet_turn_to _ _ = r
    cases r <;> rfl
def m_Sheet_change : FV := funD 5 (d_Sheet_change m_Sheet_need_number m_need_row m_Sheet_turn_to)
theorem sh_change_ok (h : Sht S n p y L Q ps) (hp : okPage p = true) {k : Nat} {r : Row} (hk : k < p.length) (hr : okRow r = true) :
    m_Sheet_change [.ref n, .int k, encR r] S = m_Sheet_turn_to [.ref n, .lst (encP (spl p k [r] (k + 1))), .lst ((spl (everyN p.length) k [none] (k + 1)).map encO)] S := by
  obtain ⟨p1, p2, p3⟩ := okPage_parts hp
  rw [m_Sheet_change, funD, d_Sheet_change]
  have nn := need_number_ok S n k ((p.length : Int) - 1)
  rw [if_pos ⟨by omega, by omega⟩] at nn
  have nr := need_row_ok S hr
  have hsh := h.sh
  have b1 : (p.length : Int) ≤ 1000000 := by omega
  obtain ⟨A, B, C, E, s1, s2, s3, s4, f, g, _, _⟩ := pieces S p p2 k (k + 1) ((k : Int) + 1) (by omega)
  obtain ⟨f1, f2⟩ := f [r] (by simp)
  obtain ⟨g1, g2⟩ := g 1 (by decide)
  rw [encP_cons, encP_nil] at f1 f2
  simp only [List.replicate_one] at g1 g2
  have a1 : ∀ a b : Int, addG false S (.int a) (.int b) = .ok (.int (a + b), S) := fun _ _ => rfl
  simp [hsh, sh_need_number, sh_turn_to, sh_rows, lenL, nn, nr, b1, newL, subG, a1, s1, s2, s3, s4, f1, f2, g1, g2]
  generalize m_Sheet_turn_to _ _ = r
  cases r <;> rfl
end
end Dl
namespace Dl
open PySem L2
theorem rpieces (S : Store) (r : Row) (h6 : r.length ≤ 6) (c j : Nat) (jI : Int) (hj : jI = (j : Int)) : ∃ A B : List D,
    slG false S (encR r) none (some (c : Int)) = .ok (.tup A, S) ∧ slG false S (encR r) (some jI) none = .ok (.tup B, S) ∧
    (∀ m : List (List Nat), m.length ≤ 5 → addG false S (.tup A) (.tup (m.map .str)) = .ok (.tup (A ++ m.map .str), S) ∧ addG false S (.tup (A ++ m.map .str)) (.tup B) = .ok (encR (spl r c m j), S)) := by
  subst hj
  have la : ((r.take c).map D.str).length ≤ 6 := by rw [List.length_map, List.length_take]; omega
  have lb : ((r.drop j).map D.str).length ≤ 6 := by rw [List.length_map, List.length_drop]; omega
  refine ⟨(r.take c).map .str, (r.drop j).map .str, by rw [encR, slTup, cutT, List.map_take], by rw [encR, slTup, cutF, List.map_drop], fun m hm => ⟨?_, ?_⟩⟩
  · exact addTt S _ _ (by rw [List.length_map (as := m)]; omega)
  · rw [addTt S _ _ (by rw [List.length_append, List.length_map (as := m)]; omega)]
    unfold spl encR
    rw [List.map_append, List.map_append]
theorem tpieces (S : Store) (t : List Nat) (h10 : t.length ≤ 10) (e : Nat) : slG false S (.str t) none (some (e : Int)) = .ok (.str (t.take e), S) ∧ slG false S (.str t) (some (e : Int)) none = .ok (.str (t.drop e), S) ∧ slG false S (.str t) (some ((e : Int) + 1)) none = .ok (.str (t.drop (e + 1)), S) :=
  ⟨by rw [slStr, cutT], by rw [slStr, cutF], by rw [slStr, cutF1]⟩
section
variable {S : Store} {n L Q : Nat} {p : Page} {y : Sty} {ps : List Page}
theorem rowIx (hk : k < p.length) : ixG S (.lst (encP p)) (.int k) = .ok (encR (rowAt p k), S) := by
  rw [ix_lst, atI_nat]
  unfold rowAt encP
  simp [hk]
theorem cellIx {r : Row} {c : Nat} (hc : c < r.length) : ixG S (encR r) (.int c) = .ok (.str (r.getD c []), S) := by
  unfold encR
  rw [ix_tup, atI_nat]
  simp [hc]
def m_Sheet_need_place : FV := funD 4 (d_Sheet_need_place m_Sheet_need_number m_is_number)
theorem need_place_ok (h : Sht S n p y L Q ps) (hp : okPage p = true) {k c e : Nat} (v : Valid p (k, c, e)) : m_Sheet_need_place [.ref n, .int k, .int c, .int e] S = .ok (.non, S) := by
  obtain ⟨v1, v2, v3⟩ := v
  simp only at v1 v2 v3
  rw [m_Sheet_need_place, funD, d_Sheet_need_place]
  have nn := need_number_ok S n k ((p.length : Int) - 1)
  rw [if_pos ⟨by omega, by omega⟩] at nn
  have hsh := h.sh
  have r1 := rowIx (S := S) v1
  have rl := (rowAt_ok hp v1).2.1
  have r2 := cellIx (S := S) (r := rowAt p k) (c := c) (by omega)
  have rc : (rowAt p k).getD c [] = cellAt p k c := rfl
  rw [rc] at r2
  have ln : lenG S [encR (rowAt p k)] = .ok (.int (cellsIn p k), S) := by
    show R.ok (D.int (((rowAt p k).map D.str).length : Nat), S) = _
    rw [List.length_map, rl]
  have d1 : ¬ (cellsIn p k : Int) - 1 < (c : Int) := by omega
  have d2 : ¬ (cellAt p k c).length < e := by omega
  simp [hsh, sh_need_number, sh_rows, lenL, nn, subG, r1, r2, ln, lenSt, d1, d2, -ix_lst]
/-- what a deed does: it's refused, by the class c, or the rows are turned -/
def doneBy (n : Nat) (p : Page) (d : Deed) (c : Nat) (S : Store) : R (D × Store) := match editOf p d with
  | none => .exc c none S
  | some x => m_Sheet_turn_to [.ref n, .lst (encP (editD p x).1), .lst ((editD p x).2.map encO)] S
def m_Sheet_erase : FV := funD 8 (d_Sheet_erase m_Sheet_need_place m_is_cell m_Sheet_change)
theorem sh_erase_ok (h : Sht S n p y L Q ps) (hp : okPage p = true) {k c e : Nat} (v : Valid p (k, c, e)) : m_Sheet_erase [.ref n, .int k, .int c, .int e] S = doneBy n p (.erase k c e) 4 S := by
  have np := need_place_ok h hp v
  have hok : ∀ x, editOf p (.erase k c e) = some x → EditOk p x := fun x hx => editOf_ok hp (d := .erase k c e) v hx
  obtain ⟨v1, v2, v3⟩ := v
  simp only at v1 v2 v3
  rw [m_Sheet_erase, funD, d_Sheet_erase]
  have hsh := h.sh
  have r1 := rowIx (S := S) v1
  obtain ⟨ra, rl, rc⟩ := rowAt_ok hp v1
  have cl := cellsIn_le hp v1
  have r2 := cellIx (S := S) (r := rowAt p k) (c := c) (by omega)
  have rcc : ∀ c, (rowAt p k).getD c [] = cellAt p k c := fun _ => rfl
  rw [rcc] at r2
  have co := cellAt_ok hp v1 v2
  have c10 := (okCell_un co).1
  have ln : lenG S [encR (rowAt p k)] = .ok (.int (cellsIn p k), S) := by
    show R.ok (D.int (((rowAt p k).map D.str).length : Nat), S) = _
    rw [List.length_map, rl]
  obtain ⟨t1, t2, t3⟩ := tpieces S (cellAt p k c) c10 e
  have a1 : ∀ a b : Int, addG false S (.int a) (.int b) = .ok (.int (a + b), S) := fun _ _ => rfl
  unfold doneBy
  simp only [editOf] at hok ⊢
  by_cases z : e < (cellAt p k c).length
  · have z' : (e : Int) < ((cellAt p k c).length : Int) := by omega
    rw [if_pos z] at hok ⊢
    have eo := hok _ rfl
    have ro := eo.2.2.1 _ (List.mem_singleton.mpr rfl)
    obtain ⟨A, B, s1, s2, f⟩ := rpieces S (rowAt p k) (by omega) c (c + 1) ((c : Int) + 1) (by omega)
    have hc := sh_change_ok h hp v1 ro
    obtain ⟨nw, hnw⟩ : ∃ nw, nw = (cellAt p k c).take e ++ (cellAt p k c).drop (e + 1) := ⟨_, rfl⟩
    have ad : addG false S (.str ((cellAt p k c).take e)) (.str ((cellAt p k c).drop (e + 1))) = .ok (.str nw, S) := by rw [hnw]; exact addSs S _ _ (by rw [List.length_take, List.length_drop]; omega)
    rw [← hnw] at hc eo ⊢
    obtain ⟨f1, f2⟩ := f [nw] (by simp)
    have ic : okCell nw = true := by
      rw [hnw]
      exact okCell_app (okCell_take co _) (okCell_drop co _) (by rw [List.length_append, List.length_take, List.length_drop]; omega)
    simp only [List.map_cons, List.map_nil] at f1 f2
    simp [hsh, sh_need_place, sh_change, sh_rows, np, r1, r2, lenSt, ltG, z, z', t1, t2, t3, ad, a1, s1, s2, f1, f2, is_cell_str, ic, hc, -ix_lst, editD]
    generalize m_Sheet_turn_to _ _ = r
    cases r <;> rfl
  · have z' : ¬ (e : Int) < ((cellAt p k c).length : Int) := by omega
    rw [if_neg z] at hok ⊢
    by_cases z2 : c + 1 = cellsIn p k
    · have z2' : (cellsIn p k : Int) - 1 = (c : Int) := by omega
      rw [if_pos z2]
      simp [hsh, sh_need_place, sh_rows, np, r1, r2, lenSt, ltG, z, z', ln, subG, eqi, z2', -ix_lst]
    · have z2' : ¬ (c : Int) = (cellsIn p k : Int) - 1 := by omega
      rw [if_neg z2] at hok ⊢
      have r3 := cellIx (S := S) (r := rowAt p k) (c := c + 1) (by omega)
      rw [rcc, show ((c + 1 : Nat) : Int) = (c : Int) + 1 by omega] at r3
      have co2 := cellAt_ok hp v1 (c := c + 1) (by omega)
      have c102 := (okCell_un co2).1
      obtain ⟨A, B, s1, s2, f⟩ := rpieces S (rowAt p k) (by omega) c (c + 2) ((c : Int) + 2) (by omega)
      obtain ⟨nw, hnw⟩ : ∃ nw, nw = cellAt p k c ++ cellAt p k (c + 1) := ⟨_, rfl⟩
      have ad : addG false S (.str (cellAt p k c)) (.str (cellAt p k (c + 1))) = .ok (.str nw, S) := by rw [hnw]; exact addSs S _ _ (by omega)
      rw [← hnw] at hok ⊢
      obtain ⟨f1, f2⟩ := f [nw] (by simp)
      simp only [List.map_cons, List.map_nil] at f1 f2
      by_cases z3 : 10 < nw.length
      · have ic : okCell nw = false := by
          unfold okCell
          rw [decide_eq_false (by omega)]; rfl
        rw [if_pos z3]
        simp [hsh, sh_need_place, sh_rows, np, r1, r2, lenSt, ltG, z, z', ln, subG, eqi, z2', r3, ad, a1, s2, is_cell_str, ic, -ix_lst]
      · rw [if_neg z3] at hok ⊢
        have eo := hok _ rfl
        have ro := eo.2.2.1 _ (List.mem_singleton.mpr rfl)
        have hc := sh_change_ok h hp v1 ro
        have ic : okCell nw = true := by
          rw [hnw]
          exact okCell_app co co2 (by rw [← hnw]; omega)
        simp [hsh, sh_need_place, sh_change, sh_rows, np, r1, r2, lenSt, ltG, z, z', ln, subG, eqi, z2', r3, ad, a1, s1, s2, f1, f2, is_cell_str, ic, hc, -ix_lst, editD]
        generalize m_Sheet_turn_to _ _ = r
        cases r <;> rfl
end
end Dl
namespace Dl
open PySem L2
theorem ne_nilS {S : Store} (l : List (List Nat)) : eqG true S (.lst (l.map .str)) (.lst []) = .ok (.bl (!decide (l = [])), S) := by
  rw [eqG_pl (by
    rw [pl_lst, pls_iff]
    intro x hx
    obtain ⟨u, _, rfl⟩ := List.mem_map.mp hx
    rfl) (by rfl) (by
    rw [dp_lst]
    have : D.dps (l.map D.str) ≤ 1 := dps_le.mpr fun x hx => by
      obtain ⟨u, _, rfl⟩ := List.mem_map.mp hx
      exact Nat.le_refl _
    omega) (by simp)]
  simp
theorem lc_bad {S : Store} {j : Nat} {env : Env} (l : List (List Nat)) (hj : j < env.length) : lcGo [] (.one j) (tNotD (tv (eCall 1 m_is_cell (aCons (eV j) (aNil))))) (eV j) env (l.map .str) [] S = .ok ((l.filter fun s => !okCell s).map .str, S) := by
  rw [lc_keep (still_nil S) (fun d => match d with | .str s => !okCell s | _ => false) _ (fun d hd => ?_) hj]
  · rw [List.filter_map]; rfl
  · obtain ⟨s, _, rfl⟩ := List.mem_map.mp hd
    simp [hj, is_cell_str]
section
variable {S : Store} {n L Q : Nat} {p : Page} {y : Sty} {ps : List Page}
theorem cellIxL (hp : okPage p = true) {k : Nat} (hk : k < p.length) : ixG S (encR (rowAt p k)) (.int (-1)) = .ok (.str (cellAt p k (cellsIn p k - 1)), S) := by
  obtain ⟨ra, rl, rc⟩ := rowAt_ok hp hk
  have cl := cellsIn_le hp hk
  unfold encR
  rw [ix_tup]
  have hl : ((rowAt p k).map D.str).length = (cellsIn p k - 1) + 1 := by rw [List.length_map, rl]; omega
  have : atI ((rowAt p k).map D.str) (-1) = some (.str (cellAt p k (cellsIn p k - 1))) := by
    unfold atI
    rw [hl, ixN_last]
    show (some (cellsIn p k - 1)).bind (fun j => ((rowAt p k).map D.str)[j]?) = _
    rw [Option.bind_some, List.getElem?_map]
    have h2 : cellsIn p k - 1 < (rowAt p k).length := by omega
    rw [List.getElem?_eq_getElem h2]
    unfold cellAt
    show some (D.str (rowAt p k)[cellsIn p k - 1]) = some (D.str ((rowAt p k).getD (cellsIn p k - 1) []))
    simp [h2]
  rw [this]; rfl
def m_Sheet_strike_k10 : FV := funD 9 (d_Sheet_strike_k10 m_Sheet_need_place m_is_sign m_is_cell m_Sheet_change)
theorem sh_strike_ok (h : Sht S n p y L Q ps) (hp : okPage p = true) {k c e : Nat} {s : List Nat} (v : Valid p (k, c, e)) (hs : s = [9] ∨ ∃ x, s = [x] ∧ okSign x = true) : m_Sheet_strike_k10 [.ref n, .int k, .int c, .int e, .str s] S = doneBy n p (.strike k c e s) 4 S := by
  have np := need_place_ok h hp v
  have hok : ∀ x, editOf p (.strike k c e s) = some x → EditOk p x := fun x hx => editOf_ok hp (d := .strike k c e s) ⟨v, hs⟩ hx
  obtain ⟨v1, v2, v3⟩ := v
  simp only at v1 v2 v3
  rw [m_Sheet_strike_k10, funD, d_Sheet_strike_k10]
  have hsh := h.sh
  have r1 := rowIx (S := S) v1
  obtain ⟨ra, rl, rc⟩ := rowAt_ok hp v1
  have cl := cellsIn_le hp v1
  have r2 := cellIx (S := S) (r := rowAt p k) (c := c) (by omega)
  have rcc : ∀ c, (rowAt p k).getD c [] = cellAt p k c := fun _ => rfl
  rw [rcc] at r2
  have co := cellAt_ok hp v1 v2
  have c10 := (okCell_un co).1
  have ln : lenG S [encR (rowAt p k)] = .ok (.int (cellsIn p k), S) := by
    show R.ok (D.int (((rowAt p k).map D.str).length : Nat), S) = _
    rw [List.length_map, rl]
  obtain ⟨t1, t2, t3⟩ := tpieces S (cellAt p k c) c10 e
  have a1 : ∀ a b : Int, addG false S (.int a) (.int b) = .ok (.int (a + b), S) := fun _ _ => rfl
  obtain ⟨A, B, s1, s2, f⟩ := rpieces S (rowAt p k) (by omega) c (c + 1) ((c : Int) + 1) (by omega)
  unfold doneBy
  simp only [editOf] at hok ⊢
  by_cases z : s = [9]
  · rw [if_pos z] at hok ⊢
    by_cases z2 : cellsIn p k = 6
    · have z2' : (cellsIn p k : Int) = 6 := by omega
      rw [if_pos z2]
      simp [hsh, sh_need_place, sh_rows, np, r1, r2, eqs, z, ln, eqi, z2', -ix_lst]
    · have z2' : ¬ (cellsIn p k : Int) = 6 := by omega
      rw [if_neg z2] at hok ⊢
      have eo := hok _ rfl
      have ro := eo.2.2.1 _ (List.mem_singleton.mpr rfl)
      have hc := sh_change_ok h hp v1 ro
      obtain ⟨f1, f2⟩ := f [(cellAt p k c).take e, (cellAt p k c).drop e] (by simp)
      simp only [List.map_cons, List.map_nil] at f1 f2
      have lb := lc_bad (S := S) (j := 8) (env := [some (.ref n), some (.int k), some (.int c), some (.int e), some (.str s), some (encR (rowAt p k)), some (.str (cellAt p k c)), some (.tup [.str ((cellAt p k c).take e), .str ((cellAt p k c).drop e)]), none]) [(cellAt p k c).take e, (cellAt p k c).drop e] (by simp)
      have fe : ([(cellAt p k c).take e, (cellAt p k c).drop e].filter fun s => !okCell s) = [] := by
        simp [okCell_take co, okCell_drop co]
      rw [fe] at lb
      have nn := ne_nilS (S := S) []
      simp only [List.map_cons, List.map_nil] at lb nn
      rw [z] at lb
      have two : (2 : Nat) ≤ LIM := by decide
      have zer : (0 : Nat) ≤ LIM := by decide
      simp [hsh, sh_need_place, sh_change, sh_rows, np, r1, r2, eqs, z, ln, eqi, z2', t1, t2, two, lb, newL, nn, a1, s1, s2, f1, f2, hc, -ix_lst, editD, itemsOf]
      generalize m_Sheet_turn_to _ _ = r
      cases r <;> rfl
  · rw [if_neg z] at hok ⊢
    obtain ⟨x, rfl, hx⟩ := hs.resolve_left z
    have zx : ¬ x = 9 := fun q => z (by rw [q])
    obtain ⟨nw, hnw⟩ : ∃ nw, nw = (cellAt p k c).take e ++ [x] ++ (cellAt p k c).drop e := ⟨_, rfl⟩
    have ad1 : addG false S (.str ((cellAt p k c).take e)) (.str [x]) = .ok (.str ((cellAt p k c).take e ++ [x]), S) := addSs S _ _ (by rw [List.length_take]; simp; omega)
    have ad2 : addG false S (.str ((cellAt p k c).take e ++ [x])) (.str ((cellAt p k c).drop e)) = .ok (.str nw, S) := by rw [hnw]; exact addSs S _ _ (by rw [List.length_append, List.length_take, List.length_drop]; simp; omega)
    have nwl : nw.length = (cellAt p k c).length + 1 := by rw [hnw, List.length_append, List.length_append, List.length_take, List.length_drop]; simp; omega
    have lb := lc_bad (S := S) (j := 8) (env := [some (.ref n), some (.int k), some (.int c), some (.int e), some (.str [x]), some (encR (rowAt p k)), some (.str (cellAt p k c)), some (.tup [.str nw]), none]) [nw] (by simp)
    have is1 := is_sign_str x S
    rw [hx] at is1
    have one : (1 : Nat) ≤ LIM := by decide
    have ty : tyOf S (.str [x]) = some "str" := rfl
    have sb : subTy "str" "str" = true := by decide
    obtain ⟨f1, f2⟩ := f [nw] (by simp)
    simp only [List.map_cons, List.map_nil] at f1 f2 lb
    rw [← hnw] at hok ⊢
    by_cases z3 : (cellAt p k c).length = 10
    · rw [if_pos z3]
      have ic : okCell nw = false := by
        unfold okCell
        rw [decide_eq_false (by omega)]; rfl
      have fe : ([nw].filter fun s => !okCell s) = [nw] := by simp [ic]
      rw [fe] at lb
      have nn := ne_nilS (S := S) [nw]
      simp only [List.map_cons, List.map_nil] at lb nn
      simp [hsh, sh_need_place, sh_rows, np, r1, r2, eqs, zx, ty, sb, lenSt, eqi, is1, t1, t2, ad1, ad2, one, lb, newL, nn, -ix_lst, itemsOf]
    · rw [if_neg z3] at hok ⊢
      have eo := hok _ rfl
      have ro := eo.2.2.1 _ (List.mem_singleton.mpr rfl)
      have hc := sh_change_ok h hp v1 ro
      have ic : okCell nw = true := by
        rw [hnw]
        refine okCell_app (okCell_app (okCell_take co _) (okCell_mk (by simp) fun c hc => by rw [List.mem_singleton.mp hc]; exact hx) ?_) (okCell_drop co _) ?_
        · rw [List.length_append, List.length_take]; simp; omega
        · rw [← hnw]; omega
      have fe : ([nw].filter fun s => !okCell s) = [] := by simp [ic]
      rw [fe] at lb
      have nn := ne_nilS (S := S) []
      simp only [List.map_cons, List.map_nil] at lb nn
      simp [hsh, sh_need_place, sh_change, sh_rows, np, r1, r2, eqs, zx, ty, sb, lenSt, eqi, is1, t1, t2, ad1, ad2, one, lb, newL, nn, a1, s1, s2, f1, f2, hc, -ix_lst, editD, itemsOf]
      generalize m_Sheet_turn_to _ _ = r
      cases r <;> rfl
end
end Dl
namespace Dl
open PySem L2
section
variable {S : Store} {n L Q : Nat} {p : Page} {y : Sty} {ps : List Page}
def m_Sheet_part : FV := funD 8 (d_Sheet_part m_Sheet_need_place m_Sheet_turn_to)
theorem sh_part_ok (h : Sht S n p y L Q ps) (hp : okPage p = true) {k c e : Nat} (v : Valid p (k, c, e)) : m_Sheet_part [.ref n, .int k, .int c, .int e] S = doneBy n p (.part k c e) 3 S := by
  have np := need_place_ok h hp v
  obtain ⟨v1, v2, v3⟩ := v
  simp only at v1 v2 v3
  obtain ⟨p1, p2, p3⟩ := okPage_parts hp
  rw [m_Sheet_part, funD, d_Sheet_part]
  have hsh := h.sh
  have r1 := rowIx (S := S) v1
  obtain ⟨ra, rl, rc⟩ := rowAt_ok hp v1
  have cl := cellsIn_le hp v1
  have r2 := cellIx (S := S) (r := rowAt p k) (c := c) (by omega)
  have rcc : ∀ c, (rowAt p k).getD c [] = cellAt p k c := fun _ => rfl
  rw [rcc] at r2
  have co := cellAt_ok hp v1 v2
  have c10 := (okCell_un co).1
  obtain ⟨t1, t2, t3⟩ := tpieces S (cellAt p k c) c10 e
  have a1 : ∀ a b : Int, addG false S (.int a) (.int b) = .ok (.int (a + b), S) := fun _ _ => rfl
  have b1 : (p.length : Int) ≤ 1000000 := by omega
  obtain ⟨A, B, C, E, s1, s2, s3, s4, f, g, _, _⟩ := pieces S p p2 k (k + 1) ((k : Int) + 1) (by omega)
  obtain ⟨X, hX⟩ : ∃ X, X = (rowAt p k).take c ++ [(cellAt p k c).take e] := ⟨_, rfl⟩
  obtain ⟨Y, hY⟩ : ∃ Y, Y = (cellAt p k c).drop e :: (rowAt p k).drop (c + 1) := ⟨_, rfl⟩
  obtain ⟨f1, f2⟩ := f [X, Y] (by simp)
  obtain ⟨g1, g2⟩ := g 2 (by decide)
  rw [encP_cons, encP_cons, encP_nil] at f1 f2
  simp only [List.replicate_succ, List.replicate_zero] at g1 g2
  have u1 : slG false S (encR (rowAt p k)) none (some (c : Int)) = .ok (.tup (((rowAt p k).take c).map .str), S) := by rw [encR, slTup, cutT, List.map_take]
  have u2 : slG false S (encR (rowAt p k)) (some ((c : Int) + 1)) none = .ok (.tup (((rowAt p k).drop (c + 1)).map .str), S) := by rw [encR, slTup, cutF1, List.map_drop]
  have u3 : addG false S (.tup (((rowAt p k).take c).map .str)) (.tup [.str ((cellAt p k c).take e)]) = .ok (encR X, S) := by
    rw [addTt S _ _ (by rw [List.length_map, List.length_take]; simp; omega), hX]
    unfold encR
    rw [List.map_append]; rfl
  have u4 : addG false S (.tup [.str ((cellAt p k c).drop e)]) (.tup (((rowAt p k).drop (c + 1)).map .str)) = .ok (encR Y, S) := by
    rw [addTt S _ _ (by rw [List.length_map, List.length_drop]; simp; omega), hY]; rfl
  have one : (1 : Nat) ≤ LIM := by decide
  have two : (2 : Nat) ≤ LIM := by decide
  unfold doneBy
  simp only [editOf]
  by_cases z : p.length = 30
  · have z' : (p.length : Int) = 30 := by omega
    rw [if_pos z]
    simp [hsh, sh_need_place, sh_rows, np, lenL, eqi, z']
  · have z' : ¬ (p.length : Int) = 30 := by omega
    rw [if_neg z]
    rw [← hX, ← hY]
    generalize ((rowAt p k).take c).map D.str = DL at u1 u3
    generalize ((rowAt p k).drop (c + 1)).map D.str = DR at u2 u4
    simp [hsh, sh_need_place, sh_turn_to, sh_rows, np, lenL, eqi, z', r1, r2, t1, t2, u1, u2, one, two, u3, u4, newL, b1, a1, s1, s2, s3, s4, f1, f2, g1, g2, -ix_lst, editD]
    generalize m_Sheet_turn_to _ _ = r
    cases r <;> rfl
def m_Sheet_unite : FV := funD 7 (d_Sheet_unite m_Sheet_need_number m_is_cell m_Sheet_turn_to)
theorem sh_unite_ok (h : Sht S n p y L Q ps) (hp : okPage p = true) {k : Nat} (hk : k < p.length) : m_Sheet_unite [.ref n, .int k] S = doneBy n p (.unite k) (if k + 1 = p.length then 3 else 4) S := by
  have hok : ∀ x, editOf p (.unite k) = some x → EditOk p x := fun x hx => editOf_ok hp (d := .unite k) hk hx
  obtain ⟨p1, p2, p3⟩ := okPage_parts hp
  rw [m_Sheet_unite, funD, d_Sheet_unite]
  have hsh := h.sh
  unfold doneBy
  simp only [editOf] at hok ⊢
  have nn := need_number_ok S n k ((p.length : Int) - 2)
  by_cases z : k + 1 = p.length
  · rw [if_neg (by omega)] at nn
    rw [if_pos z, if_pos z]
    simp [hsh, sh_need_number, sh_rows, lenL, nn, subG]
  · rw [if_pos ⟨by omega, by omega⟩] at nn
    rw [if_neg z] at hok ⊢
    rw [if_neg z]
    have hk1 : k + 1 < p.length := by omega
    have r1 := rowIx (S := S) hk
    have r2 := rowIx (S := S) hk1
    rw [show ((k + 1 : Nat) : Int) = (k : Int) + 1 by omega] at r2
    obtain ⟨ra, rl, rc⟩ := rowAt_ok hp hk
    obtain ⟨ra1, rl1, rc1⟩ := rowAt_ok hp hk1
    have cl := cellsIn_le hp hk
    have cl1 := cellsIn_le hp hk1
    have x1 := cellIxL (S := S) hp hk
    have x2 : ixG S (encR (rowAt p (k + 1))) (.int 0) = .ok (.str (cellAt p (k + 1) 0), S) := cellIx (S := S) (r := rowAt p (k + 1)) (c := 0) (by omega)
    have co := cellAt_ok hp hk (c := cellsIn p k - 1) (by omega)
    have co1 := cellAt_ok hp hk1 (c := 0) (by omega)
    have c10 := (okCell_un co).1
    have c101 := (okCell_un co1).1
    have ln : lenG S [encR (rowAt p k)] = .ok (.int (cellsIn p k), S) := by
      show R.ok (D.int (((rowAt p k).map D.str).length : Nat), S) = _
      rw [List.length_map, rl]
    have ln1 : lenG S [encR (rowAt p (k + 1))] = .ok (.int (cellsIn p (k + 1)), S) := by
      show R.ok (D.int (((rowAt p (k + 1)).map D.str).length : Nat), S) = _
      rw [List.length_map, rl1]
    obtain ⟨nw, hnw⟩ : ∃ nw, nw = cellAt p k (cellsIn p k - 1) ++ cellAt p (k + 1) 0 := ⟨_, rfl⟩
    have ad : addG false S (.str (cellAt p k (cellsIn p k - 1))) (.str (cellAt p (k + 1) 0)) = .ok (.str nw, S) := by rw [hnw]; exact addSs S _ _ (by omega)
    have a1 : ∀ a b : Int, addG false S (.int a) (.int b) = .ok (.int (a + b), S) := fun _ _ => rfl
    have b1 : (p.length : Int) ≤ 1000000 := by omega
    rw [← hnw] at hok ⊢
    by_cases z1 : 6 < cellsIn p k + cellsIn p (k + 1) - 1
    · have z1' : 6 < (cellsIn p k : Int) + (cellsIn p (k + 1) : Int) - 1 := by omega
      rw [if_pos (.inl z1)]
      simp [hsh, sh_need_number, sh_rows, lenL, nn, subG, r1, r2, a1, x1, x2, ad, ln, ln1, gtG, z1', -ix_lst]
    · have z1' : ¬ 6 < (cellsIn p k : Int) + (cellsIn p (k + 1) : Int) - 1 := by omega
      by_cases z2 : 10 < nw.length
      · have ic : okCell nw = false := by
          unfold okCell
          rw [decide_eq_false (by omega)]; rfl
        rw [if_pos (.inr z2)]
        simp [hsh, sh_need_number, sh_rows, lenL, nn, subG, r1, r2, a1, x1, x2, ad, ln, ln1, gtG, z1', is_cell_str, ic, -ix_lst]
      · have hn : ¬ (6 < cellsIn p k + cellsIn p (k + 1) - 1 ∨ 10 < nw.length) := by omega
        rw [if_neg hn] at hok ⊢
        have ic : okCell nw = true := by
          rw [hnw]
          exact okCell_app co co1 (by rw [← hnw]; omega)
        obtain ⟨A, B, C, E, s1, s2, s3, s4, f, g, _, _⟩ := pieces S p p2 k (k + 2) ((k : Int) + 2) (by omega)
        obtain ⟨X, hX⟩ : ∃ X, X = (rowAt p k).dropLast ++ [nw] ++ (rowAt p (k + 1)).drop 1 := ⟨_, rfl⟩
        obtain ⟨f1, f2⟩ := f [X] (by simp)
        obtain ⟨g1, g2⟩ := g 1 (by decide)
        rw [encP_cons, encP_nil] at f1 f2
        simp only [List.replicate_one] at g1 g2
        have u1 : slG false S (encR (rowAt p k)) none (some (-1)) = .ok (.tup (((rowAt p k).dropLast).map .str), S) := by rw [encR, slTup, cutTm, List.map_dropLast]
        have u2 : slG false S (encR (rowAt p (k + 1))) (some 1) none = .ok (.tup (((rowAt p (k + 1)).drop 1).map .str), S) := by rw [encR, slTup, cutF01, List.map_drop]
        have u3 : addG false S (.tup (((rowAt p k).dropLast).map .str)) (.tup [.str nw]) = .ok (.tup (((rowAt p k).dropLast).map .str ++ [.str nw]), S) := addTt S _ _ (by rw [List.length_map, List.length_dropLast]; simp; omega)
        have u4 : addG false S (.tup (((rowAt p k).dropLast).map .str ++ [.str nw])) (.tup (((rowAt p (k + 1)).drop 1).map .str)) = .ok (encR X, S) := by
          rw [addTt S _ _ (by rw [List.length_append, List.length_map, List.length_map, List.length_dropLast, List.length_drop]; simp; omega), hX]
          unfold encR
          rw [List.map_append, List.map_append]; rfl
        rw [← hX]
        have one : (1 : Nat) ≤ LIM := by decide
        obtain ⟨RK, hRK⟩ : ∃ RK, RK = encR (rowAt p k) := ⟨_, rfl⟩
        obtain ⟨RK1, hRK1⟩ : ∃ RK1, RK1 = encR (rowAt p (k + 1)) := ⟨_, rfl⟩
        rw [← hRK] at r1 x1 ln u1
        rw [← hRK1] at r2 x2 ln1 u2
        generalize ((rowAt p k).dropLast).map D.str = DL at u1 u3 u4
        generalize ((rowAt p (k + 1)).drop 1).map D.str = DR at u2 u4
        simp [hsh, sh_need_number, sh_turn_to, sh_rows, lenL, nn, subG, r1, r2, a1, x1, x2, ad, ln, ln1, gtG, z1', is_cell_str, ic, b1, newL, one, u1, u2, u3, u4, s1, s2, s3, s4, f1, f2, g1, g2, -ix_lst, editD]
        generalize m_Sheet_turn_to _ _ = r
        cases r <;> rfl
/-- back, nothing ahead -/
theorem sh_back0 (h : Sht S n p y L Q []) : m_Sheet_back [.ref n] S = .ok (.bl false, S) := by
  rw [m_Sheet_back, funD, d_Sheet_back]
  have e : eqG false S (.ref Q) (.lst []) = .ok (.bl true, S) := by
    rw [eqG_refL h.pa, eqG_pl rfl rfl (by simp [pagesD]) (by simp)]; simp [pagesD]
  simp [h.sh, sh_past, e]
theorem pagesD_pl (qs : List Page) : D.pl (.lst (pagesD qs)) = true := by
  rw [pl_lst, pls_iff]
  intro x hx
  obtain ⟨q, _, rfl⟩ := List.mem_map.mp hx
  simp
theorem pagesD_dp (qs : List Page) : D.dp (.lst (pagesD qs)) ≤ 6 := by
  rw [dp_lst]
  have : D.dps (pagesD qs) ≤ 5 := dps_le.mpr fun x hx => by
    obtain ⟨q, _, rfl⟩ := List.mem_map.mp hx
    have := dps_encP q
    simp; omega
  omega
theorem sh_back1 {q : Page} (h : Sht S n p y L Q (ps ++ [q])) (hq : okPage q = true) :
    ∃ S' L', m_Sheet_back [.ref n] S = .ok (.bl true, S') ∧ Sht S' n q y L' Q ps ∧ (∀ i ob, i ≠ n → i ≠ Q → S[i]? = some ob → S'[i]? = some ob) ∧ S.length ≤ L' ∧ S.length ≤ S'.length := by
  rw [m_Sheet_back, funD, d_Sheet_back]
  obtain ⟨q1, q2, q3⟩ := okPage_parts hq
  have nL := h.nL
  have nQ := h.nQ
  have nS : n < S.length := (List.getElem?_eq_some_iff.mp h.sh).1
  have QS : Q < S.length := (List.getElem?_eq_some_iff.mp h.pa).1
  have e : eqG false S (.ref Q) (.lst []) = .ok (.bl false, S) := by
    rw [eqG_refL h.pa, eqG_pl (pagesD_pl _) rfl (by have := pagesD_dp (ps ++ [q]); omega) (by simp)]
    simp [pagesD]
  have tyQ : tyM S (.ref Q) = some "list" := by simp only [tyM, h.pa]
  obtain ⟨S1, hS1⟩ : ∃ S1, S1 = S.set Q (.lst (pagesD ps)) := ⟨_, rfl⟩
  have po : popG S (.ref Q) [] = .ok (.lst (encP q), S1) := by
    have e1 : (pagesD (ps ++ [q]))[(pagesD (ps ++ [q])).length - 1]? = some (.lst (encP q)) := by simp [pagesD]
    have e2 : (pagesD (ps ++ [q])).dropLast = pagesD ps := by simp [pagesD]
    simp only [popG, h.pa, e1, e2]
    rw [hS1]
  have k1 : ∀ (i : Nat) (ob : Ob), i ≠ Q → S[i]? = some ob → S1[i]? = some ob := fun i ob hi e => by rw [hS1]; exact set_keep hi e
  have g1 := k1 _ _ (by omega) h.sh
  obtain ⟨S2, hS2⟩ : ∃ S2, S2 = S1.set n (.ins 13 (shFs q y L Q)) := ⟨_, rfl⟩
  have k2 : ∀ (i : Nat) (ob : Ob), i ≠ n → S1[i]? = some ob → S2[i]? = some ob := fun i ob hi e => by rw [hS2]; exact set_keep hi e
  have g2 : S2[n]? = some (.ins 13 (shFs q y L Q)) := by rw [hS2]; exact set_self g1
  have len2 : S2.length = S.length := by rw [hS2, hS1]; simp
  obtain ⟨k, M1, L', M2, as, bb, hL, la⟩ := lefts_ok hq y (d := .lst (encP q)) (w := []) (st := S2) rfl
  rw [len2] at hL
  obtain ⟨S3, hS3⟩ : ∃ S3, S3 = S2 ++ M1 := ⟨_, rfl⟩
  obtain ⟨S4, hS4⟩ : ∃ S4, S4 = S3 ++ M2 := ⟨_, rfl⟩
  rw [← hS3] at as bb la
  rw [← hS4] at bb la
  have g3 : S3[n]? = some (.ins 13 (shFs q y L Q)) := by rw [hS3]; exact get_app g2
  have g4 : S4[n]? = some (.ins 13 (shFs q y L Q)) := by rw [hS4]; exact get_app g3
  obtain ⟨S5, hS5⟩ : ∃ S5, S5 = S4.set n (.ins 13 (shFs q y L' Q)) := ⟨_, rfl⟩
  have g5 : S5[n]? = some (.ins 13 (shFs q y L' Q)) := by rw [hS5]; exact set_self g4
  have k5 : ∀ (i : Nat) (ob : Ob), i ≠ n → S4[i]? = some ob → S5[i]? = some ob := fun i ob hi e => by rw [hS5]; exact set_keep hi e
  have kk : ∀ (i : Nat) (ob : Ob), i ≠ n → i ≠ Q → S[i]? = some ob → S5[i]? = some ob := fun i ob h1 h2 e => k5 _ _ h1 (by rw [hS4, hS3]; exact get_app (get_app (k2 _ _ h1 (k1 _ _ h2 e))))
  have la5 : Lays S5 L' q (bAt q y) := ⟨k5 _ _ (by omega) la.1, fun k hk => k5 _ _ (by omega) (la.2 k hk)⟩
  have pa5 : S5[Q]? = some (.lst (pagesD ps)) := k5 _ _ (by omega) (by rw [hS4, hS3]; exact get_app (get_app (k2 _ _ (by omega) (by rw [hS1]; exact set_self h.pa))))
  have z4 : ∀ p L, (shFs p y L Q).length = 4 := fun p L => sh_len _ _ _ _
  refine ⟨S5, L', ?_, ⟨g5, la5, pa5, by omega, nQ, .inl (by omega)⟩, kk, hL, by rw [hS5, List.length_set, hS4, hS3, List.length_append, List.length_append, len2]; omega⟩
  simp [h.sh, sh_past, e, tyQ, po, g1, z4, put_rows, ← hS2, g2, sh_rows, sh_style, as, bb, g3, g4, put_lefts, ← hS5]
end
end Dl
namespace Dl
open PySem L2
def deedD : Deed → D
  | .put k r => .tup [.str [112, 117, 116], .int k, encR r]
  | .take k => .tup [.str [116, 97, 107, 101], .int k]
  | .change k r => .tup [.str [99, 104, 97, 110, 103, 101], .int k, encR r]
  | .strike k c e s => .tup [.str [115, 116, 114, 105, 107, 101], .int k, .int c, .int e, .str s]
  | .erase k c e => .tup [.str [101, 114, 97, 115, 101], .int k, .int c, .int e]
  | .part k c e => .tup [.str [112, 97, 114, 116], .int k, .int c, .int e]
  | .unite k => .tup [.str [117, 110, 105, 116, 101], .int k]
  | .back => .tup [.str [98, 97, 99, 107]]
end Dl
namespace Dl
open PySem L2
end Dl
namespace Dl
open PySem L2
theorem lix_row {S : Store} {p : Page} {d : D} {w : List (Nat × List D)} (hd : listOf S d = some (encP p, w)) {k : Nat} (hk : k < p.length) : ixG S d (.int k) = .ok (encR (rowAt p k), S) := by
  rw [ix_list hd, atI_nat]
  unfold rowAt encP
  simp [hk]
end Dl
namespace Dl
open PySem L2
theorem sorts_ok {j : Nat} (b : Box) (Z : Store) (env : Env) (h0 : env[0]? = some (some (.ref 1))) (hj : j ≠ 0) (hl : j < env.length) : ∃ (cs : List Int) (b' : Box), cs.length = 6 ∧ lcGo [] (.one j) tYesD (eCall 2 m_law_take (aCons (eV 0) (aCons (eC (.int 2)) (aNil)))) env (intsD 0 6) [] (Bx b Z) = .ok (cs.map .int, Bx b' Z) := by
  generalize hf : lcGo _ _ _ _ _ _ _ _ = r
  obtain ⟨acc, s, rfl, cs, b', e1, rfl, rfl⟩ := lc_at hf (fun i acc st => ∃ (cs : List Int) (b' : Box), cs.length = i ∧ acc = cs.map .int ∧ st = Bx b' Z) ⟨[], b, rfl, rfl, rfl⟩ (fun _ _ _ _ _ => rfl) (fun i d acc st hd ⟨cs, b', e1, e2, e3⟩ => by
    subst e2 e3
    refine ⟨env.set j (some d), by simp [Tg1.put], ?_⟩
    have g0 : (env.set j (some d))[0]? = some (some (.ref 1)) := by rw [List.getElem?_set_ne hj]; exact h0
    obtain ⟨t, b2, _, et⟩ := take_ok b' Z 2 (by decide) (by decide)
    simp [g0, et]
    exact ⟨cs ++ [t], by simp [e1], by simp, b2, rfl⟩)
  exact ⟨cs, b', by simpa using e1, rfl⟩
def m_law_drawn : FV := funD 10 (d_law_drawn m_law_take m_law_row m_law_sign)
theorem drawn_ok {p : Page} (hp : okPage p = true) (b : Box) (Z : Store) {d : D} {w : List (Nat × List D)} (hd : ∀ b, listOf (Bx b Z) d = some (encP p, w)) : ∃ dd b', DeedOk p dd ∧ m_law_drawn [.ref 1, d] (Bx b Z) = .ok (deedD dd, Bx b' Z) := by
  obtain ⟨p1, p2, p3⟩ := okPage_parts hp
  have ln := fun b => len_list (hd b)
  simp only [encP_len] at ln
  obtain ⟨k0, b1, ⟨k1, k2⟩, tk1⟩ := take_ok b Z p.length (by omega) (by omega)
  obtain ⟨k, rfl⟩ : ∃ k : Nat, k0 = k := ⟨k0.toNat, by omega⟩
  have hk : k < p.length := by omega
  have rx := fun b => lix_row (hd b) hk
  obtain ⟨ra, rl, rc⟩ := rowAt_ok hp hk
  have cl := cellsIn_le hp hk
  have lr : ∀ S, lenG S [encR (rowAt p k)] = .ok (.int (cellsIn p k), S) := fun S => by
    show R.ok (D.int (((rowAt p k).map D.str).length : Nat), S) = _
    rw [List.length_map, rl]
  obtain ⟨c0, b2, ⟨c1, c2⟩, tk2⟩ := take_ok b1 Z (cellsIn p k) (by omega) (by omega)
  obtain ⟨c, rfl⟩ : ∃ c : Nat, c0 = c := ⟨c0.toNat, by omega⟩
  have hc : c < cellsIn p k := by omega
  have r2 := fun S => cellIx (S := S) (r := rowAt p k) (c := c) (by omega)
  have rcc : ∀ c, (rowAt p k).getD c [] = cellAt p k c := fun _ => rfl
  simp only [rcc] at r2
  have co := cellAt_ok hp hk hc
  have c10 := (okCell_un co).1
  obtain ⟨e0, b3, ⟨e1, e2⟩, tk3⟩ := take_ok b2 Z ((cellAt p k c).length + 1) (by omega) (by omega)
  obtain ⟨x0, b4, ⟨x1, x2⟩, tk4⟩ := take_ok b3 Z 2 (by decide) (by decide)
  have hx : ∃ e : Nat, atI [D.int e0, D.int (cellAt p k c).length] x0 = some (.int e) ∧ e ≤ (cellAt p k c).length := by
    obtain ⟨z, hz, mz⟩ := atI_mem (l := [D.int e0, D.int (cellAt p k c).length]) (i := x0) x1 (by simpa using x2)
    simp only [List.mem_cons, List.not_mem_nil, or_false] at mz
    rcases mz with rfl | rfl
    · exact ⟨e0.toNat, by rw [hz]; congr 2; omega, by omega⟩
    · exact ⟨_, hz, Nat.le_refl _⟩
  obtain ⟨e, hxe, he⟩ := hx
  have v : Valid p (k, c, e) := ⟨hk, hc, he⟩
  obtain ⟨wy, b5, ⟨w1, w2⟩, tk5⟩ := take_ok b4 Z 12 (by decide) (by decide)
  obtain ⟨cs, b6, hcs, so⟩ := sorts_ok (j := 9) b5 Z [some (.ref 1), some d, some (.int k), some (encR (rowAt p k)), some (.int c), some (.int e), none, none, none, none] rfl (by decide) (by simp)
  have a1 : ∀ (S : Store) (a b : Int), addG false S (.int a) (.int b) = .ok (.int (a + b), S) := fun _ _ _ => rfl
  have one : (1 : Nat) ≤ LIM := by decide
  have two : (2 : Nat) ≤ LIM := by decide
  have three : (3 : Nat) ≤ LIM := by decide
  have four : (4 : Nat) ≤ LIM := by decide
  have five : (5 : Nat) ≤ LIM := by decide
  have six : (6 : Nat) ≤ LIM := by decide
  rw [m_law_drawn, funD, d_law_drawn]
  obtain ⟨RW, hRW⟩ : ∃ RW, RW = encR (rowAt p k) := ⟨_, rfl⟩
  rw [← hRW] at rx lr r2 so
  have body : ∀ st : Store, st = st := fun _ => rfl
  by_cases z1 : wy < 2
  · obtain ⟨x, b7, ⟨x1', x2'⟩, tk7⟩ := take_ok b6 Z 2 (by decide) (by decide)
    obtain ⟨m, b8, ⟨m1, m2⟩, tk8⟩ := take_ok b7 Z 6 (by decide) (by decide)
    obtain ⟨r, b9, hr, er⟩ := row_ok b8 Z cs (1 + m) (by omega) (by omega) hcs
    obtain ⟨z, hz, mz⟩ := atI_mem (l := [D.int k, D.int p.length]) (i := x) x1' (by simpa using x2')
    have hz' : ∃ k' : Nat, z = .int k' ∧ k' ≤ p.length := by
      simp only [List.mem_cons, List.not_mem_nil, or_false] at mz
      rcases mz with rfl | rfl
      · exact ⟨k, rfl, by omega⟩
      · exact ⟨p.length, rfl, Nat.le_refl _⟩
    obtain ⟨k', rfl, hk'⟩ := hz'
    refine ⟨.put k' r, b9, ⟨hk', hr⟩, ?_⟩
    simp [ln, tk1, rx, lr, tk2, r2, a1, tk3, tk4, hxe, tk5, so, ltG, two, newL, z1, tk7, tk8, er, hz, three, -ix_tup, deedD]
  · by_cases z2 : wy = 2
    · refine ⟨.take k, b6, hk, ?_⟩
      simp [ln, tk1, rx, lr, tk2, r2, a1, tk3, tk4, hxe, tk5, so, ltG, two, newL, z1, z2, -ix_tup, deedD]
    · by_cases z3 : wy = 3
      · obtain ⟨m, b7, ⟨m1, m2⟩, tk7⟩ := take_ok b6 Z 6 (by decide) (by decide)
        obtain ⟨x, b8, ⟨x1', x2'⟩, tk8⟩ := take_ok b7 Z 2 (by decide) (by decide)
        obtain ⟨z, hz, mz⟩ := atI_mem (l := [D.int (cellsIn p k), D.int (1 + m)]) (i := x) x1' (by simpa using x2')
        have hz' : ∃ n : Int, z = .int n ∧ 1 ≤ n ∧ n ≤ 6 := by
          simp only [List.mem_cons, List.not_mem_nil, or_false] at mz
          rcases mz with rfl | rfl
          · exact ⟨_, rfl, by omega, by omega⟩
          · exact ⟨_, rfl, by omega, by omega⟩
        obtain ⟨n, rfl, n1, n2⟩ := hz'
        obtain ⟨r, b9, hr, er⟩ := row_ok b8 Z cs n n1 n2 hcs
        obtain ⟨x', b10, ⟨x1'', x2''⟩, tk10⟩ := take_ok b9 Z 3 (by decide) (by decide)
        obtain ⟨z, hz2, mz⟩ := atI_mem (l := [encR r, encR r, RW]) (i := x') x1'' (by simpa using x2'')
        have hz' : ∃ r', z = encR r' ∧ okRow r' = true := by
          simp only [List.mem_cons, List.not_mem_nil, or_false] at mz
          rcases mz with rfl | rfl | rfl
          · exact ⟨r, rfl, hr⟩
          · exact ⟨r, rfl, hr⟩
          · exact ⟨rowAt p k, hRW, ra⟩
        obtain ⟨r', rfl, hr'⟩ := hz'
        refine ⟨.change k r', b10, ⟨hk, hr'⟩, ?_⟩
        simp [ln, tk1, rx, lr, tk2, r2, a1, tk3, tk4, hxe, tk5, so, ltG, two, three, newL, z1, z2, z3, tk7, tk8, hz, er, tk10, hz2, -ix_tup, deedD]
      · by_cases z4 : wy < 7
        · obtain ⟨x, b7, ⟨x1', x2'⟩, tk7⟩ := take_ok b6 Z 10 (by decide) (by decide)
          obtain ⟨f, hf, mf⟩ := atI_mem (l := [48, 49, 50, 51, 52, 53, 54, 55, 56, 57]) (i := x) x1' (by simpa using x2')
          obtain ⟨sg, b8, hsg, esg⟩ := sign_ok b7 Z
          obtain ⟨z, hz, mz⟩ := atI_mem (l := [D.str [9], D.str [f], D.str [sg]]) (i := wy - 4) (by omega) (by simp; omega)
          have hz' : ∃ s, z = .str s ∧ (s = [9] ∨ ∃ x, s = [x] ∧ okSign x = true) := by
            simp only [List.mem_cons, List.not_mem_nil, or_false] at mz
            rcases mz with rfl | rfl | rfl
            · exact ⟨_, rfl, .inl rfl⟩
            · refine ⟨_, rfl, .inr ⟨f, rfl, ?_⟩⟩
              simp only [List.mem_cons, List.not_mem_nil, or_false] at mf
              rcases mf with rfl | rfl | rfl | rfl | rfl | rfl | rfl | rfl | rfl | rfl <;> rfl
            · exact ⟨_, rfl, .inr ⟨sg, rfl, hsg⟩⟩
          obtain ⟨s, rfl, hs⟩ := hz'
          refine ⟨.strike k c e s, b8, ⟨v, hs⟩, ?_⟩
          simp [ln, tk1, rx, lr, tk2, r2, a1, tk3, tk4, hxe, tk5, so, ltG, two, three, five, newL, z1, z2, z3, z4, tk7, hf, esg, subG, hz, -ix_tup, deedD]
        · by_cases z5 : wy < 9
          · refine ⟨.erase k c e, b6, v, ?_⟩
            simp [ln, tk1, rx, lr, tk2, r2, a1, tk3, tk4, hxe, tk5, so, ltG, two, four, newL, z1, z2, z3, z4, z5, -ix_tup, deedD]
          · by_cases z6 : wy < 11
            · obtain ⟨z, hz, mz⟩ := atI_mem (l := [deedD (.part k c e), deedD (.unite k)]) (i := wy - 9) (by omega) (by simp; omega)
              have hz' : ∃ dd, z = deedD dd ∧ DeedOk p dd := by
                simp only [List.mem_cons, List.not_mem_nil, or_false] at mz
                rcases mz with rfl | rfl
                · exact ⟨_, rfl, v⟩
                · exact ⟨_, rfl, hk⟩
              obtain ⟨dd, rfl, hdd⟩ := hz'
              refine ⟨dd, b6, hdd, ?_⟩
              change atI [D.tup [.str [112, 97, 114, 116], .int k, .int c, .int e], D.tup [.str [117, 110, 105, 116, 101], .int k]] (wy - 9) = _ at hz
              generalize deedD dd = DD at hz ⊢
              simp [ln, tk1, rx, lr, tk2, r2, a1, tk3, tk4, hxe, tk5, so, ltG, two, four, newL, z1, z2, z3, z4, z5, z6, subG, hz, -ix_tup]
            · refine ⟨.back, b6, trivial, ?_⟩
              simp [ln, tk1, rx, lr, tk2, r2, a1, tk3, tk4, hxe, tk5, so, ltG, two, one, newL, z1, z2, z3, z4, z5, z6, -ix_tup, deedD]
def m_law_do : FV := funD 3 (d_law_do m_Sheet_put m_Sheet_take m_Sheet_change m_Sheet_strike_k10 m_Sheet_erase m_Sheet_part m_Sheet_unite m_Sheet_back)
def m_law_told : FV := funD 3 (d_law_told m_law_do)
section
variable {S : Store} {n L Q : Nat} {p : Page} {y : Sty} {ps : List Page}
theorem sh_nam (p : Page) (y : Sty) (L Q : Nat) : (shFs p y L Q).lookup ("put" : Str) = none ∧ (shFs p y L Q).lookup ("take" : Str) = none ∧ (shFs p y L Q).lookup ("strike" : Str) = none ∧ (shFs p y L Q).lookup ("erase" : Str) = none ∧ (shFs p y L Q).lookup ("part" : Str) = none ∧ (shFs p y L Q).lookup ("unite" : Str) = none :=
  ⟨sh_no p y L Q (by decide +kernel) (by decide +kernel) (by decide +kernel) (by decide +kernel), sh_no p y L Q (by decide +kernel) (by decide +kernel) (by decide +kernel) (by decide +kernel), sh_no p y L Q (by decide +kernel) (by decide +kernel) (by decide +kernel) (by decide +kernel),
   sh_no p y L Q (by decide +kernel) (by decide +kernel) (by decide +kernel) (by decide +kernel), sh_no p y L Q (by decide +kernel) (by decide +kernel) (by decide +kernel) (by decide +kernel), sh_no p y L Q (by decide +kernel) (by decide +kernel) (by decide +kernel) (by decide +kernel)⟩
/-- a deed but back: refused, or turned -/
theorem do_ok (h : Sht S n p y L Q ps) (hp : okPage p = true) {dd : Deed} (hd : DeedOk p dd) (hb : dd ≠ .back) : ∃ c, (c = 3 ∨ c = 4) ∧ m_law_do [.ref n, deedD dd] S = doneBy n p dd c S := by
  obtain ⟨n1, n2, n3, n4, n5, n6⟩ := sh_nam p y L Q
  have n7 := sh_change p y L Q
  have hsh := h.sh
  rw [m_law_do, funD, d_law_do]
  have fin : ∀ r : R (D × Store), (r.bind fun a => R.ok (a.1, a.2)) = r := fun r => by cases r <;> rfl
  cases dd with
  | put k r =>
    have i0 : ixG S (deedD (.put k r)) (.int 0) = .ok (.str [112, 117, 116], S) := rfl
    have i1 : ixG S (deedD (.put k r)) (.int 1) = .ok (.int k, S) := rfl
    have i2 : ixG S (deedD (.put k r)) (.int 2) = .ok (encR r, S) := rfl
    have e := sh_put_ok h hp hd.1 hd.2
    have : m_Sheet_put [.ref n, .int k, encR r] S = doneBy n p (.put k r) 3 S := by
      rw [e]; unfold doneBy; simp only [editOf]
      split <;> rfl
    refine ⟨3, .inl rfl, ?_⟩
    rw [← this]
    generalize deedD (.put k r) = DD at i0 i1 i2 ⊢
    simp [i0, i1, i2, eqs, hsh, n1, -ix_tup]
    generalize m_Sheet_put _ _ = r
    cases r <;> rfl
  | take k =>
    have i0 : ixG S (deedD (.take k)) (.int 0) = .ok (.str [116, 97, 107, 101], S) := rfl
    have i1 : ixG S (deedD (.take k)) (.int 1) = .ok (.int k, S) := rfl
    have e := sh_take_ok h hp hd
    have : m_Sheet_take [.ref n, .int k] S = doneBy n p (.take k) 3 S := by
      rw [e]; unfold doneBy; simp only [editOf]
      split <;> rfl
    refine ⟨3, .inl rfl, ?_⟩
    rw [← this]
    generalize deedD (.take k) = DD at i0 i1 ⊢
    simp [i0, i1, eqs, hsh, n2, -ix_tup]
    generalize m_Sheet_take _ _ = r
    cases r <;> rfl
  | change k r =>
    have i0 : ixG S (deedD (.change k r)) (.int 0) = .ok (.str [99, 104, 97, 110, 103, 101], S) := rfl
    have i1 : ixG S (deedD (.change k r)) (.int 1) = .ok (.int k, S) := rfl
    have i2 : ixG S (deedD (.change k r)) (.int 2) = .ok (encR r, S) := rfl
    have e := sh_change_ok h hp hd.1 hd.2
    have : m_Sheet_change [.ref n, .int k, encR r] S = doneBy n p (.change k r) 3 S := by
      rw [e]; unfold doneBy; simp only [editOf]; rfl
    refine ⟨3, .inl rfl, ?_⟩
    rw [← this]
    generalize deedD (.change k r) = DD at i0 i1 i2 ⊢
    simp [i0, i1, i2, eqs, hsh, n7, -ix_tup]
    generalize m_Sheet_change _ _ = r
    cases r <;> rfl
  | strike k c e s =>
    have i0 : ixG S (deedD (.strike k c e s)) (.int 0) = .ok (.str [115, 116, 114, 105, 107, 101], S) := rfl
    have i1 : ixG S (deedD (.strike k c e s)) (.int 1) = .ok (.int k, S) := rfl
    have i2 : ixG S (deedD (.strike k c e s)) (.int 2) = .ok (.int c, S) := rfl
    have i3 : ixG S (deedD (.strike k c e s)) (.int 3) = .ok (.int e, S) := rfl
    have i4 : ixG S (deedD (.strike k c e s)) (.int 4) = .ok (.str s, S) := rfl
    refine ⟨4, .inr rfl, ?_⟩
    rw [← sh_strike_ok h hp hd.1 hd.2]
    generalize deedD (.strike k c e s) = DD at i0 i1 i2 i3 i4 ⊢
    simp [i0, i1, i2, i3, i4, eqs, hsh, n3, -ix_tup]
    generalize m_Sheet_strike_k10 _ _ = r
    cases r <;> rfl
  | erase k c e =>
    have i0 : ixG S (deedD (.erase k c e)) (.int 0) = .ok (.str [101, 114, 97, 115, 101], S) := rfl
    have i1 : ixG S (deedD (.erase k c e)) (.int 1) = .ok (.int k, S) := rfl
    have i2 : ixG S (deedD (.erase k c e)) (.int 2) = .ok (.int c, S) := rfl
    have i3 : ixG S (deedD (.erase k c e)) (.int 3) = .ok (.int e, S) := rfl
    refine ⟨4, .inr rfl, ?_⟩
    rw [← sh_erase_ok h hp hd]
    generalize deedD (.erase k c e) = DD at i0 i1 i2 i3 ⊢
    simp [i0, i1, i2, i3, eqs, hsh, n4, -ix_tup]
    generalize m_Sheet_erase _ _ = r
    cases r <;> rfl
  | part k c e =>
    have i0 : ixG S (deedD (.part k c e)) (.int 0) = .ok (.str [112, 97, 114, 116], S) := rfl
    have i1 : ixG S (deedD (.part k c e)) (.int 1) = .ok (.int k, S) := rfl
    have i2 : ixG S (deedD (.part k c e)) (.int 2) = .ok (.int c, S) := rfl
    have i3 : ixG S (deedD (.part k c e)) (.int 3) = .ok (.int e, S) := rfl
    refine ⟨3, .inl rfl, ?_⟩
    rw [← sh_part_ok h hp hd]
    generalize deedD (.part k c e) = DD at i0 i1 i2 i3 ⊢
    simp [i0, i1, i2, i3, eqs, hsh, n5, -ix_tup]
    generalize m_Sheet_part _ _ = r
    cases r <;> rfl
  | unite k =>
    have i0 : ixG S (deedD (.unite k)) (.int 0) = .ok (.str [117, 110, 105, 116, 101], S) := rfl
    have i1 : ixG S (deedD (.unite k)) (.int 1) = .ok (.int k, S) := rfl
    refine ⟨if k + 1 = p.length then 3 else 4, by split <;> simp, ?_⟩
    rw [← sh_unite_ok h hp hd]
    generalize deedD (.unite k) = DD at i0 i1 ⊢
    simp [i0, i1, eqs, hsh, n6, -ix_tup]
    generalize m_Sheet_unite _ _ = r
    cases r <;> rfl
  | back => exact absurd rfl hb
theorem do_back (h : Sht S n p y L Q ps) : m_law_do [.ref n, deedD .back] S = m_Sheet_back [.ref n] S := by
  rw [m_law_do, funD, d_law_do]
  have i0 : ixG S (deedD .back) (.int 0) = .ok (.str [98, 97, 99, 107], S) := rfl
  have hsh := h.sh
  generalize deedD .back = DD at i0 ⊢
  simp [i0, eqs, hsh, sh_back, -ix_tup]
  generalize m_Sheet_back _ _ = r
  cases r <;> rfl
theorem told_of {S : Store} {a d : D} {v : D} {S' : Store} (h : m_law_do [a, d] S = .ok (v, S')) : m_law_told [a, d] S = .ok (v, S') := by
  rw [m_law_told, funD, d_law_told]
  simp [h]
theorem told_bad {S : Store} {a d : D} {c : Nat} {S' : Store} (hc : c = 3 ∨ c = 4) (h : m_law_do [a, d] S = .exc c none S') : m_law_told [a, d] S = .ok (.str [114, 101, 102, 117, 115, 101, 100], S') := by
  rw [m_law_told, funD, d_law_told]
  rcases hc with rfl | rfl <;> simp [h]
end
end Dl
namespace Dl
open PySem L2
/-- law_bare_k22: 3 slots, 1 parameters -/
def d_law_bare_k22 : SV := sCons (sAsg (eLc true (iSeq (eV 0)) [2] (.one 2) (tYesD) (eMt "str" (rstripG) (eV 2) (aCons (eC (.str [32])) (aNil)))) (gN 1)) (sCons (whileGo (tAndD (tv (eOp (eqG true) (eV 1) (eLst false (aNil)))) (tv (eOp (eqG false) (eOp ixG (eV 1) (eNeg (eC (.int 1)))) (eC (.str []))))) (sExpr (eMt "list" (popG) (eV 1) aNil)) 100000) (sRet (eV 1)))
/-- law_fits: 11 slots, 2 parameters -/
def d_law_fits (m_strokes : FV) (m_law_bare_k22 : FV) (m_painted : FV) : SV := sCons (sAsg (eCall 2 m_strokes (aCons (eV 0) (aCons (eV 1) (aNil)))) (gN 2)) (sCons (sAsg (eB maxG (aCons (eB lenG (aCons (eV 0) (aNil))) (aCons (eB lenG (aCons (eV 1) (aNil))) (aNil)))) (gN 3)) (sCons (sIf (tv (eOp (eqG true) (eCall 1 m_law_bare_k22 (aCons (eCall 2 m_painted (aCons (eV 0) (aCons (eV 2) (aNil)))) (aNil))) (eCall 1 m_law_bare_k22 (aCons (eV 1) (aNil))))) (sRet (eC (.bl false))) (sNext)) (sCons (sIf (tv (eOp (eqG true) (eOp (eqG false) (eV 2) (eLst false (aNil))) (eOp (eqG false) (eCall 1 m_law_bare_k22 (aCons (eV 0) (aNil))) (eCall 1 m_law_bare_k22 (aCons (eV 1) (aNil)))))) (sRet (eC (.bl false))) (sNext)) (sCons (sAsg (eDictK) (gN 4)) (sCons (sFor (iSeq (eV 2)) (gTp 3 (gsCons (gN 5) (gsCons (gN 6) (gsCons (gN 7) (gsNil))))) (sCons (sAsg (eOp (addG false) (eOp ixG (eOp (addG false) (eV 0) (eOp (mulG false) (eLst false (aCons (eC (.str [])) (aNil))) (eV 3))) (eV 5)) (eOp (mulG false) (eC (.str [32])) (eC (.int 200)))) (gN 8)) (sCons (sAsg (eOp (addG false) (eOp ixG (eOp (addG false) (eV 1) (eOp (mulG false) (eLst false (aCons (eC (.str [])) (aNil))) (eV 3))) (eV 5)) (eOp (mulG false) (eC (.str [32])) (eC (.int 200)))) (gN 9)) (sCons (sAsg (eOp subG (eOp (addG false) (eV 6) (eB lenG (aCons (eV 7) (aNil)))) (eC (.int 1))) (gN 10)) (sCons (sIf (tOrD (tv (eOp (eqG false) (eOp ixG (eV 8) (eV 6)) (eOp ixG (eV 9) (eV 6)))) (tOrD (tv (eOp (eqG false) (eOp ixG (eV 8) (eV 10)) (eOp ixG (eV 9) (eV 10)))) (tv (eOp (eqG true) (eSl false (eV 9) (poSome (eV 6)) (poSome (eOp (addG false) (eV 10) (eC (.int 1))))) (eV 7))))) (sRet (eC (.bl false))) (sNext)) (sCons (sIf (tv (eOp ltG (eOp subG (eV 6) (eGet2 (eV 4) (eV 5) (eNeg (eC (.int 9))))) (eC (.int 4)))) (sRet (eC (.bl false))) (sNext)) (sAsg (eV 10) (gSb (eV 4) (eV 5) dsetG)))))))) (sRet (eOp (eqG false) (eCall 2 m_strokes (aCons (eV 1) (aCons (eV 1) (aNil)))) (eLst false (aNil)))))))))
/-- law_k22: 15 slots, 1 parameters -/
def d_law_k22 (m_law_begun : FV) (m_law_lines_two : FV) (m_law_fits : FV) (m_law_page : FV) (m_law_take : FV) (m_law_style : FV) (m_shown : FV) (m_Sheet_page : FV) (m_law_drawn : FV) (m_law_told : FV) (m_strokes : FV) (m_Sheet_init : FV) : SV := sCons (sAsg (eCall 1 m_law_begun (aCons (eV 0) (aNil))) (gN 1)) (sCons (sFor (iR1 (aCons (eC (.int 3)) (aNil))) (gN 2) (sCons (sAsg (eCall 1 m_law_lines_two (aCons (eV 1) (aNil))) (gTp 2 (gsCons (gN 3) (gsCons (gN 4) (gsNil))))) (sIf (tOrD (tNotD (tv (eCall 2 m_law_fits (aCons (eV 3) (aCons (eV 4) (aNil)))))) (tNotD (tv (eCall 2 m_law_fits (aCons (eV 4) (aCons (eV 3) (aNil))))))) (sRet (eC (.bl false))) (sNext)))) (sCons (sPar 5 6 (aCons (eCall 2 m_law_page (aCons (eV 1) (aCons (eOp ixG (eLst false (aCons (eC (.int 4)) (aCons (eC (.int 12)) (aCons (eC (.int 30)) (aNil))))) (eCall 2 m_law_take (aCons (eV 1) (aCons (eC (.int 3)) (aNil))))) (aNil)))) (aCons (eCall 1 m_law_style (aCons (eV 1) (aNil))) (aNil)))) (sCons (sAsg (eMake 13 3 m_Sheet_init (aCons (eV 5) (aCons (eV 6) (aNil)))) (gN 7)) (sCons (sFor (iR1 (aCons (eCall 2 m_law_take (aCons (eV 1) (aCons (eC (.int 13)) (aNil)))) (aNil))) (gN 2) (sCons (sPar 8 9 (aCons (eCall 2 m_shown (aCons (eMeth 13 "page" 1 m_Sheet_page (eV 7) aNil) (aCons (eV 6) (aNil)))) (aCons (eMeth 13 "page" 1 m_Sheet_page (eV 7) aNil) (aNil)))) (sCons (sAsg (eCall 2 m_law_drawn (aCons (eV 1) (aCons (eV 9) (aNil)))) (gN 10)) (sCons (sAsg (eCall 2 m_law_told (aCons (eV 7) (aCons (eV 10) (aNil)))) (gN 11)) (sCons (sAsg (eCall 2 m_shown (aCons (eMeth 13 "page" 1 m_Sheet_page (eV 7) aNil) (aCons (eV 6) (aNil)))) (gN 12)) (sCons (sIf (tNotD (tv (eCall 2 m_law_fits (aCons (eV 8) (aCons (eV 12) (aNil)))))) (sRet (eC (.bl false))) (sNext)) (sIf (tAndD (tv (eOp (inG false) (eOp ixG (eV 10) (eC (.int 0))) (eTup (aCons (eC (.str [99, 104, 97, 110, 103, 101])) (aCons (eC (.str [115, 116, 114, 105, 107, 101])) (aCons (eC (.str [101, 114, 97, 115, 101])) (aNil))))))) (tv (eIs "list" (eV 11)))) (sCons (sAsg (eOp (addG false) (eLc false (iSeq (eV 11)) [14] (.one 14) (tYesD) (eOp ixG (eV 14) (eC (.int 0)))) (eLst false (aCons (eOp ixG (eV 10) (eC (.int 1))) (aNil)))) (gN 13)) (sIf (tv (eOp (eqG true) (eLc false (iSeq (eCall 2 m_strokes (aCons (eV 8) (aCons (eV 12) (aNil))))) [14] (.one 14) (tv (eOp (inG true) (eOp ixG (eV 14) (eC (.int 0))) (eV 13))) (eV 14)) (eLst false (aNil)))) (sRet (eC (.bl false))) (sNext))) (sNext)))))))) (sRet (eC (.bl true)))))))
end Dl
namespace Dl
open PySem L2
/-- a list's line, or none -/
theorem line_in {ls : List (List Nat)} {d : D} {w : List (Nat × List D)} {S : Store} (h : listOf S d = some (strsD ls, w)) (i j jj : Nat) (env : Env) (g1 : env[j]? = some (some d)) (g2 : env[jj]? = some (some (.int i))) :
    eIf (tv (eOp ltG (eV jj) (eB lenG (aCons (eV j) (aNil))))) (eOp ixG (eV j) (eV jj)) (eC (.str [])) env S = .ok (.str (lineAt ls i), S) := by
  have ln := len_list h
  simp only [strsD_len] at ln
  by_cases h' : i < ls.length
  · have hi : (i : Int) < ls.length := by omega
    have ei : atI (strsD ls) (i : Int) = some (.str (lineAt ls i)) := by
      rw [atI_nat]
      unfold lineAt
      rw [strsD_get (List.getElem?_eq_getElem h'), List.getElem?_eq_getElem h']; rfl
    have ix := ix_list h (i : Int)
    simp only [ei, Option.map_some, R.of_some] at ix
    simp [g1, g2, ln, ltG, hi, ix]
  · have hi : ¬ (i : Int) < ls.length := by omega
    have e : lineAt ls i = [] := by unfold lineAt; rw [List.getElem?_eq_none (by omega)]; rfl
    simp [g1, g2, ln, ltG, hi, e]
theorem strokes_okG {l1 l2 : List (List Nat)} (h1 : l1.length ≤ 30) (h2 : l2.length ≤ 30) (k1 : ∀ s ∈ l1, okLine s = true) (k2 : ∀ s ∈ l2, okLine s = true) {st : Store} {d1 d2 : D} {w1 w2 : List (Nat × List D)} (g1 : listOf st d1 = some (strsD l1, w1)) (g2 : listOf st d2 = some (strsD l2, w2)) :
    ∃ mid, m_strokes [d1, d2] st = .ok (.ref st.length, st ++ .lst (strkA l1 l2) :: mid) := by
  have nl1 := need_lines_ok g1 (by simp; exact h1) (strs_lines k1)
  have nl2 := need_lines_ok g2 (by simp; exact h2) (strs_lines k2)
  have ln1 : ∀ M, lenG (st ++ M) [d1] = .ok (.int l1.length, st ++ M) := fun M => by
    have := len_list (listOf_stays (Stays.app st M) g1)
    simpa using this
  have ln2 : ∀ M, lenG (st ++ M) [d2] = .ok (.int l2.length, st ++ M) := fun M => by
    have := len_list (listOf_stays (Stays.app st M) g2)
    simpa using this
  unfold m_strokes funD d_strokes
  generalize hN : max l1.length l2.length = N
  have mx : ∀ st, maxG st [.int (l1.length : Int), .int (l2.length : Int)] = .ok (.int (N : Int), st) := fun st => by
    show R.ok (D.int (max (l1.length : Int) l2.length), st) = _
    congr 3; omega
  have m1 : -1000000 ≤ (N : Int) ∧ (N : Int) ≤ 1000000 := by omega
  simp [nl1, nl2, ln1, ln2, mx, m1]
  generalize hf : forGo _ _ _ _ _ _ = r
  obtain ⟨e, s', rfl, mid, rfl, a3, a4, a5, rfl⟩ := for_at hf (fun i env st' => ∃ mid, st' = st ++ .lst (strkN l1 l2 i) :: mid ∧ ∃ a3 a4 a5, env = [some d1, some d2, some (.ref st.length), a3, a4, a5]) ⟨[], rfl, _, _, _, rfl⟩ (fun _ _ _ _ _ => rfl) (fun i x env st' hi ⟨mid, e1, a3, a4, a5, e2⟩ => by
    subst e1 e2
    obtain ⟨hi, rfl⟩ := ints_get hi
    rw [r_gN]
    simp only [sOf_m, List.set_cons_succ, List.set_cons_zero]
    rw [sCons_nx (sAsgN_at (line_in (listOf_stays (Stays.app st _) g1) i 0 3 _ rfl rfl))]
    simp only [List.set_cons_succ, List.set_cons_zero]
    rw [sCons_nx (sAsgN_at (line_in (listOf_stays (Stays.app st _) g2) i 1 3 _ rfl rfl))]
    simp only [List.set_cons_succ, List.set_cons_zero]
    have q1 := lineAt_ok k1 i
    have q2 := lineAt_ok k2 i
    have so := strokes_of_ok i q1.1 q2.1 (st ++ .lst (strkN l1 l2 i) :: mid)
    have sl := strkN_len l1 l2 i
    have sd := strkD_len i (lineAt l1 i) (lineAt l2 i)
    have eN : strkN l1 l2 (i + 1) = strkN l1 l2 i ++ strkD i (lineAt l1 i) (lineAt l2 i) := rfl
    rw [eN]
    generalize strkD i (lineAt l1 i) (lineAt l2 i) = X at so sd ⊢
    generalize hB : st ++ Ob.lst (strkN l1 l2 i) :: mid = B at so ⊢
    have g1 : (B ++ [Ob.lst X])[st.length]? = some (.lst (strkN l1 l2 i)) := by
      rw [List.getElem?_append_left (by rw [← hB]; simp), ← hB, List.getElem?_append_right (Nat.le_refl _)]
      simp
    have g2 := fr_list B X
    have g3 := lst_list g2
    have ex : extendG (B ++ [Ob.lst X]) (.ref st.length) [.ref B.length] = .ok (.non, st ++ .lst (strkN l1 l2 i ++ X) :: (mid ++ [.lst X])) := by
      unfold extendG
      simp only [g1, g3]
      have hlim : (strkN l1 l2 i).length + X.length ≤ LIM := le_LIM (by omega)
      rw [if_pos hlim, ← hB, List.append_assoc, List.set_append_right _ _ (Nat.le_refl _)]
      simp
    have ty : tyM B (.ref st.length) = some "list" := by
      have : B[st.length]? = some (.lst (strkN l1 l2 i)) := by
        rw [← hB, List.getElem?_append_right (Nat.le_refl _)]; simp
      simp only [tyM, this]
    generalize B ++ [Ob.lst X] = S1 at *
    generalize B.length = kb at *
    simp [ty, so, ex])
  rw [intsD_len]
  refine ⟨mid, ?_⟩
  unfold strkA
  rw [hN]
  simp
theorem list_copy {S : Store} {d : D} {ds : List D} {w : List (Nat × List D)} (h : listOf S d = some (ds, w)) : listG true S [d] = .ok (.ref S.length, S ++ [.lst ds]) := by
  have lo := lst_list h
  cases d <;> first | (simp only at lo; simp [listG, lo]; done) | cases h
theorem painted_okG {ls : List (List Nat)} (hl : ls.length ≤ 30) (hok : ∀ s ∈ ls, okLine s = true) {dr : List Stk} (hd : ∀ s ∈ dr, s.ok) (hdl : dr.length ≤ 10000) {st : Store} {d1 d2 : D} {w1 w2 : List (Nat × List D)} (g1 : listOf st d1 = some (strsD ls, w1)) (g2 : listOf st d2 = some (drD dr, w2)) :
    ∃ mid, m_painted [d1, d2] st = .ok (.ref (st ++ mid).length, st ++ mid ++ [.lst (strsD (rsL (progF ls dr)))]) := by
  have nl := need_lines_ok g1 (by simp; exact hl) (strs_lines hok)
  unfold m_painted funD d_painted
  simp [nl, g2]
  generalize hf : forGo _ _ _ _ _ _ = r
  obtain ⟨e, s', rfl, hs', a, b, rfl⟩ := for_at hf (fun i env st' => st' = st ∧ ∃ a b, env = [some d1, some d2, a, b, none, none, none, none]) ⟨rfl, _, _, rfl⟩ (fun _ _ _ _ hI => by rw [hI.1]; exact still_list g2) (fun i y env st' hi ⟨e1, a, b, e2⟩ => by
    subst e1 e2
    obtain ⟨y, hy, rfl⟩ := pairUp_at hi
    change (dr.map Stk.enc)[i]? = some y at hy
    rw [List.getElem?_map] at hy
    cases q : dr[i]? with
    | none => rw [q] at hy; cases hy
    | some s =>
      rw [q] at hy
      cases hy
      simp [is_stroke_ok (hd s (List.mem_of_getElem? q))])
  rw [hs']
  clear hs'
  have lo1 := list_copy g1
  have it2 := items_list (listOf_stays (Stays.app st [Ob.lst (strsD ls)]) g2)
  simp [lo1, it2]
  generalize hf : forGo _ _ _ _ _ _ = r
  have lens : ∀ i, ∀ j, (lineAt (progF ls (dr.take i)) j).length ≤ 200 := fun i j => (prog_law (dr.take i) ls (fun s hs => hd s (List.mem_of_mem_take hs)) (fun j => by
    unfold lineAt
    cases q : ls[j]? with
    | none => simp
    | some l => exact (okLine_parts (hok l (List.mem_of_getElem? q))).1) j).1
  have lenF : ∀ i, (progF ls (dr.take i)).length ≤ 30 := fun i => by
    rw [prog_len]
    have key : ∀ (l : List Stk) (m : Nat), m ≤ 30 → (∀ s ∈ l, s.ok) → l.foldl (fun m s => max m (s.n + 1)) m ≤ 30 := by
      intro l
      induction l with
      | nil => exact fun m h _ => h
      | cons s l ih =>
        intro m h hs
        have := (hs s (by simp)).1
        exact ih _ (by show max m (s.n + 1) ≤ 30; omega) fun t ht => hs t (by simp [ht])
    exact key _ _ hl fun s hs => hd s (List.mem_of_mem_take hs)
  obtain ⟨e, s', rfl, rfl, a2, a5, a6, a7, rfl⟩ := for_at hf (fun i env st' => st' = st ++ [.lst (strsD (progF ls (dr.take i)))] ∧ ∃ a2 a5 a6 a7, env = [some d1, some d2, a2, b, some (.ref st.length), a5, a6, a7]) ⟨rfl, _, _, _, _, rfl⟩ (fun _ _ _ _ hI => by rw [hI.1]; exact still_list (listOf_stays (Stays.app st _) g2)) (fun i y env st' hi ⟨e1, a2, a5, a6, a7, e2⟩ => by
    subst e1 e2
    unfold drD at hi
    rw [List.getElem?_map] at hi
    cases q : dr[i]? with
    | none => rw [q] at hi; cases hi
    | some s =>
      rw [q] at hi
      cases hi
      have sok := hd s (List.mem_of_getElem? q)
      have lF := lenF i
      have hl2 := lens i s.n
      have eP : progF ls (dr.take i ++ [s]) = stepP (progF ls (dr.take i)) s := by unfold progF; rw [List.foldl_append]; rfl
      rw [take_snoc q, eP]
      generalize progF ls (dr.take i) = F at lF hl2 ⊢
      unfold Stk.enc
      simp only [r_gTp, List.length_cons, List.length_nil, if_true, r_gsCons, r_gsNil, r_gN, bind_m, sOf_m, List.set_cons_succ, List.set_cons_zero]
      -- lines put behind
      have w : ∀ r, whileGo (tv (eOp leG (eB lenG (aCons (eV 4) (aNil))) (eV 2))) (sExpr (eMt "list" (appendG) (eV 4) (aCons (eC (.str [])) (aNil)))) 100000 [some d1, some d2, some (.int s.n), b, some (.ref st.length), some (.int s.b), some (.str s.sg), a7] (st ++ [Ob.lst (strsD F)]) = r →
          r = .nx [some d1, some d2, some (.int s.n), b, some (.ref st.length), some (.int s.b), some (.str s.sg), a7] (st ++ [Ob.lst (strsD (extL F s.n))]) := fun r hr => by
        obtain ⟨e, s', rfl, h⟩ := while_go hr (fun n env st' => ∃ m, m + n = s.n + 1 - F.length ∧ st' = st ++ [Ob.lst (strsD (F ++ List.replicate m []))] ∧ env = [some d1, some d2, some (.int s.n), b, some (.ref st.length), some (.int s.b), some (.str s.sg), a7])
          (fun env st' => st' = st ++ [Ob.lst (strsD (extL F s.n))] ∧ env = [some d1, some d2, some (.int s.n), b, some (.ref st.length), some (.int s.b), some (.str s.sg), a7]) (n := s.n + 1 - F.length) (by have := sok.1; omega) ⟨0, by omega, by simp, rfl⟩ (fun n env st' ⟨m, h1, h2, h3⟩ => by
          subst h2 h3
          have fl := fr_list st (strsD (F ++ List.replicate m []))
          have ty := fr_ty st (strsD (F ++ List.replicate m []))
          have ap := fr_app st (L := strsD (F ++ List.replicate m [])) (.str []) (by have := sok.1; simp; omega)
          have ln := len_list fl
          have le : (strsD (F ++ List.replicate m [])).length = F.length + m := by simp
          rw [le] at ln
          have e3 : strsD (F ++ List.replicate m []) ++ [.str []] = strsD (F ++ List.replicate (m + 1) []) := by rw [ext_snoc]; simp [strsD]
          rw [e3] at ap
          have hs : eB lenG (aCons (eV 4) (aNil)) [some d1, some d2, some (.int s.n), b, some (.ref st.length), some (.int s.b), some (.str s.sg), a7] (st ++ [Ob.lst (strsD (F ++ List.replicate m []))]) = .ok (.int ((F.length + m : Nat) : Int), st ++ [Ob.lst (strsD (F ++ List.replicate m []))]) := eB1_at (eV_at rfl) ln
          rw [tv_at (eOp_at hs (eV_at rfl) (r := .ok (.bl (decide (((F.length + m : Nat) : Int) ≤ s.n)), st ++ [Ob.lst (strsD (F ++ List.replicate m []))])) rfl)]
          simp only [to_ok]
          by_cases hc : ((F.length + m : Nat) : Int) ≤ s.n
          · rw [decide_eq_true hc, if_pos rfl]
            simp [ty, ap]
            exact ⟨n - 1, by omega, m + 1, by omega, rfl⟩
          · rw [decide_eq_false hc, if_neg (by decide)]
            have : m = s.n + 1 - F.length := by omega
            subst this
            exact ⟨by first | rfl | trivial, by first | rfl | trivial⟩)
        rw [h.1, h.2]
      rw [sCons_nx (w _ rfl)]
      have hE := ext_len F s.n
      have hget : (extL F s.n)[s.n]? = some (lineAt F s.n) := by
        rw [← lineAt_ext F s.n s.n]
        unfold lineAt
        rw [List.getElem?_eq_getElem (by omega)]; rfl
      have fl := fr_list st (strsD (extL F s.n))
      have ei : atI (strsD (extL F s.n)) (s.n : Int) = some (.str (lineAt F s.n)) := by rw [atI_nat]; exact strsD_get hget
      have lj : ∀ st, ljustG st (.str (lineAt F s.n)) [.int s.b] = .ok (.str (ljustL (lineAt F s.n) s.b), st) := fun st => by
        have : -1000000 ≤ (s.b : Int) ∧ (s.b : Int) ≤ 1000000 := by have := sok.2.2.1; omega
        simp [ljustG, this]
      have c1 : cutD (ljustL (lineAt F s.n) (s.b : Int)) none (some (s.b : Int)) = (ljustL (lineAt F s.n) s.b).take s.b := cut_to _ _
      have c2 : cutD (ljustL (lineAt F s.n) (s.b : Int)) (some ((s.b : Int) + s.sg.length)) none = (ljustL (lineAt F s.n) s.b).drop (s.b + s.sg.length) := by
        rw [show (s.b : Int) + (s.sg.length : Int) = ((s.b + s.sg.length : Nat) : Int) by omega]; exact cut_from _ _
      have ljl := lj_len (lineAt F s.n) s.b
      have b200 := sok.2.2.1
      have a1 := add_ss (st ++ [Ob.lst (strsD (extL F s.n))]) ((ljustL (lineAt F s.n) s.b).take s.b) s.sg (by rw [List.length_take]; omega)
      have a2' := add_ss (st ++ [Ob.lst (strsD (extL F s.n))]) ((ljustL (lineAt F s.n) s.b).take s.b ++ s.sg) ((ljustL (lineAt F s.n) s.b).drop (s.b + s.sg.length)) (by rw [List.length_append, List.length_take, List.length_drop]; omega)
      have ep : (ljustL (lineAt F s.n) s.b).take s.b ++ s.sg ++ (ljustL (lineAt F s.n) s.b).drop (s.b + s.sg.length) = paintL (lineAt F s.n) s.b s.sg := by unfold paintL; rw [List.append_assoc]
      rw [ep] at a2'
      have ixn : ixN (strsD (extL F s.n)).length (s.n : Int) = some s.n := by
        have h1 : (0 : Int) ≤ s.n := by omega
        have h2 : (s.n : Int) < ((strsD (extL F s.n)).length : Nat) := by simp; omega
        rw [ixN, if_pos h1, if_pos h2]; simp
      have stp : strsD (stepP F s) = (strsD (extL F s.n)).set s.n (.str (paintL (lineAt F s.n) s.b s.sg)) := by
        unfold stepP strsD
        rw [List.map_set]
      have setl : setLG (st ++ [Ob.lst (strsD (extL F s.n))]) (.ref st.length) (.int s.n) (.str (paintL (lineAt F s.n) s.b s.sg)) = some (st ++ [Ob.lst (strsD (stepP F s))]) := by
        unfold setLG
        simp only [fr_get, ixn, fr_set, stp]
      generalize st ++ [Ob.lst (strsD (extL F s.n))] = S1 at *
      have ixf := ix_list fl (s.n : Int)
      simp only [ei, Option.map_some, R.of_some] at ixf
      rw [sCons_nx (sAsgN_at (x := .str (ljustL (lineAt F s.n) s.b)) (sx := S1) (by simp [ixf, tyM, lj]))]
      simp only [List.set_cons_succ, List.set_cons_zero]
      simp [sl_s, c1, a1, len_s, add_ii, c2, a2', setl])
  rw [drD_len, List.take_length]
  have fl := fr_list st (strsD (progF ls dr))
  have lF := lenF dr.length
  rw [List.take_length] at lF
  have itf := items_list fl
  have hlim : (strsD (progF ls dr)).length ≤ LIM := le_LIM (by simp; omega)
  have hst := still_list fl
  refine ⟨[Ob.lst (strsD (progF ls dr))], ?_⟩
  generalize hS : st ++ [Ob.lst (strsD (progF ls dr))] = S1 at *
  simp [itf]
  rw [if_pos (by simpa using hlim)]
  rw [lc_map (st := S1) hst (fun d => match d with | .str t => .str (rcut isBk t) | d => d) (strsD (progF ls dr)) (fun d hd => by
    obtain ⟨t, _, rfl⟩ := List.mem_map.mp hd
    have e := rsE S1 t
    refine ⟨_, rfl, ?_⟩
    simp only at e ⊢
    generalize rcut isBk t = u at e ⊢
    simp [tyM, e])]
  have e7 : (strsD (progF ls dr)).map (fun d => match d with | .str t => .str (rcut isBk t) | d => d) = strsD (rsL (progF ls dr)) := by
    unfold strsD rsL
    rw [List.map_map, List.map_map]
    rfl
  rw [e7]
  simp [← hS]
end Dl
namespace Dl
open PySem L2
structure GrpOk (ps : List Nat) (G : List (Nat × Nat)) : Prop where
  mem : ∀ g ∈ G, g.1 ∈ ps ∧ g.2 ∈ ps ∧ g.1 ≤ g.2
  cov : ∀ p ∈ ps, ∃ g ∈ G, g.1 ≤ p ∧ p ≤ g.2
  far : G.Pairwise fun g h => g.2 + 3 < h.1
theorem grp_some : ∀ (ps : List Nat) (g : Nat × Nat), g.1 ≤ g.2 → (g.2 :: ps).Pairwise (· < ·) →
    ∃ (e : Nat) (G : List (Nat × Nat)), grp (some g) ps = (g.1, e) :: G ∧ g.2 ≤ e ∧ e ∈ g.2 :: ps ∧ (∀ h ∈ G, h.1 ∈ ps ∧ h.2 ∈ ps ∧ h.1 ≤ h.2 ∧ e + 3 < h.1) ∧ (∀ p ∈ ps, p ≤ e ∨ ∃ h ∈ G, h.1 ≤ p ∧ p ≤ h.2) ∧ G.Pairwise fun g h => g.2 + 3 < h.1
  | [], g, h1, h2 => ⟨g.2, [], rfl, Nat.le_refl _, by simp, by simp, by simp, List.Pairwise.nil⟩
  | p :: ps, g, h1, h2 => by
    rw [List.pairwise_cons] at h2
    obtain ⟨h3, h4⟩ := h2
    have hp := h3 p (by simp)
    rw [grp]
    split
    · rename_i hf
      obtain ⟨e, G, e1, e2, e3, e4, e5, e6⟩ := grp_some ps (p, p) (Nat.le_refl _) h4
      refine ⟨g.2, (p, e) :: G, by rw [e1], Nat.le_refl _, by simp, ?_, ?_, ?_⟩
      · intro h hh
        rcases List.mem_cons.mp hh with rfl | hh
        · exact ⟨by simp, e3, e2, hf⟩
        · obtain ⟨q1, q2, q3, q4⟩ := e4 h hh
          exact ⟨by simp [q1], by simp [q2], q3, by show g.2 + 3 < h.1; simp only at e2; omega⟩
      · intro q hq
        rcases List.mem_cons.mp hq with e9 | hq
        · exact .inr ⟨(p, e), List.mem_cons_self .., Nat.le_of_eq e9.symm, Nat.le_trans (Nat.le_of_eq e9) e2⟩
        · rcases e5 q hq with z | ⟨h, hh, z1, z2⟩
          · refine .inr ⟨(p, e), List.mem_cons_self .., ?_, z⟩
            have := (List.pairwise_cons.mp h4).1 q hq
            show p ≤ q
            omega
          · exact .inr ⟨h, by simp [hh], z1, z2⟩
      · rw [List.pairwise_cons]
        exact ⟨fun h hh => (e4 h hh).2.2.2, e6⟩
    · obtain ⟨e, G, e1, e2, e3, e4, e5, e6⟩ := grp_some ps (g.1, p) (by show g.1 ≤ p; omega) h4
      refine ⟨e, G, e1, by simp only at e2; omega, List.mem_cons_of_mem _ e3, ?_, ?_, e6⟩
      · intro h hh
        obtain ⟨q1, q2, q3, q4⟩ := e4 h hh
        exact ⟨by simp [q1], by simp [q2], q3, q4⟩
      · intro q hq
        rcases List.mem_cons.mp hq with rfl | hq
        · exact .inl e2
        · exact e5 q hq
theorem grp_ok {ps : List Nat} (h : ps.Pairwise (· < ·)) : GrpOk ps (grp none ps) := by
  cases ps with
  | nil => exact ⟨by simp [grp], by simp, List.Pairwise.nil⟩
  | cons p ps =>
    obtain ⟨e, G, e1, e2, e3, e4, e5, e6⟩ := grp_some ps (p, p) (Nat.le_refl _) h
    rw [grp, e1]
    refine ⟨?_, ?_, ?_⟩
    · intro g hg
      rcases List.mem_cons.mp hg with rfl | hg
      · exact ⟨by simp, e3, e2⟩
      · obtain ⟨q1, q2, q3, q4⟩ := e4 g hg
        exact ⟨by simp [q1], by simp [q2], q3⟩
    · intro q hq
      rcases List.mem_cons.mp hq with rfl | hq
      · exact ⟨(q, e), List.mem_cons_self .., Nat.le_refl _, e2⟩
      · rcases e5 q hq with z | ⟨h', hh, z1, z2⟩
        · refine ⟨(p, e), by simp, ?_, z⟩
          have := (List.pairwise_cons.mp h).1 q hq
          show p ≤ q
          omega
        · exact ⟨h', by simp [hh], z1, z2⟩
    · rw [List.pairwise_cons]
      exact ⟨fun h hh => (e4 h hh).2.2.2, e6⟩
theorem grp_nil {ps : List Nat} (h : ps.Pairwise (· < ·)) : grp none ps = [] ↔ ps = [] := by
  constructor
  · intro e
    cases ps with
    | nil => rfl
    | cons p ps =>
      obtain ⟨g, hg, _⟩ := (grp_ok h).cov p (by simp)
      rw [e] at hg; cases hg
  · rintro rfl; rfl
def sgAt (l : List Nat) (k : Nat) : Nat := l[k]?.getD 32
theorem sgAt_far {l : List Nat} {k : Nat} (h : l.length ≤ k) : sgAt l k = 32 := by unfold sgAt; rw [List.getElem?_eq_none h]; rfl
theorem dif_iff {a b : List Nat} {k : Nat} : dif a b k = true ↔ sgAt a k ≠ sgAt b k := by unfold dif sgAt; simp
theorem plc20_mem {a b : List Nat} {k : Nat} (ha : a.length ≤ 200) (hb : b.length ≤ 200) : k ∈ plc20 a b 204 ↔ sgAt a k ≠ sgAt b k := by
  unfold plc20
  rw [List.mem_filter, dif_iff, List.mem_range]
  refine ⟨fun h => h.2, fun h => ⟨?_, h⟩⟩
  rcases Nat.lt_or_ge k 204 with z | z
  · exact z
  · exact absurd ((sgAt_far (by omega)).trans (sgAt_far (by omega)).symm) h
theorem sgAt_rcut (l : List Nat) (k : Nat) : sgAt (rcut isBk l) k = sgAt l k := by
  obtain ⟨b, e, _⟩ := rcut_dec l
  generalize rcut isBk l = t at e ⊢
  subst e
  unfold sgAt
  by_cases h : k < t.length
  · rw [List.getElem?_append_left h]
  · rw [List.getElem?_eq_none (by omega), List.getElem?_append_right (by omega), List.getElem?_replicate]
    split <;> rfl
theorem rcut_last (l : List Nat) : (rcut isBk l).getLast? ≠ some 32 := (rcut_dec l).choose_spec.2
theorem bare_ext : ∀ {s t : List Nat}, s.getLast? ≠ some 32 → t.getLast? ≠ some 32 → (∀ k, sgAt s k = sgAt t k) → s = t := by
  have len : ∀ {s t : List Nat}, t.getLast? ≠ some 32 → (∀ k, sgAt s k = sgAt t k) → t.length ≤ s.length := by
    intro s t ht h
    rcases Nat.lt_or_ge s.length t.length with z | z
    · have h1 := h (t.length - 1)
      rw [sgAt_far (by omega)] at h1
      unfold sgAt at h1
      rw [List.getLast?_eq_getElem?] at ht
      rw [List.getElem?_eq_getElem (by omega)] at h1 ht
      simp at h1 ht
      exact absurd h1.symm ht
    · exact z
  intro s t hs ht h
  have l1 := len ht h
  have l2 := len hs fun k => (h k).symm
  refine List.ext_getElem (by omega) fun i h1 h2 => ?_
  have := h i
  unfold sgAt at this
  rw [List.getElem?_eq_getElem h1, List.getElem?_eq_getElem h2] at this
  simpa using this
theorem rcut_iff (a b : List Nat) : rcut isBk a = rcut isBk b ↔ ∀ k, sgAt a k = sgAt b k := by
  constructor
  · intro h k
    rw [← sgAt_rcut a, ← sgAt_rcut b, h]
  · intro h
    exact bare_ext (rcut_last a) (rcut_last b) fun k => by rw [sgAt_rcut, sgAt_rcut, h k]
def trimE (R : List (List Nat)) : List (List Nat) := (R.reverse.dropWhile fun l => decide (l = [])).reverse
theorem trim_empty (R : List (List Nat)) : trimE (R ++ [[]]) = trimE R := by
  unfold trimE
  rw [List.reverse_append]
  simp
theorem trim_full {R : List (List Nat)} {l : List Nat} (h : l ≠ []) : trimE (R ++ [l]) = R ++ [l] := by
  unfold trimE
  rw [List.reverse_append]
  simp [h]
theorem trim_at : ∀ (n : Nat) (R : List (List Nat)), R.length = n → (∀ i, lineAt (trimE R) i = lineAt R i) ∧ (trimE R).getLast? ≠ some []
  | 0, R, h => by
    have : R = [] := List.length_eq_zero_iff.mp h
    subst this
    exact ⟨fun _ => rfl, by simp [trimE]⟩
  | n + 1, R, h => by
    rcases List.eq_nil_or_concat R with e | ⟨w, c, e⟩
    · subst e; cases h
    · rw [List.concat_eq_append] at e
      subst e
      by_cases hc : c = []
      · subst hc
        rw [trim_empty]
        obtain ⟨h1, h2⟩ := trim_at n w (by simpa using h)
        refine ⟨fun i => ?_, h2⟩
        rw [h1 i]
        unfold lineAt
        by_cases hi : i < w.length
        · rw [List.getElem?_append_left hi]
        · rw [List.getElem?_eq_none (by omega), List.getElem?_append_right (by omega)]
          cases i - w.length <;> rfl
      · rw [trim_full hc]
        exact ⟨fun _ => rfl, by simpa using hc⟩
theorem lines_ext {A B : List (List Nat)} (hA : A.getLast? ≠ some []) (hB : B.getLast? ≠ some []) (h : ∀ i, lineAt A i = lineAt B i) : A = B := by
  have len : ∀ {s t : List (List Nat)}, t.getLast? ≠ some [] → (∀ k, lineAt s k = lineAt t k) → t.length ≤ s.length := by
    intro s t ht h
    rcases Nat.lt_or_ge s.length t.length with z | z
    · have h1 := h (t.length - 1)
      unfold lineAt at h1
      rw [List.getLast?_eq_getElem?] at ht
      rw [List.getElem?_eq_none (by omega : s.length ≤ t.length - 1)] at h1
      rw [List.getElem?_eq_getElem (by omega)] at h1 ht
      simp at h1 ht
      exact absurd (by simpa using h1.symm) ht
    · exact z
  have l1 := len hB h
  have l2 := len hA fun k => (h k).symm
  refine List.ext_getElem (by omega) fun i h1 h2 => ?_
  have := h i
  unfold lineAt at this
  rw [List.getElem?_eq_getElem h1, List.getElem?_eq_getElem h2] at this
  simpa using this
theorem trim_iff (A B : List (List Nat)) : trimE A = trimE B ↔ ∀ i, lineAt A i = lineAt B i := by
  obtain ⟨a1, a2⟩ := trim_at _ A rfl
  obtain ⟨b1, b2⟩ := trim_at _ B rfl
  constructor
  · intro h i
    rw [← a1, ← b1, h]
  · intro h
    exact lines_ext a2 b2 fun i => by rw [a1, b1, h]
/-- lines without blanks at their ends, and without empty ones behind -/
def bareL (F : List (List Nat)) : List (List Nat) := trimE (rsL F)
theorem lineAt_rs (F : List (List Nat)) (i : Nat) : lineAt (rsL F) i = rcut isBk (lineAt F i) := by
  unfold lineAt rsL
  rw [List.getElem?_map]
  cases F[i]? <;> rfl
theorem bare_iff (A B : List (List Nat)) : bareL A = bareL B ↔ ∀ i k, sgAt (lineAt A i) k = sgAt (lineAt B i) k := by
  unfold bareL
  rw [trim_iff]
  constructor
  · intro h i k
    have := h i
    rw [lineAt_rs, lineAt_rs] at this
    exact (rcut_iff _ _).mp this k
  · intro h i
    rw [lineAt_rs, lineAt_rs]
    exact (rcut_iff _ _).mpr (h i)
def skL (n : Nat) (a b : List Nat) : List Stk := (grp none (plc20 a b 204)).map fun g => ⟨n, g.1, sgL b g⟩
def skN (l1 l2 : List (List Nat)) : Nat → List Stk
  | 0 => []
  | n + 1 => skN l1 l2 n ++ skL n (lineAt l1 n) (lineAt l2 n)
def skA (l1 l2 : List (List Nat)) : List Stk := skN l1 l2 (max l1.length l2.length)
theorem skL_enc (n : Nat) (a b : List Nat) : drD (skL n a b) = strkD n a b := by
  unfold drD skL strkD
  rw [List.map_map]
  rfl
theorem skN_enc (l1 l2 : List (List Nat)) : ∀ n, drD (skN l1 l2 n) = strkN l1 l2 n
  | 0 => rfl
  | n + 1 => by
    rw [skN, strkN, ← skN_enc l1 l2 n, ← skL_enc]
    unfold drD
    rw [List.map_append]
theorem skA_enc (l1 l2 : List (List Nat)) : drD (skA l1 l2) = strkA l1 l2 := skN_enc _ _ _
theorem skA_len {l1 l2 : List (List Nat)} (h1 : l1.length ≤ 30) (h2 : l2.length ≤ 30) : (skA l1 l2).length ≤ 6150 := by
  have := strkN_len l1 l2 (max l1.length l2.length)
  rw [← skN_enc, drD_len] at this
  unfold skA
  omega
theorem skN_mem {l1 l2 : List (List Nat)} {s : Stk} : ∀ {n}, s ∈ skN l1 l2 n → s.n < n ∧ s ∈ skL s.n (lineAt l1 s.n) (lineAt l2 s.n)
  | 0, h => by cases h
  | n + 1, h => by
    rw [skN] at h
    rcases List.mem_append.mp h with h | h
    · obtain ⟨a, b⟩ := skN_mem h
      exact ⟨by omega, b⟩
    · have e : s.n = n := by
        unfold skL at h
        obtain ⟨g, _, rfl⟩ := List.mem_map.mp h
        rfl
      rw [e]
      exact ⟨by omega, h⟩
structure StkIn (a b : List Nat) (s : Stk) (e : Nat) : Prop where
  len : s.sg.length = e + 1 - s.b
  le : s.b ≤ e
  lt : e < 200
  d1 : sgAt a s.b ≠ sgAt b s.b
  d2 : sgAt a e ≠ sgAt b e
  sg : s.sg = sgL b (s.b, e)
theorem sgL_len {b : List Nat} {g : Nat × Nat} (h : g.1 ≤ g.2) (h2 : g.2 < 400) : (sgL b g).length = g.2 + 1 - g.1 := by
  unfold sgL
  rw [List.length_take, List.length_drop, List.length_append, List.length_replicate]
  omega
theorem dif_lt {a b : List Nat} {k : Nat} (ha : a.length ≤ 200) (hb : b.length ≤ 200) (h : sgAt a k ≠ sgAt b k) : k < 200 := by
  rcases Nat.lt_or_ge k 200 with z | z
  · exact z
  · exact absurd ((sgAt_far (by omega)).trans (sgAt_far (by omega)).symm) h
theorem skL_in {n : Nat} {a b : List Nat} (ha : a.length ≤ 200) (hb : b.length ≤ 200) {s : Stk} (h : s ∈ skL n a b) : ∃ e, StkIn a b s e := by
  unfold skL at h
  obtain ⟨g, hg, rfl⟩ := List.mem_map.mp h
  obtain ⟨q1, q2, q3⟩ := (grp_ok (plc_up (a := a) (b := b) (n := 204))).mem g hg
  have d1 := (plc20_mem ha hb).mp q1
  have d2 := (plc20_mem ha hb).mp q2
  have lt := dif_lt ha hb d2
  exact ⟨g.2, sgL_len q3 (by omega), q3, lt, d1, d2, rfl⟩
theorem sgL_sign {b : List Nat} (hb : ∀ c ∈ b, okSign c = true) (g : Nat × Nat) : ∀ c ∈ sgL b g, okSign c = true := fun c hc => by
  unfold sgL at hc
  rcases List.mem_append.mp (List.mem_of_mem_drop (List.mem_of_mem_take hc)) with h | h
  · exact hb c h
  · rw [List.eq_of_mem_replicate h]; decide
theorem skA_ok {l1 l2 : List (List Nat)} (h1 : l1.length ≤ 30) (h2 : l2.length ≤ 30) (k1 : ∀ s ∈ l1, okLine s = true) (k2 : ∀ s ∈ l2, okLine s = true) : ∀ s ∈ skA l1 l2, s.ok := fun s hs => by
  obtain ⟨a, b⟩ := skN_mem hs
  have q1 := lineAt_ok k1 s.n
  have q2 := lineAt_ok k2 s.n
  obtain ⟨e, he⟩ := skL_in q1.1 q2.1 b
  have hl := he.len
  have hle := he.le
  have hlt := he.lt
  refine ⟨by omega, fun z => ?_, by omega, ?_⟩
  · rw [z] at hl; simp at hl; omega
  · rw [he.sg]; exact sgL_sign q2.2 _
/-- what is laid -/
theorem sgL_at {b : List Nat} {g : Nat × Nat} {k : Nat} (h2 : g.2 < 400) (h3 : g.1 ≤ k) (h4 : k ≤ g.2) : (sgL b g)[k - g.1]? = some (sgAt b k) := by
  unfold sgL
  rw [List.getElem?_take_of_lt (by omega), List.getElem?_drop, show g.1 + (k - g.1) = k by omega]
  unfold sgAt
  by_cases h : k < b.length
  · rw [List.getElem?_append_left h, List.getElem?_eq_getElem h]; rfl
  · rw [List.getElem?_append_right (by omega), List.getElem?_replicate, if_pos (by omega), List.getElem?_eq_none (l := b) (by omega)]; rfl
theorem ov_at {u sg : List Nat} {b k : Nat} (hu : u.length = 400) (hb : b + sg.length ≤ 400) (hk : k < 400) : (ov u b sg)[k]? = if b ≤ k ∧ k < b + sg.length then sg[k - b]? else u[k]? := by
  unfold ov
  have lt : (u.take b).length = b := by rw [List.length_take]; omega
  by_cases h1 : k < b
  · rw [if_neg (by omega), List.getElem?_append_left (by omega), List.getElem?_take_of_lt h1]
  · rw [List.getElem?_append_right (by omega), lt]
    by_cases h2 : k < b + sg.length
    · rw [if_pos (by omega), List.getElem?_append_left (by omega)]
    · rw [if_neg (by omega), List.getElem?_append_right (by omega), List.getElem?_drop, show b + sg.length + (k - b - sg.length) = k by omega]
theorem fold_at {b : List Nat} (n : Nat) : ∀ (G : List (Nat × Nat)) (u : List Nat), u.length = 400 → (∀ g ∈ G, g.1 ≤ g.2 ∧ g.2 < 200) →
    ((G.map fun g => (⟨n, g.1, sgL b g⟩ : Stk)).foldl (ovS n) u).length = 400 ∧ ∀ k, k < 400 → ((G.map fun g => (⟨n, g.1, sgL b g⟩ : Stk)).foldl (ovS n) u)[k]? = if ∃ g ∈ G, g.1 ≤ k ∧ k ≤ g.2 then some (sgAt b k) else u[k]?
  | [], u, hu, _ => ⟨hu, fun k hk => by rw [if_neg (by simp)]; rfl⟩
  | g :: G, u, hu, h => by
    obtain ⟨g1, g2⟩ := h g (by simp)
    have sl := sgL_len (b := b) g1 (by omega)
    have ou : ovS n u ⟨n, g.1, sgL b g⟩ = ov u g.1 (sgL b g) := by unfold ovS; rw [if_pos rfl]
    have ol : (ov u g.1 (sgL b g)).length = 400 := ov_len hu (by omega)
    obtain ⟨a1, a2⟩ := fold_at n G (ov u g.1 (sgL b g)) ol fun g' hg' => h g' (by simp [hg'])
    rw [List.map_cons, List.foldl_cons, ou]
    refine ⟨a1, fun k hk => ?_⟩
    rw [a2 k hk, ov_at hu (by omega) hk]
    by_cases c1 : ∃ g ∈ G, g.1 ≤ k ∧ k ≤ g.2
    · obtain ⟨g', hg', z⟩ := c1
      rw [if_pos ⟨g', hg', z⟩, if_pos ⟨g', by simp [hg'], z⟩]
    · rw [if_neg c1]
      by_cases c2 : g.1 ≤ k ∧ k ≤ g.2
      · rw [if_pos (by omega), if_pos ⟨g, by simp, c2⟩, sgL_at (by omega) c2.1 c2.2]
      · rw [if_neg (by omega), if_neg ?_]
        rintro ⟨g', hg', z⟩
        rcases List.mem_cons.mp hg' with rfl | hg'
        · exact c2 z
        · exact c1 ⟨g', hg', z⟩
theorem fold_other (i : Nat) : ∀ (dr : List Stk) (u : List Nat), (∀ s ∈ dr, s.n ≠ i) → dr.foldl (ovS i) u = u
  | [], u, _ => rfl
  | s :: dr, u, h => by
    rw [List.foldl_cons]
    have : ovS i u s = u := by unfold ovS; rw [if_neg (h s (by simp))]
    rw [this]
    exact fold_other i dr u fun t ht => h t (by simp [ht])
theorem skL_n {n : Nat} {a b : List Nat} {s : Stk} (h : s ∈ skL n a b) : s.n = n := by
  unfold skL at h
  obtain ⟨g, _, rfl⟩ := List.mem_map.mp h
  rfl
theorem fold_skN (l1 l2 : List (List Nat)) (i : Nat) (u : List Nat) : ∀ n, (skN l1 l2 n).foldl (ovS i) u = if i < n then (skL i (lineAt l1 i) (lineAt l2 i)).foldl (ovS i) u else u
  | 0 => by rw [if_neg (by omega)]; rfl
  | n + 1 => by
    rw [skN, List.foldl_append, fold_skN l1 l2 i u n]
    by_cases h : i < n
    · rw [if_pos h, if_pos (by omega)]
      exact fold_other i _ _ fun s hs => by rw [skL_n hs]; omega
    · rw [if_neg h]
      by_cases h2 : i = n
      · subst h2; rw [if_pos (by omega)]
      · rw [if_neg (by omega)]
        exact fold_other i _ _ fun s hs => by rw [skL_n hs]; omega
theorem pad_sgAt (l : List Nat) {k : Nat} (h : k < 400) : (pad4 l)[k]? = some (sgAt l k) := by rw [pad_get, if_pos h]; rfl
/-- the painted lines are the later ones, but for blanks -/
theorem paint_bare {l1 l2 : List (List Nat)} (h1 : l1.length ≤ 30) (h2 : l2.length ≤ 30) (k1 : ∀ s ∈ l1, okLine s = true) (k2 : ∀ s ∈ l2, okLine s = true) : bareL (progF l1 (skA l1 l2)) = bareL l2 := by
  rw [bare_iff]
  intro i k
  have q1 := lineAt_ok k1 i
  have q2 := lineAt_ok k2 i
  obtain ⟨p1, p2⟩ := prog_law (skA l1 l2) l1 (skA_ok h1 h2 k1 k2) (fun j => (lineAt_ok k1 j).1) i
  rcases Nat.lt_or_ge k 400 with hk | hk
  · have e : (pad4 (lineAt (progF l1 (skA l1 l2)) i))[k]? = some (sgAt (lineAt l2 i) k) := by
      rw [p2]
      unfold skA
      rw [fold_skN]
      by_cases hi : i < max l1.length l2.length
      · rw [if_pos hi]
        unfold skL
        have go := grp_ok (plc_up (a := lineAt l1 i) (b := lineAt l2 i) (n := 204))
        have gb : ∀ g ∈ grp none (plc20 (lineAt l1 i) (lineAt l2 i) 204), g.1 ≤ g.2 ∧ g.2 < 200 := fun g hg => by
          obtain ⟨a, b, c⟩ := go.mem g hg
          exact ⟨c, dif_lt q1.1 q2.1 ((plc20_mem q1.1 q2.1).mp b)⟩
        rw [(fold_at i _ _ (pad4_len _) gb).2 k hk]
        split
        · rfl
        · rename_i hn
          rw [pad_sgAt _ hk]
          congr 1
          refine Classical.byContradiction fun z => hn ?_
          exact go.cov k ((plc20_mem q1.1 q2.1).mpr z)
      · rw [if_neg hi, pad_sgAt _ hk]
        unfold lineAt
        rw [List.getElem?_eq_none (by omega), List.getElem?_eq_none (by omega)]
    rw [pad_sgAt _ hk] at e
    exact Option.some.inj e
  · rw [sgAt_far (by omega), sgAt_far (by omega)]
theorem skL_nil {n : Nat} {a b : List Nat} (ha : a.length ≤ 200) (hb : b.length ≤ 200) : skL n a b = [] ↔ ∀ k, sgAt a k = sgAt b k := by
  unfold skL
  rw [List.map_eq_nil_iff, grp_nil plc_up]
  constructor
  · intro h k
    refine Classical.byContradiction fun z => ?_
    have := (plc20_mem ha hb).mpr z
    rw [h] at this; cases this
  · intro h
    rcases he : plc20 a b 204 with _ | ⟨p, ps⟩
    · rfl
    · have : p ∈ plc20 a b 204 := by rw [he]; simp
      exact absurd (h p) ((plc20_mem ha hb).mp this)
theorem skN_nil {l1 l2 : List (List Nat)} : ∀ n, skN l1 l2 n = [] ↔ ∀ i, i < n → skL i (lineAt l1 i) (lineAt l2 i) = []
  | 0 => ⟨fun _ i hi => absurd hi (Nat.not_lt_zero _), fun _ => rfl⟩
  | n + 1 => by
    rw [skN, List.append_eq_nil_iff, skN_nil n]
    constructor
    · rintro ⟨a, b⟩ i hi
      rcases Nat.lt_or_ge i n with z | z
      · exact a i z
      · have : i = n := by omega
        subst this; exact b
    · intro h
      exact ⟨fun i hi => h i (by omega), h n (by omega)⟩
theorem skA_nil {l1 l2 : List (List Nat)} (k1 : ∀ s ∈ l1, okLine s = true) (k2 : ∀ s ∈ l2, okLine s = true) : skA l1 l2 = [] ↔ bareL l1 = bareL l2 := by
  unfold skA
  rw [skN_nil, bare_iff]
  constructor
  · intro h i k
    rcases Nat.lt_or_ge i (max l1.length l2.length) with z | z
    · exact (skL_nil (lineAt_ok k1 i).1 (lineAt_ok k2 i).1).mp (h i z) k
    · unfold lineAt
      rw [List.getElem?_eq_none (by omega), List.getElem?_eq_none (by omega)]
  · intro h i _
    exact (skL_nil (lineAt_ok k1 i).1 (lineAt_ok k2 i).1).mpr (h i)
theorem skA_self {l : List (List Nat)} (k : ∀ s ∈ l, okLine s = true) : strkA l l = [] := by
  rw [← skA_enc, (skA_nil k k).mpr rfl]; rfl
/-- strokes of a line are more than three apart -/
def endK (s : Stk) : Int := (s.b : Int) + s.sg.length - 1
def ApartK (s t : Stk) : Prop := s.n = t.n → endK s + 4 ≤ t.b
theorem skL_far {n : Nat} {a b : List Nat} (ha : a.length ≤ 200) (hb : b.length ≤ 200) : (skL n a b).Pairwise ApartK := by
  unfold skL
  rw [List.pairwise_map]
  have go := grp_ok (plc_up (a := a) (b := b) (n := 204))
  refine List.Pairwise.imp_of_mem ?_ go.far
  intro g h hg hh hf _
  obtain ⟨q1, q2, q3⟩ := go.mem g hg
  have lt := dif_lt ha hb ((plc20_mem ha hb).mp q2)
  have sl := sgL_len (b := b) q3 (by omega)
  unfold endK
  simp only
  rw [sl]
  omega
theorem skN_far {l1 l2 : List (List Nat)} (k1 : ∀ s ∈ l1, okLine s = true) (k2 : ∀ s ∈ l2, okLine s = true) : ∀ n, (skN l1 l2 n).Pairwise ApartK
  | 0 => List.Pairwise.nil
  | n + 1 => by
    rw [skN, List.pairwise_append]
    refine ⟨skN_far k1 k2 n, skL_far (lineAt_ok k1 n).1 (lineAt_ok k2 n).1, fun s hs t ht e => ?_⟩
    have a := (skN_mem hs).1
    have b := skL_n ht
    omega
end Dl
namespace Dl
open PySem L2
mutual
theorem toPr {st : Store} : ∀ (n : Nat) (x d : D), Rd st d x → D.dp x ≤ n → toP st n d = some (D.toQ x)
  | 0, x, _, _, h => by cases x <;> simp [D.dp] at h
  | n + 1, .non, d, h, _ => by rw [Rd] at h; subst h; rfl
  | n + 1, .bl _, d, h, _ => by rw [Rd] at h; subst h; rfl
  | n + 1, .int _, d, h, _ => by rw [Rd] at h; subst h; rfl
  | n + 1, .str _, d, h, _ => by rw [Rd] at h; subst h; rfl
  | n + 1, .tup xs, d, h, k => by
    rw [Rd] at h
    obtain ⟨ds, rfl, h⟩ := h
    rw [D.dp] at k
    rw [toP]
    simp only [toPsr n xs ds h (by omega), D.toQ]
  | n + 1, .lst xs, d, h, k => by
    rw [Rd] at h
    obtain ⟨ds, w, hl, h⟩ := h
    rw [D.dp] at k
    have e := toPsr n xs ds h (by omega)
    unfold listOf at hl
    split at hl
    · cases hl
      rw [toP]
      simp only [e, D.toQ]
    · split at hl
      · cases hl
        rename_i e2
        rw [toP]
        simp only [e2, e, D.toQ]
      · cases hl
    · cases hl
  | n + 1, .ref _, d, h, _ => by rw [Rd] at h; exact h.elim
  | n + 1, .scr _, d, h, _ => by rw [Rd] at h; exact h.elim
theorem toPsr {st : Store} : ∀ (n : Nat) (xs ds : List D), Rds st ds xs → D.dps xs ≤ n → optAll (ds.map (toP st n)) = some (D.toQs xs)
  | n, [], [], _, _ => by simp [optAll, D.toQs]
  | n, x :: xs, d :: ds, h, k => by
    rw [Rds] at h
    rw [D.dps, Nat.max_le] at k
    rw [List.map_cons, toPr n x d h.1 k.1, optAll, toPsr n xs ds h.2 k.2]
    simp only [D.toQs]
  | n, [], _ :: _, h, _ => by simp [Rds] at h
  | n, _ :: _, [], h, _ => by simp [Rds] at h
end
theorem eq_nilr {neg : Bool} {st : Store} {d : D} {xs : List D} (h : Rd st d (.lst xs)) (k : D.dps xs ≤ 39) : eqG neg st d (.lst []) = .ok (.bl (if neg = true then !decide (xs = []) else decide (xs = [])), st) := by
  unfold eqG
  rw [toPr 40 _ _ h (by rw [dp_lst]; omega)]
  have e : toP st 40 (.lst []) = some (.list []) := by rw [toP]; rfl
  rw [e]
  cases xs with
  | nil => simp [D.toQ, D.toQs, PyData.eqv, PyData.eqvAll]
  | cons x xs => simp [D.toQ, D.toQs, PyData.eqv, PyData.eqvAll]
end Dl
namespace Dl
open PySem L2
theorem eqG_rdl {neg : Bool} {S : Store} {a b x z : D} (h1 : Rd S a x) (h2 : Rd S b z) (p1 : D.pl x = true) (p2 : D.pl z = true) (d1 : D.dp x ≤ 40) (d2 : D.dp z ≤ 40) : eqG neg S a b = .ok (.bl (if neg = true then !decide (x = z) else decide (x = z)), S) := by
  have e1 := toPr 40 x a h1 d1
  have e2 := toPr 40 z b h2 d2
  unfold eqG
  rw [e1, e2]
  simp only
  rw [eqv_pl x z p1 p2, beq_dec]
theorem rd_strs {S : Store} {d : D} {L : List (List Nat)} {w : List (Nat × List D)} (h : listOf S d = some (strsD L, w)) : Rd S d (.lst (strsD L)) := by
  have pk : D.pk (.lst (strsD L)) = true := pk_lstrs L
  have pks : D.pks (strsD L) = true := by rw [D.pk] at pk; exact pk
  rw [Rd]; exact ⟨_, _, h, rds_self pks⟩
theorem strsD_inj {A B : List (List Nat)} : strsD A = strsD B ↔ A = B := by
  constructor
  · intro h
    have : ∀ (A B : List (List Nat)), strsD A = strsD B → A = B := by
      intro A
      induction A with
      | nil => intro B h; cases B with | nil => rfl | cons b B => cases h
      | cons a A ih =>
        intro B h
        cases B with
        | nil => cases h
        | cons b B =>
          unfold strsD at h
          rw [List.map_cons, List.map_cons] at h
          injection h with h1 h2
          injection h1 with h1
          rw [h1, ih B h2]
    exact this A B h
  · rintro rfl; rfl
theorem eq_strs {neg : Bool} {S : Store} {a b : D} {A B : List (List Nat)} {w w' : List (Nat × List D)} (h1 : listOf S a = some (strsD A, w)) (h2 : listOf S b = some (strsD B, w')) : eqG neg S a b = .ok (.bl (if neg = true then !decide (A = B) else decide (A = B)), S) := by
  have q1 := dps_strs A
  have q2 := dps_strs B
  have q1' : D.dps (strsD A) ≤ 1 := q1
  have q2' : D.dps (strsD B) ≤ 1 := q2
  have p1 : D.pls (strsD A) = true := by unfold strsD; simp
  have p2 : D.pls (strsD B) = true := by unfold strsD; simp
  rw [eqG_rdl (rd_strs h1) (rd_strs h2) (by simp [p1]) (by simp [p2]) (by simp; omega) (by simp; omega)]
  have : (D.lst (strsD A) = D.lst (strsD B)) = (A = B) := by
    rw [eq_iff_iff]
    constructor
    · intro h; injection h with h; exact strsD_inj.mp h
    · rintro rfl; rfl
  simp only [this]
def m_law_bare : FV := funD 3 d_law_bare_k22
theorem rs_len (F : List (List Nat)) : (rsL F).length = F.length := by unfold rsL; rw [List.length_map]
theorem bare_ok {ls : List (List Nat)} (hl : ls.length ≤ 1000) {S : Store} {d : D} {w : List (Nat × List D)} (g : listOf S d = some (strsD ls, w)) :
    m_law_bare [d] S = .ok (.ref S.length, S ++ [.lst (strsD (bareL ls))]) := by
  unfold m_law_bare funD d_law_bare_k22
  have it := items_list g
  have hlim : (strsD ls).length ≤ LIM := le_LIM (by simp; omega)
  simp [it]
  rw [if_pos (by simpa using hlim)]
  rw [lc_map (st := S) (still_list g) (fun d => match d with | .str t => .str (rcut isBk t) | d => d) (strsD ls) (fun d hd => by
    obtain ⟨t, _, rfl⟩ := List.mem_map.mp hd
    have e := rsE S t
    refine ⟨_, rfl, ?_⟩
    simp only at e ⊢
    generalize rcut isBk t = u at e ⊢
    simp [tyM, e])]
  have e7 : (strsD ls).map (fun d => match d with | .str t => .str (rcut isBk t) | d => d) = strsD (rsL ls) := by
    unfold strsD rsL
    rw [List.map_map, List.map_map]
    rfl
  rw [e7]
  unfold bareL
  have rl : (rsL ls).length ≤ 1000 := by rw [rs_len]; omega
  generalize rsL ls = R0 at rl
  simp
  generalize hr : whileGo _ _ _ _ _ = r
  obtain ⟨e, s', rfl, h⟩ := while_go hr (fun n env st' => ∃ v : List (List Nat), v.length = n ∧ trimE v = trimE R0 ∧ st' = S ++ [.lst (strsD v)] ∧ env = [some d, some (.ref S.length), none])
    (fun env st' => st' = S ++ [.lst (strsD (trimE R0))] ∧ env = [some d, some (.ref S.length), none]) (n := R0.length) (by omega) ⟨R0, rfl, rfl, rfl, rfl⟩ (fun n env st' ⟨v, h1, h2, h3, h4⟩ => by
    subst h1 h3 h4
    have fg := fr_get S (strsD v)
    have fl := fr_list S (strsD v)
    have ty := fr_ty S (strsD v)
    have nl : eqG true (S ++ [Ob.lst (strsD v)]) (.ref S.length) (.lst []) = .ok (.bl (!decide (v = [])), S ++ [.lst (strsD v)]) := by
      have := eq_strs (neg := true) (B := []) fl (show listOf (S ++ [Ob.lst (strsD v)]) (.lst []) = some (strsD [], []) from rfl)
      simpa using this
    have c1 : tv (eOp (eqG true) (eV 1) (eLst false (aNil))) [some d, some (.ref S.length), none] (S ++ [.lst (strsD v)]) = .ok (!decide (v = []), S ++ [.lst (strsD v)]) := tv_at (eOp_at (eV_at rfl) (by simp) nl)
    rcases List.eq_nil_or_concat v with e | ⟨w, c, e⟩
    · subst e
      rw [tAnd_no (c1.trans (by rw [decide_eq_true rfl]; rfl))]
      simp only [to_ok]
      rw [if_neg (by decide), ← h2]
      exact ⟨by first | rfl | trivial, by first | rfl | trivial⟩
    · rw [List.concat_eq_append] at e
      subst e
      have ne : w ++ [c] ≠ [] := by simp
      have ei : atI (strsD (w ++ [c])) (-1) = some (.str c) := by
        have : strsD (w ++ [c]) = strsD w ++ [.str c] := by simp [strsD]
        rw [this]; exact atI_last _ _
      have ixf := ix_list fl (-1)
      simp only [ei, Option.map_some, R.of_some] at ixf
      rw [tAnd_yes (c1.trans (by rw [decide_eq_false ne]; rfl)) (tv_at (eOp_at (x := .str c) (eOp_at (y := .int (-1)) (sy := S ++ [.lst (strsD (w ++ [c]))]) (eV_at rfl) (by simp) ixf) (r_eC _ _ _) (is_str _ _ _)))]
      simp only [to_ok]
      by_cases hc : c = []
      · subst hc
        rw [decide_eq_true rfl, if_pos rfl]
        have pp : popG (S ++ [.lst (strsD (w ++ [[]]))]) (.ref S.length) [] = .ok (.str [], S ++ [.lst (strsD w)]) := by
          unfold popG
          simp only [fr_get]
          have e1 : (strsD (w ++ [[]]))[(strsD (w ++ [[]])).length - 1]? = some (.str []) := by simp [strsD]
          have e2 : (strsD (w ++ [[]])).dropLast = strsD w := by simp [strsD]
          rw [e1]
          simp only [e2, fr_set]
        simp [ty, pp]
        exact ⟨w.length, by simp, w, rfl, by rw [← h2, trim_empty], rfl⟩
      · rw [decide_eq_false hc, if_neg (by decide), ← h2, trim_full hc]
        exact ⟨by first | rfl | trivial, by first | rfl | trivial⟩)
  rw [h.1, h.2]
  simp
def m_law_fits : FV := funD 11 (d_law_fits m_strokes m_law_bare m_painted)
/-- a line with blanks behind -/
theorem line_pad {ls : List (List Nat)} (hok : ∀ s ∈ ls, okLine s = true) (hl : ls.length ≤ 30) {S : Store} {d : D} {w : List (Nat × List D)} (g : listOf S d = some (strsD ls, w)) {N i : Nat} (hN : ls.length ≤ N) (h30 : N ≤ 30) (hi : i < N) (j : Nat) (env : Env) (g1 : env[j]? = some (some d)) (g2 : env[3]? = some (some (.int N))) (g3 : env[5]? = some (some (.int i))) :
    eOp (addG false) (eOp ixG (eOp (addG false) (eV j) (eOp (mulG false) (eLst false (aCons (eC (.str [])) (aNil))) (eV 3))) (eV 5)) (eOp (mulG false) (eC (.str [32])) (eC (.int 200))) env S = .ok (.str (lineAt ls i ++ List.replicate 200 32), S) := by
  have ml := mul_l1 S (.str []) N (by omega) (by omega)
  generalize hR : List.replicate (N : Int).toNat (D.str []) = R at ml
  have lR : R.length = N := by rw [← hR, List.length_replicate]; omega
  have ad : addG false S d (.lst R) = .ok (.lst (strsD ls ++ R), S) := by
    have lo := lst_list g
    rw [addL (fun i e => by subst e; cases lo) (fun i e => by subst e; cases lo) (fun i e => by subst e; cases lo), lo]
    simp only [lstOf]
    rw [if_pos (le_LIM (by simp; omega))]
    rfl
  have ei : atI (strsD ls ++ R) (i : Int) = some (.str (lineAt ls i)) := by
    rw [atI_nat]
    unfold lineAt
    by_cases h : i < ls.length
    · rw [List.getElem?_append_left (by simp; exact h), strsD_get (List.getElem?_eq_getElem h), List.getElem?_eq_getElem h]; rfl
    · rw [List.getElem?_append_right (by simp; omega), ← hR, List.getElem?_replicate, if_pos (by simp; omega), List.getElem?_eq_none (by omega)]; rfl
  have ms := mul_sb S 200 (by decide)
  have ll := (lineAt_ok hok i).1
  generalize hR4 : List.replicate 200 32 = R4 at ms ⊢
  have lR4 : R4.length = 200 := by rw [← hR4]; exact List.length_replicate
  have as := add_ss S (lineAt ls i) R4 (by omega)
  rw [show ((200 : Nat) : Int) = 200 from rfl] at ms
  generalize lineAt ls i ++ R4 = X4 at as ⊢
  generalize strsD ls ++ R = X5 at ad ei
  generalize lineAt ls i = X7 at ei as
  simp [g1, g2, g3, ml, ad, ixL, ei, ms, as]
theorem pad_at {a : List Nat} (h : a.length ≤ 200) {k : Nat} (hk : k < 200) : atI (a ++ List.replicate 200 32) (k : Int) = some (sgAt a k) := by
  rw [atI_nat]
  unfold sgAt
  by_cases z : k < a.length
  · rw [List.getElem?_append_left z, List.getElem?_eq_getElem z]; rfl
  · rw [List.getElem?_append_right (by omega), List.getElem?_replicate, if_pos (by omega), List.getElem?_eq_none (by omega)]; rfl
theorem pad_sg {b : List Nat} (h : b.length ≤ 200) {g : Nat × Nat} (h2 : g.2 < 200) : ((b ++ List.replicate 200 32).drop g.1).take (g.2 + 1 - g.1) = sgL b g := by
  unfold sgL
  refine List.ext_getElem? fun i => ?_
  rw [List.getElem?_take, List.getElem?_take]
  by_cases hi : i < g.2 + 1 - g.1
  · rw [if_pos hi, if_pos hi, List.getElem?_drop, List.getElem?_drop]
    by_cases h1 : g.1 + i < b.length
    · rw [List.getElem?_append_left h1, List.getElem?_append_left h1]
    · rw [List.getElem?_append_right (by omega), List.getElem?_append_right (by omega), List.getElem?_replicate, List.getElem?_replicate, if_pos (by omega), if_pos (by omega)]
  · rw [if_neg hi, if_neg hi]
theorem fits_ok {l1 l2 : List (List Nat)} (h1 : l1.length ≤ 30) (h2 : l2.length ≤ 30) (k1 : ∀ s ∈ l1, okLine s = true) (k2 : ∀ s ∈ l2, okLine s = true) {S : Store} {d1 d2 : D} {w1 w2 : List (Nat × List D)} (g1 : listOf S d1 = some (strsD l1, w1)) (g2 : listOf S d2 = some (strsD l2, w2)) :
    ∃ M, m_law_fits [d1, d2] S = .ok (.bl true, S ++ M) := by
  unfold m_law_fits funD d_law_fits
  obtain ⟨mid, s0⟩ := strokes_okG h1 h2 k1 k2 g1 g2
  obtain ⟨M1, hM1⟩ : ∃ M1, M1 = Ob.lst (strkA l1 l2) :: mid := ⟨_, rfl⟩
  rw [← hM1] at s0
  obtain ⟨kd, hkd⟩ : ∃ kd, kd = S.length := ⟨_, rfl⟩
  rw [← hkd] at s0
  have e1 : S ++ M1 = S ++ M1 := rfl
  have gd : ∀ M, (S ++ (M1 ++ M))[kd]? = some (.lst (strkA l1 l2)) := fun M => by
    rw [← List.append_assoc]
    exact get_app (by rw [hM1, hkd, List.getElem?_append_right (Nat.le_refl _)]; simp)
  have ld : ∀ M, listOf (S ++ (M1 ++ M)) (.ref kd) = some (drD (skA l1 l2), [(kd, drD (skA l1 l2))]) := fun M => by
    rw [skA_enc]; simp only [listOf, gd]
  have g1M : ∀ M, listOf (S ++ M) d1 = some (strsD l1, w1) := fun M => listOf_stays (Stays.app S M) g1
  have g2M : ∀ M, listOf (S ++ M) d2 = some (strsD l2, w2) := fun M => listOf_stays (Stays.app S M) g2
  have sok := skA_ok h1 h2 k1 k2
  have slen := skA_len h1 h2
  generalize hN : max l1.length l2.length = N
  have mx : ∀ st, maxG st [.int (l1.length : Int), .int (l2.length : Int)] = .ok (.int (N : Int), st) := fun st => by
    show R.ok (D.int (max (l1.length : Int) l2.length), st) = _
    congr 3; omega
  have ln1 : ∀ M, lenG (S ++ M) [d1] = .ok (.int l1.length, S ++ M) := fun M => by simpa using len_list (g1M M)
  have ln2 : ∀ M, lenG (S ++ M) [d2] = .ok (.int l2.length, S ++ M) := fun M => by simpa using len_list (g2M M)
  -- strokes, how many lines
  simp only [List.map_cons, List.map_nil, List.length_cons, List.length_nil, List.cons_append, List.nil_append, show List.replicate (11 - (0 + 1 + 1)) (none : Option D) = [none, none, none, none, none, none, none, none, none] from rfl]
  rw [sCons_nx (sAsgN_at (x := .ref kd) (sx := S ++ M1) (by simp [s0]))]
  simp only [List.set_cons_succ, List.set_cons_zero]
  rw [sCons_nx (sAsgN_at (x := .int N) (sx := S ++ M1) (by simp [ln1, ln2, mx]))]
  simp only [List.set_cons_succ, List.set_cons_zero]
  -- painted
  have ldM := ld []
  rw [List.append_nil] at ldM
  obtain ⟨m2, s1⟩ := painted_okG h1 k1 sok (by omega) (g1M M1) ldM
  have hpl : (progF l1 (skA l1 l2)).length ≤ 30 := prog_le h1 sok
  obtain ⟨P, hP⟩ : ∃ P, P = progF l1 (skA l1 l2) := ⟨_, rfl⟩
  have pb : bareL P = bareL l2 := by rw [hP]; exact paint_bare h1 h2 k1 k2
  rw [← hP] at s1 hpl
  obtain ⟨kp, hkp⟩ : ∃ kp, kp = (S ++ M1 ++ m2).length := ⟨_, rfl⟩
  rw [← hkp] at s1
  have rl : (rsL P).length ≤ 1000 := by rw [rs_len]; omega
  have fp := fr_list (S ++ M1 ++ m2) (strsD (rsL P))
  rw [← hkp] at fp
  have s2 := bare_ok rl fp
  have ebb : bareL (rsL P) = bareL l2 := by
    rw [← pb, bare_iff]
    intro i k
    rw [lineAt_rs, sgAt_rcut]
  rw [ebb] at s2
  obtain ⟨M2, hM2⟩ : ∃ M2, M2 = M1 ++ m2 ++ [Ob.lst (strsD (rsL P))] := ⟨_, rfl⟩
  have eS2 : S ++ M1 ++ m2 ++ [Ob.lst (strsD (rsL P))] = S ++ M2 := by rw [hM2]; simp
  rw [eS2] at s1 s2
  obtain ⟨ka, hka⟩ : ∃ ka, ka = (S ++ M2).length := ⟨_, rfl⟩
  have fa := fr_list (S ++ M2) (strsD (bareL l2))
  rw [← hka] at s2 fa
  obtain ⟨M3, hM3⟩ : ∃ M3, M3 = M2 ++ [Ob.lst (strsD (bareL l2))] := ⟨_, rfl⟩
  have eS3 : S ++ M2 ++ [Ob.lst (strsD (bareL l2))] = S ++ M3 := by rw [hM3]; simp
  rw [eS3] at s2 fa
  have s3 := bare_ok (by omega) (g2M M3)
  obtain ⟨kb, hkb⟩ : ∃ kb, kb = (S ++ M3).length := ⟨_, rfl⟩
  have fb := fr_list (S ++ M3) (strsD (bareL l2))
  rw [← hkb] at s3 fb
  have fa4 := listOf_stays (Stays.app (S ++ M3) [Ob.lst (strsD (bareL l2))]) fa
  obtain ⟨M4, hM4⟩ : ∃ M4, M4 = M3 ++ [Ob.lst (strsD (bareL l2))] := ⟨_, rfl⟩
  have eS4 : S ++ M3 ++ [Ob.lst (strsD (bareL l2))] = S ++ M4 := by rw [hM4]; simp
  rw [eS4] at s3 fb fa4
  have q4 := eq_strs (neg := true) fa4 fb
  rw [r_sCons]
  rw [sIf_at (b := false) (sx := S ++ M4) (by simp [s1, s2, s3, q4]), if_neg (by decide), r_sNext, then_nx]
  -- none just for the same
  have ex4 : ∃ T4, M4 = M1 ++ T4 := ⟨m2 ++ [Ob.lst (strsD (rsL P))] ++ [Ob.lst (strsD (bareL l2))] ++ [Ob.lst (strsD (bareL l2))], by rw [hM4, hM3, hM2]; simp⟩
  obtain ⟨T4, hT4⟩ := ex4
  have s4 := bare_ok (by omega) (g1M M4)
  obtain ⟨kc, hkc⟩ : ∃ kc, kc = (S ++ M4).length := ⟨_, rfl⟩
  have fc := fr_list (S ++ M4) (strsD (bareL l1))
  rw [← hkc] at s4 fc
  obtain ⟨M5, hM5⟩ : ∃ M5, M5 = M4 ++ [Ob.lst (strsD (bareL l1))] := ⟨_, rfl⟩
  have eS5 : S ++ M4 ++ [Ob.lst (strsD (bareL l1))] = S ++ M5 := by rw [hM5]; simp
  rw [eS5] at s4 fc
  have s5 := bare_ok (by omega) (g2M M5)
  obtain ⟨ke, hke⟩ : ∃ ke, ke = (S ++ M5).length := ⟨_, rfl⟩
  have fe := fr_list (S ++ M5) (strsD (bareL l2))
  rw [← hke] at s5 fe
  have fc6 := listOf_stays (Stays.app (S ++ M5) [Ob.lst (strsD (bareL l2))]) fc
  obtain ⟨M6, hM6⟩ : ∃ M6, M6 = M5 ++ [Ob.lst (strsD (bareL l2))] := ⟨_, rfl⟩
  have eS6 : S ++ M5 ++ [Ob.lst (strsD (bareL l2))] = S ++ M6 := by rw [hM6]; simp
  rw [eS6] at s5 fe fc6
  have q6 := eq_strs (neg := false) fc6 fe
  have n4 : eqG false (S ++ M4) (.ref kd) (.lst []) = .ok (.bl (decide (strkA l1 l2 = [])), S ++ M4) := by
    have hr : Rd (S ++ M4) (.ref kd) (.lst (strkA l1 l2)) := by
      rw [Rd]
      have := ld T4
      rw [← hT4, skA_enc] at this
      refine ⟨_, _, this, rds_self (pks_of fun d hd => strkN_all (P := fun d => D.pk d = true) l1 l2 pk_stk20 _ d hd)⟩
    have dp : D.dps (strkA l1 l2) ≤ 2 := dps_le.mpr fun d hd => strkN_all (P := fun d => D.dp d ≤ 2) l1 l2 (fun n b g => by unfold stkD; simp) _ d hd
    have := eq_nilr (neg := false) hr (by omega)
    simpa using this
  have hsame : decide (strkA l1 l2 = []) = decide (bareL l1 = bareL l2) := by
    rw [decide_eq_decide, ← skA_nil k1 k2, ← skA_enc]
    unfold drD
    rw [List.map_eq_nil_iff]
  have bb : eqG true (S ++ M6) (.bl (decide (strkA l1 l2 = []))) (.bl (decide (bareL l1 = bareL l2))) = .ok (.bl false, S ++ M6) := by
    rw [hsame]
    cases decide (bareL l1 = bareL l2) <;> rfl
  rw [r_sCons]
  rw [sIf_at (b := false) (sx := S ++ M6) (by simp [n4, s4, s5, q6, bb]), if_neg (by decide), r_sNext, then_nx]
  -- each stroke
  obtain ⟨kf, hkf⟩ : ∃ kf, kf = (S ++ M6).length := ⟨_, rfl⟩
  rw [sCons_nx (sAsgN_at (x := .ref kf) (sx := S ++ M6 ++ [.dK []]) (by simp [hkf]))]
  simp only [List.set_cons_succ, List.set_cons_zero]
  have ex6 : ∃ T6, M6 = M1 ++ T6 := ⟨T4 ++ [Ob.lst (strsD (bareL l1))] ++ [Ob.lst (strsD (bareL l2))], by rw [hM6, hM5, hT4]; simp⟩
  obtain ⟨T6, hT6⟩ := ex6
  have ldk : ∀ X, listOf (S ++ M6 ++ [Ob.dK X]) (.ref kd) = some (drD (skA l1 l2), [(kd, drD (skA l1 l2))]) := fun X => by
    have := ld (T6 ++ [Ob.dK X])
    have e : S ++ M6 ++ [Ob.dK X] = S ++ (M1 ++ (T6 ++ [Ob.dK X])) := by rw [hT6]; simp
    rw [e]
    exact this
  have far : (skA l1 l2).Pairwise ApartK := skN_far k1 k2 (max l1.length l2.length)
  have lp : ∃ X c5 c6 c7 c8 c9 c10, sFor (iSeq (eV 2)) (gTp 3 (gsCons (gN 5) (gsCons (gN 6) (gsCons (gN 7) (gsNil))))) (sCons (sAsg (eOp (addG false) (eOp ixG (eOp (addG false) (eV 0) (eOp (mulG false) (eLst false (aCons (eC (.str [])) (aNil))) (eV 3))) (eV 5)) (eOp (mulG false) (eC (.str [32])) (eC (.int 200)))) (gN 8)) (sCons (sAsg (eOp (addG false) (eOp ixG (eOp (addG false) (eV 1) (eOp (mulG false) (eLst false (aCons (eC (.str [])) (aNil))) (eV 3))) (eV 5)) (eOp (mulG false) (eC (.str [32])) (eC (.int 200)))) (gN 9)) (sCons (sAsg (eOp subG (eOp (addG false) (eV 6) (eB lenG (aCons (eV 7) (aNil)))) (eC (.int 1))) (gN 10)) (sCons (sIf (tOrD (tv (eOp (eqG false) (eOp ixG (eV 8) (eV 6)) (eOp ixG (eV 9) (eV 6)))) (tOrD (tv (eOp (eqG false) (eOp ixG (eV 8) (eV 10)) (eOp ixG (eV 9) (eV 10)))) (tv (eOp (eqG true) (eSl false (eV 9) (poSome (eV 6)) (poSome (eOp (addG false) (eV 10) (eC (.int 1))))) (eV 7))))) (sRet (eC (.bl false))) (sNext)) (sCons (sIf (tv (eOp ltG (eOp subG (eV 6) (eGet2 (eV 4) (eV 5) (eNeg (eC (.int 9))))) (eC (.int 4)))) (sRet (eC (.bl false))) (sNext)) (sAsg (eV 10) (gSb (eV 4) (eV 5) dsetG)))))))
      [some d1, some d2, some (.ref kd), some (.int N), some (.ref kf), none, none, none, none, none, none] (S ++ M6 ++ [.dK []]) = .nx [some d1, some d2, some (.ref kd), some (.int N), some (.ref kf), c5, c6, c7, c8, c9, c10] (S ++ M6 ++ [.dK X]) := by
    have it := items_list (ldk [])
    obtain ⟨S7, hS7⟩ : ∃ S7, S7 = S ++ M6 ++ [Ob.dK []] := ⟨_, rfl⟩
    rw [← hS7] at it ⊢
    simp [it]
    rw [hS7]
    generalize q : forGo _ _ _ _ _ _ = r
    obtain ⟨e, s', rfl, X, rfl, _, _, c5, c6, c7, c8, c9, c10, rfl⟩ := for_at q (fun j env st' => ∃ X, st' = S ++ M6 ++ [Ob.dK X] ∧ X.length ≤ j ∧ (∀ n v, valK X (.inl n) = some v → ∃ s ∈ (skA l1 l2).take j, (s.n : Int) = n ∧ v = .int (endK s)) ∧ ∃ c5 c6 c7 c8 c9 c10, env = [some d1, some d2, some (.ref kd), some (.int N), some (.ref kf), c5, c6, c7, c8, c9, c10]) ⟨[], rfl, Nat.le_refl _, (fun n v h => by cases h), _, _, _, _, _, _, rfl⟩ (fun _ _ _ _ ⟨X, hX, _⟩ => by rw [hX]; exact still_list (ldk X)) (fun j y env st' hj ⟨X, e1, xl, xv, c5, c6, c7, c8, c9, c10, e2⟩ => by
      subst e1 e2
      change ((skA l1 l2).map Stk.enc)[j]? = some y at hj
      rw [List.getElem?_map] at hj
      cases q : (skA l1 l2)[j]? with
      | none => rw [q] at hj; cases hj
      | some s =>
        rw [q] at hj
        cases hj
        have hm := List.mem_of_getElem? q
        have jlt := (List.getElem?_eq_some_iff.mp q).1
        obtain ⟨sn, sin⟩ := skN_mem hm
        have q1 := lineAt_ok k1 s.n
        have q2 := lineAt_ok k2 s.n
        obtain ⟨e, he⟩ := skL_in q1.1 q2.1 sin
        have hlen := he.len
        have hle := he.le
        have hlt := he.lt
        have hend : endK s = (e : Int) := by unfold endK; omega
        have p1 := line_pad k1 h1 (g1M (M6 ++ [Ob.dK X])) (N := N) (i := s.n) (by omega) (by omega) (by omega)
        have p2 := line_pad k2 h2 (g2M (M6 ++ [Ob.dK X])) (N := N) (i := s.n) (by omega) (by omega) (by omega)
        rw [← List.append_assoc] at p1 p2
        have gx : (S ++ M6 ++ [Ob.dK X])[kf]? = some (.dK X) := by rw [hkf]; simp
        have stx : ∀ Y, (S ++ M6 ++ [Ob.dK X]).set kf (.dK Y) = S ++ M6 ++ [Ob.dK Y] := fun Y => by
          rw [hkf, List.set_append_right _ _ (Nat.le_refl _)]; simp
        unfold Stk.enc
        simp only [r_gTp, List.length_cons, List.length_nil, if_true, r_gsCons, r_gsNil, r_gN, bind_m, sOf_m, List.set_cons_succ, List.set_cons_zero]
        generalize hSX : S ++ M6 ++ [Ob.dK X] = SX at *
        rw [sCons_nx (sAsgN_at (p1 0 _ rfl rfl rfl))]
        simp only [List.set_cons_succ, List.set_cons_zero]
        rw [sCons_nx (sAsgN_at (p2 1 _ rfl rfl rfl))]
        simp only [List.set_cons_succ, List.set_cons_zero]
        have sub0 : ∀ a b : Int, subG SX (.int a) (.int b) = .ok (.int (a - b), SX) := fun _ _ => rfl
        have ee : (s.b : Int) + s.sg.length - 1 = (e : Int) := by omega
        rw [sCons_nx (sAsgN_at (x := .int e) (sx := SX) (by simp [len_s, add_ii, sub0, ee]))]
        simp only [List.set_cons_succ, List.set_cons_zero]
        have a1 := pad_at q1.1 (k := s.b) (by omega)
        have a2 := pad_at q2.1 (k := s.b) (by omega)
        have a3 := pad_at q1.1 (k := e) (by omega)
        have a4 := pad_at q2.1 (k := e) (by omega)
        have n1 := he.d1
        have n2 := he.d2
        have cs : cutD (lineAt l2 s.n ++ List.replicate 200 32) (some (s.b : Int)) (some ((e : Int) + 1)) = s.sg := by
          rw [show (e : Int) + 1 = ((e + 1 : Nat) : Int) by omega, cut_ft20, he.sg]
          exact pad_sg q2.1 (g := (s.b, e)) (by omega)
        generalize lineAt l1 s.n ++ List.replicate 200 32 = A1 at a1 a3 ⊢
        generalize lineAt l2 s.n ++ List.replicate 200 32 = A2 at a2 a4 cs ⊢
        rw [r_sCons]
        rw [sIf_at (b := false) (sx := SX) (by simp [ixG, a1, a2, a3, a4, n1, n2, sl_s, cs, add_ii]), if_neg (by decide), r_sNext, then_nx]
        -- far from the one ahead
        have isd : isDct SX (.ref kf) = true := by simp only [isDct, gx]
        have dv : dvalG SX (.ref kf) (.int s.n) = some (valK X (.inl s.n)) := by simp only [dvalG, gx]
        have near : ∃ v : Int, (valK X (.inl (s.n : Int))).getD (.int (-9)) = .int v ∧ ¬ (s.b : Int) - v < 4 := by
          cases hv : valK X (.inl (s.n : Int)) with
          | none => exact ⟨-9, rfl, by omega⟩
          | some v =>
            obtain ⟨t, ht, tn, rfl⟩ := xv _ _ hv
            refine ⟨_, rfl, ?_⟩
            obtain ⟨i, hi⟩ := List.getElem?_of_mem ht
            have hij : i < j := by
              have := (List.getElem?_eq_some_iff.mp hi).1
              rw [List.length_take] at this; omega
            rw [List.getElem?_take_of_lt hij] at hi
            obtain ⟨ilt, e1⟩ := List.getElem?_eq_some_iff.mp hi
            obtain ⟨_, e2⟩ := List.getElem?_eq_some_iff.mp q
            have ap := List.pairwise_iff_getElem.mp far i j ilt jlt hij
            rw [e1, e2] at ap
            have := ap (by omega)
            omega
        obtain ⟨v, hv, nv⟩ := near
        rw [r_sCons]
        rw [sIf_at (b := false) (sx := SX) (by simp [isd, dv, hv, sub0, ltG, nv]), if_neg (by decide), r_sNext, then_nx]
        have ds : dsetG SX (.ref kf) (.int s.n) (.int e) = some (S ++ M6 ++ [Ob.dK (putKD X (.inl (s.n : Int)) (.int e))]) := by
          simp only [dsetG, gx, stx]
          rw [if_pos (lt_LIM (by omega))]
        refine turn_eq (e := [some d1, some d2, some (.ref kd), some (.int N), some (.ref kf), some (.int s.n), some (.int s.b), some (.str s.sg), some (.str A1), some (.str A2), some (.int e)]) (s := S ++ M6 ++ [Ob.dK (putKD X (.inl (s.n : Int)) (.int e))]) (by simp [ds]) ⟨_, rfl, ?_, fun n v hv => ?_, _, _, _, _, _, _, rfl⟩
        · have := putKD_len X (.inl (s.n : Int)) (.int e); omega
        · rw [valK_put] at hv
          rw [take_snoc q]
          split at hv
          · rename_i hn
            cases hn
            cases hv
            exact ⟨s, by simp, rfl, by rw [hend]⟩
          · obtain ⟨t, ht, r⟩ := xv _ _ hv
            exact ⟨t, by simp [ht], r⟩)
    exact ⟨X, c5, c6, c7, c8, c9, c10, by rw [List.append_assoc]⟩
  obtain ⟨X, c5, c6, c7, c8, c9, c10, lp⟩ := lp
  rw [sCons_nx lp]
  obtain ⟨mid2, s9⟩ := strokes_okG h2 h2 k2 k2 (g2M (M6 ++ [Ob.dK X])) (g2M (M6 ++ [Ob.dK X]))
  rw [skA_self k2, ← List.append_assoc] at s9
  obtain ⟨S8, hS8⟩ : ∃ S8, S8 = S ++ M6 ++ [Ob.dK X] := ⟨_, rfl⟩
  rw [← hS8] at s9 ⊢
  have g9 : (S8 ++ Ob.lst [] :: mid2)[(S8).length]? = some (.lst []) := by
    rw [List.getElem?_append_right (Nat.le_refl _)]; simp
  have n9 : eqG false (S8 ++ Ob.lst [] :: mid2) (.ref (S8).length) (.lst []) = .ok (.bl true, S8 ++ Ob.lst [] :: mid2) := by
    have := eq_strs (neg := false) (A := []) (B := []) (show listOf (S8 ++ Ob.lst [] :: mid2) (.ref (S8).length) = some (strsD [], [((S8).length, [])]) by simp only [listOf, g9]; rfl) (show listOf _ (.lst []) = some (strsD [], []) from rfl)
    simpa using this
  refine ⟨M6 ++ [Ob.dK X] ++ Ob.lst [] :: mid2, ?_⟩
  have e9 : S ++ (M6 ++ [Ob.dK X] ++ Ob.lst [] :: mid2) = S8 ++ Ob.lst [] :: mid2 := by rw [hS8]; simp
  rw [e9]
  generalize S8 ++ Ob.lst [] :: mid2 = SF at *
  generalize S8.length = kg at *
  simp [s9, n9]
end Dl
namespace Dl
open PySem L2
def linesL (p : Page) (f : Nat → Nat → Int) : List (List Nat) := (List.range p.length).map (lineR p f)
theorem linesL_enc (p : Page) (f : Nat → Nat → Int) : linesD p f = strsD (linesL p f) := by
  unfold linesD strsD linesL
  rw [List.map_map]; rfl
theorem linesL_len (p : Page) (f : Nat → Nat → Int) : (linesL p f).length = p.length := by simp [linesL]
theorem linesL_at (p : Page) (f : Nat → Nat → Int) (i : Nat) : lineAt (linesL p f) i = if i < p.length then lineR p f i else [] := by
  unfold lineAt linesL
  rw [List.getElem?_map]
  by_cases h : i < p.length
  · rw [if_pos h, List.getElem?_range h]; rfl
  · rw [if_neg h, List.getElem?_eq_none (by simp; omega)]; rfl
theorem lineN_sign {p : Page} (hp : okPage p = true) (f : Nat → Nat → Int) {k : Nat} (hk : k < p.length) : ∀ n, n ≤ cellsIn p k → ∀ c ∈ lineN p f k n, okSign c = true
  | 0, _ => fun c hc => by cases hc
  | n + 1, h => fun c hc => by
    have ih := lineN_sign hp f hk n (by omega)
    unfold lineN at hc
    split at hc
    · exact ih c hc
    · rcases List.mem_append.mp hc with hc | hc
      · unfold ljustL at hc
        rcases List.mem_append.mp hc with hc | hc
        · exact ih c hc
        · rw [List.eq_of_mem_replicate hc]; decide
      · exact (okCell_un (cellAt_ok hp hk (by omega))).2 c hc
theorem linesL_ok {p : Page} (hp : okPage p = true) {y : Sty} (hy : y.ok) : ∀ s ∈ linesL p (bAt p y), okLine s = true := fun s hs => by
  unfold linesL at hs
  obtain ⟨k, hk, rfl⟩ := List.mem_map.mp hs
  rw [List.mem_range] at hk
  have h6 := (cellsIn_le hp hk).2
  have l := lineN_len hp hk (f := bAt p y) (fun c hc => bAt_b hp hy hk hc) (cellsIn p k) (Nat.le_refl _)
  simp only [okLine, Bool.and_eq_true, decide_eq_true_eq, List.all_eq_true]
  exact ⟨by unfold lineR; omega, lineN_sign hp _ hk _ (Nat.le_refl _)⟩
theorem row_same {p q : Page} {i j : Nat} (h : p[i]? = q[j]?) : cellsIn p i = cellsIn q j ∧ ∀ c, cellAt p i c = cellAt q j c := by
  unfold cellsIn cellAt
  simp only [List.getD_eq_getElem?_getD, h]
  exact ⟨trivial, fun _ => trivial⟩
theorem lineR_same {p q : Page} {f g : Nat → Nat → Int} {i : Nat} (h : p[i]? = q[i]?) (hf : ∀ c, c < cellsIn p i → f i c = g i c) : lineR p f i = lineR q g i := by
  obtain ⟨a, b⟩ := row_same h
  unfold lineR
  rw [← a]
  have : ∀ n, n ≤ cellsIn p i → lineN p f i n = lineN q g i n := by
    intro n
    induction n with
    | zero => intro _; rfl
    | succ n ih =>
      intro hn
      unfold lineN
      rw [ih (by omega), b n, hf n (by omega)]
  exact this _ (Nat.le_refl _)
/-- the rows of which something is told -/
def fstI : D → Int
  | .tup (.int a :: _) => a
  | _ => 0
theorem mvAll_shape {p q : Page} {y : Sty} {o : List (Option Nat)} : ∀ d ∈ mvAll p y q o, ∃ (k c : Nat) (u v : Int), d = .tup [.int k, .int c, .int u, .int v] := fun d hd => by
  unfold mvAll mvTo at hd
  obtain ⟨k, _, hd⟩ := List.mem_flatMap.mp hd
  unfold mvOne at hd
  cases h : o.getD k none with
  | none => rw [h] at hd; cases hd
  | some e =>
    rw [h] at hd
    unfold mvRow at hd
    obtain ⟨c, _, rfl⟩ := List.mem_map.mp hd
    exact ⟨k, c, _, _, rfl⟩
theorem mvAll_has {p q : Page} {y : Sty} {o : List (Option Nat)} {k e c : Nat} (ho : o[k]? = some (some e)) (hc : c < cellsIn q k) (h : bAt p y e c ≠ bAt q y k c) : (k : Int) ∈ (mvAll p y q o).map fstI := by
  refine List.mem_map.mpr ⟨.tup [.int k, .int c, .int (bAt p y e c), .int (bAt q y k c)], ?_, rfl⟩
  unfold mvAll mvTo
  refine List.mem_flatMap.mpr ⟨k, List.mem_range.mpr (List.getElem?_eq_some_iff.mp ho).1, ?_⟩
  have : o.getD k none = some e := by rw [List.getD_eq_getElem?_getD, ho]; rfl
  rw [this]
  unfold mvOne mvRow
  refine List.mem_map.mpr ⟨c, ?_, rfl⟩
  rw [List.mem_filter]
  exact ⟨List.mem_range.mpr hc, by simpa using h⟩
/-- one row stands in one row's place -/
theorem edit_one {p : Page} {k : Nat} {r : Row} (hk : k < p.length) : (editD p (k, [r], k + 1)).1.length = p.length ∧ ∀ i, i ≠ k → i < p.length → (editD p (k, [r], k + 1)).1[i]? = p[i]? ∧ (editD p (k, [r], k + 1)).2[i]? = some (some i) := by
  unfold editD
  simp only [List.length_cons, List.length_nil]
  refine ⟨by rw [spl_len (by omega) (by omega)]; simp; omega, fun i hi hl => ⟨?_, ?_⟩⟩
  · rw [spl_get (by omega) (by omega)]
    by_cases z : i < k
    · rw [if_pos z]
    · rw [if_neg z, if_neg (by simp; omega)]
      congr 1; simp; omega
  · rw [spl_get (by omega) (by rw [every_len]; omega), every_get, every_get]
    by_cases z : i < k
    · rw [if_pos z, if_pos hl]
    · rw [if_neg z, if_neg (by simp; omega)]
      have e : k + 1 + (i - (k + (List.replicate (0 + 1) (none : Option Nat)).length)) = i := by simp; omega
      rw [e, if_pos hl]
/-- strokes stand just in lines of the row that is another one, or of which cells move -/
theorem moved_strk {p : Page} (hp : okPage p = true) {y : Sty} {k : Nat} {r : Row} (hy : y.ok) (hk : k < p.length) {q : Page} {o : List (Option Nat)} (hq : okPage q = true) (e1 : (editD p (k, [r], k + 1)).1 = q) (e2 : (editD p (k, [r], k + 1)).2 = o) :
    ∀ s ∈ skA (linesL p (bAt p y)) (linesL q (bAt q y)), (s.n : Int) ∈ (mvAll p y q o).map fstI ++ [(k : Int)] := fun s hs => by
  obtain ⟨ql, qs⟩ := edit_one (r := r) hk
  rw [e1, e2] at qs
  rw [e1] at ql
  obtain ⟨sn, sin⟩ := skN_mem hs
  rw [linesL_len, linesL_len, ql, Nat.max_self] at sn
  refine Classical.byContradiction fun hn => ?_
  rw [List.mem_append, not_or] at hn
  have hk2 : s.n ≠ k := fun z => hn.2 (by simp [z])
  obtain ⟨r1, r2⟩ := qs s.n hk2 sn
  have same : lineR p (bAt p y) s.n = lineR q (bAt q y) s.n := lineR_same r1.symm fun c hc => by
    refine Classical.byContradiction fun z => hn.1 (mvAll_has r2 ?_ z)
    rw [(row_same r1).1]; exact hc
  have k1 := linesL_ok hp hy
  have k2 := linesL_ok hq hy
  have h0 : skL s.n (lineAt (linesL p (bAt p y)) s.n) (lineAt (linesL q (bAt q y)) s.n) = [] := by
    rw [skL_nil (lineAt_ok k1 _).1 (lineAt_ok k2 _).1, linesL_at, linesL_at, if_pos sn, if_pos (by omega), same]
    exact fun _ => rfl
  rw [h0] at sin
  cases sin
theorem in_ints {neg : Bool} (S : Store) (n : Int) (is : List Int) : inG neg S (.int n) (.lst (is.map .int)) = .ok (.bl (if neg = true then !decide (n ∈ is) else decide (n ∈ is)), S) := by
  rw [inG_seq (fun s e => by cases e)]
  have h1 : (is.map D.int).all flatD = true := by rw [List.all_eq_true]; intro x hx; obtain ⟨i, _, rfl⟩ := List.mem_map.mp hx; rfl
  have h2 : ((is.map D.int).any fun z => eqFl z (.int n)) = decide (n ∈ is) := by
    rw [List.any_map]
    by_cases h : n ∈ is
    · rw [decide_eq_true h, List.any_eq_true]
      exact ⟨n, h, by simp [eqFl]⟩
    · rw [decide_eq_false h, List.any_eq_false]
      intro x hx
      simp only [Function.comp_def, eqFl, beq_iff_eq]
      intro e; exact h (e ▸ hx)
  simp only [seqOf, lstOf, h1, h2]
  rfl
theorem in_words (S : Store) (w a b c : List Nat) : inG false S (.str w) (.tup [.str a, .str b, .str c]) = .ok (.bl (decide (w = a ∨ w = b ∨ w = c)), S) := by
  rw [inG_seq (fun s e => by cases e)]
  simp only [seqOf]
  rw [if_pos ⟨rfl, rfl⟩]
  have : ([D.str a, .str b, .str c].any fun z => eqFl z (.str w)) = decide (w = a ∨ w = b ∨ w = c) := by
    have e : ∀ x : List Nat, (x == w) = decide (w = x) := fun x => by
      by_cases h : w = x
      · subst h; simp
      · rw [decide_eq_false h]; exact beq_false_of_ne (Ne.symm h)
    simp only [List.any_cons, List.any_nil, eqFl, Bool.or_false, e, Bool.decide_or]
  rw [this]; rfl
theorem deed_done {S : Store} {n L Q : Nat} {p : Page} {y : Sty} {ps : List Page} (h : Sht S n p y L Q ps) (hp : okPage p = true) (hl : ps.length < 1000) {dd : Deed} (hd : DeedOk p dd) (hb : dd ≠ .back) :
    (editOf p dd = none ∧ m_law_told [.ref n, deedD dd] S = .ok (.str [114, 101, 102, 117, 115, 101, 100], S)) ∨
    ∃ x F S' L', editOf p dd = some x ∧ EditOk p x ∧ m_law_told [.ref n, deedD dd] S = .ok (.ref F, S') ∧ S'[F]? = some (.lst (mvAll p y (editD p x).1 (editD p x).2)) ∧ S.length ≤ F ∧
      Sht S' n (editD p x).1 y L' Q (ps ++ [p]) ∧ (∀ i ob, i ≠ n → i ≠ Q → S[i]? = some ob → S'[i]? = some ob) ∧ S.length ≤ L' ∧ S.length ≤ S'.length := by
  obtain ⟨c, hc, e⟩ := do_ok h hp hd hb
  unfold doneBy at e
  cases he : editOf p dd with
  | none =>
    rw [he] at e
    exact .inl ⟨rfl, told_bad hc e⟩
  | some x =>
    rw [he] at e
    right
    have eo := editOf_ok hp hd he
    obtain ⟨o1, o2⟩ := edit_ok hp eo
    obtain ⟨S', L', F, t, s', f, f1, f2, f3, f4, f5, kk, f6⟩ := turn_to_ok h hp o1 hl o2
    exact ⟨x, F, S', L', rfl, eo, told_of (e.trans t), f, f1, s', kk, f5, f6⟩
theorem bx_at22 {S S' : Store} {b : Box} {n Q : Nat} (hn : 2 ≤ n) (hQ : 2 ≤ Q) {Z : Store} (hS : S = Bx b Z) (kk : ∀ i ob, i ≠ n → i ≠ Q → S[i]? = some ob → S'[i]? = some ob) : ∃ Z', S' = Bx b Z' := by
  subst hS
  have c0 := kk 0 _ (by omega) (by omega) (show (Bx b Z)[0]? = some _ from rfl)
  have c1 := kk 1 _ (by omega) (by omega) (show (Bx b Z)[1]? = some _ from rfl)
  match S', c0, c1 with
  | o0 :: o1 :: Z', c0, c1 =>
    refine ⟨Z', ?_⟩
    simp only [List.getElem?_cons_zero, List.getElem?_cons_succ] at c0 c1
    cases c0; cases c1
    rfl
  | [], c0, _ => cases c0
  | [_], _, c1 => cases c1
end Dl
namespace Dl
open PySem L2
theorem Sht.app {S M : Store} {n L Q : Nat} {p : Page} {y : Sty} {ps : List Page} (h : Sht S n p y L Q ps) : Sht (S ++ M) n p y L Q ps := ⟨get_app h.sh, ⟨get_app h.la.1, fun k hk => get_app (h.la.2 k hk)⟩, get_app h.pa, h.nL, h.nQ, h.LQ⟩
end Dl
namespace Dl
open PySem L2
def wordD : Deed → List Nat
  | .put _ _ => [112, 117, 116]
  | .take _ => [116, 97, 107, 101]
  | .change _ _ => [99, 104, 97, 110, 103, 101]
  | .strike _ _ _ _ => [115, 116, 114, 105, 107, 101]
  | .erase _ _ _ => [101, 114, 97, 115, 101]
  | .part _ _ _ => [112, 97, 114, 116]
  | .unite _ => [117, 110, 105, 116, 101]
  | .back => [98, 97, 99, 107]
/-- a deed in one row: which row -/
def inRow : Deed → Option Nat
  | .change k _ => some k
  | .strike k _ _ _ => some k
  | .erase k _ _ => some k
  | _ => none
theorem word_row (dd : Deed) : (wordD dd = [99, 104, 97, 110, 103, 101] ∨ wordD dd = [115, 116, 114, 105, 107, 101] ∨ wordD dd = [101, 114, 97, 115, 101]) ↔ ∃ k, inRow dd = some k := by
  cases dd <;> simp [wordD, inRow]
theorem ix_word (S : Store) (dd : Deed) : ixG S (deedD dd) (.int 0) = .ok (.str (wordD dd), S) := by cases dd <;> rfl
theorem ix_rowN {dd : Deed} {k : Nat} (h : inRow dd = some k) (S : Store) : ixG S (deedD dd) (.int 1) = .ok (.int k, S) := by
  cases dd <;> simp only [inRow] at h <;> cases h <;> rfl
theorem edit_row {p : Page} {dd : Deed} {k : Nat} (h : inRow dd = some k) {x : Nat × List Row × Nat} (e : editOf p dd = some x) : ∃ r, x = (k, [r], k + 1) := by
  cases dd with
  | change k' r => cases h; cases e; exact ⟨_, rfl⟩
  | strike k' c e' s =>
    cases h
    simp only [editOf] at e
    split at e
    · split at e
      · cases e
      · cases e; exact ⟨_, rfl⟩
    · split at e
      · cases e
      · cases e; exact ⟨_, rfl⟩
  | erase k' c e' =>
    cases h
    simp only [editOf] at e
    split at e
    · cases e; exact ⟨_, rfl⟩
    · split at e
      · cases e
      · split at e
        · cases e
        · cases e; exact ⟨_, rfl⟩
  | _ => cases h
theorem row_lt {p : Page} {dd : Deed} {k : Nat} (h : inRow dd = some k) (d : DeedOk p dd) : k < p.length := by
  cases dd with
  | change k' r => cases h; exact d.1
  | strike k' c e' s => cases h; exact d.1.1
  | erase k' c e' => cases h; exact d.1
  | _ => cases h
/-- what is shown -/
theorem shown22 {p : Page} (hp : okPage p = true) {y : Sty} (hy : y.ok) {S : Store} {d : D} {w : List (Nat × List D)} (hd : listOf S d = some (encP p, w)) :
    ∃ M, m_shown [d, y.enc] S = .ok (.ref (S.length + M.length), S ++ M ++ [.lst (strsD (linesL p (bAt p y)))]) := by
  rw [← linesL_enc]
  exact shown_ok hp hy hd
def m_law_k22 : FV := funD 15 (d_law_k22 m_law_begun m_law_lines_two m_law_fits m_law_page m_law_take m_law_style m_shown m_Sheet_page m_law_drawn m_law_told m_strokes m_Sheet_init)
/-- a turn's end: lines of other rows get none -/
def endB : SV := (sIf (tAndD (tv (eOp (inG false) (eOp ixG (eV 10) (eC (.int 0))) (eTup (aCons (eC (.str [99, 104, 97, 110, 103, 101])) (aCons (eC (.str [115, 116, 114, 105, 107, 101])) (aCons (eC (.str [101, 114, 97, 115, 101])) (aNil))))))) (tv (eIs "list" (eV 11)))) (sCons (sAsg (eOp (addG false) (eLc false (iSeq (eV 11)) [14] (.one 14) (tYesD) (eOp ixG (eV 14) (eC (.int 0)))) (eLst false (aCons (eOp ixG (eV 10) (eC (.int 1))) (aNil)))) (gN 13)) (sIf (tv (eOp (eqG true) (eLc false (iSeq (eCall 2 m_strokes (aCons (eV 8) (aCons (eV 12) (aNil))))) [14] (.one 14) (tv (eOp (inG true) (eOp ixG (eV 14) (eC (.int 0))) (eV 13))) (eV 14)) (eLst false (aNil)))) (sRet (eC (.bl false))) (sNext))) (sNext))
theorem end_skip {dd : Deed} {a0 a1 a2 a3 a4 a5 a6 a7 a8 a9 a11 a12 a13 a14 : Option D} {S : Store} {v : D} (hv : a11 = some v) (h : inRow dd = none ∨ tyOf S v = some "str" ∨ tyOf S v = some "bool") :
    endB [a0, a1, a2, a3, a4, a5, a6, a7, a8, a9, some (deedD dd), a11, a12, a13, a14] S = .nx [a0, a1, a2, a3, a4, a5, a6, a7, a8, a9, some (deedD dd), a11, a12, a13, a14] S := by
  subst hv
  have iw := ix_word S dd
  have wr := word_row dd
  have three : (3 : Nat) ≤ LIM := by decide
  generalize deedD dd = DD at iw ⊢
  generalize wordD dd = w at iw wr
  have inw := in_words S w [99, 104, 97, 110, 103, 101] [115, 116, 114, 105, 107, 101] [101, 114, 97, 115, 101]
  unfold endB
  by_cases z : w = [99, 104, 97, 110, 103, 101] ∨ w = [115, 116, 114, 105, 107, 101] ∨ w = [101, 114, 97, 115, 101]
  · obtain ⟨k, hk⟩ := wr.mp z
    rcases h with h | h | h
    · rw [h] at hk; cases hk
    · rw [decide_eq_true z] at inw
      simp [iw, three, inw, h, subTy]
    · rw [decide_eq_true z] at inw
      simp [iw, three, inw, h, subTy]
  · rw [decide_eq_false z] at inw
    simp [iw, three, inw]
theorem fst_map {L : List D} (h : ∀ d ∈ L, ∃ (k c : Nat) (u v : Int), d = .tup [.int k, .int c, .int u, .int v]) : L.map (fun d => D.int (fstI d)) = (L.map fstI).map .int := by
  rw [List.map_map]; rfl
theorem end_ok {p q : Page} (hp : okPage p = true) (hq : okPage q = true) {y : Sty} (hy : y.ok) {dd : Deed} {k : Nat} (hr : inRow dd = some k) (hk : k < p.length) {r : Row} {o : List (Option Nat)} (e1 : (editD p (k, [r], k + 1)).1 = q) (e2 : (editD p (k, [r], k + 1)).2 = o) (ho : OrigOk p q o)
    {a0 a1 a2 a3 a4 a5 a6 a7 a9 a13 a14 : Option D} {S : Store} {k8 k11 k12 : Nat} (g8 : S[k8]? = some (.lst (strsD (linesL p (bAt p y))))) (g11 : S[k11]? = some (.lst (mvAll p y q o))) (g12 : S[k12]? = some (.lst (strsD (linesL q (bAt q y))))) :
    ∃ M c13 c14, endB [a0, a1, a2, a3, a4, a5, a6, a7, some (.ref k8), a9, some (deedD dd), some (.ref k11), some (.ref k12), a13, a14] S = .nx [a0, a1, a2, a3, a4, a5, a6, a7, some (.ref k8), a9, some (deedD dd), some (.ref k11), some (.ref k12), c13, c14] (S ++ M) := by
  have iw := ix_word S dd
  have i1 := ix_rowN hr S
  have wr := (word_row dd).mpr ⟨k, hr⟩
  have three : (3 : Nat) ≤ LIM := by decide
  generalize deedD dd = DD at iw i1 ⊢
  generalize wordD dd = w at iw wr
  have inw := in_words S w [99, 104, 97, 110, 103, 101] [115, 116, 114, 105, 107, 101] [101, 114, 97, 115, 101]
  rw [decide_eq_true wr] at inw
  have ty : tyOf S (.ref k11) = some "list" := by simp only [tyOf, g11]
  unfold endB
  rw [sIf_at (b := true) (sx := S) (by simp [iw, three, inw, ty, subTy]), if_pos rfl]
  -- which rows
  have m4 : (mvAll p y q o).length ≤ 180 := by
    have := mvTo_le (y := y) hq ho o.length (Nat.le_refl _)
    have h1 := ho.1
    have h2 := (okPage_parts hq).2.1
    unfold mvAll; omega
  have shp := mvAll_shape (p := p) (q := q) (y := y) (o := o)
  have strk := moved_strk hp hy hk hq e1 e2
  have l11 : listOf S (.ref k11) = some (mvAll p y q o, [(k11, mvAll p y q o)]) := by simp only [listOf, g11]
  have it := items_list l11
  have stl := still_list l11
  generalize mvAll p y q o = MV at *
  have lm : MV.length ≤ LIM := le_LIM (by omega)
  have key : lcGo [(k11, MV)] (.one 14) tYesD (eOp ixG (eV 14) (eC (.int 0))) [a0, a1, a2, a3, a4, a5, a6, a7, some (.ref k8), a9, some DD, some (.ref k11), some (.ref k12), a13, none] MV [] S = .ok ((MV.map fstI).map .int, S) := by
    rw [lc_map stl (fun d => D.int (fstI d)) MV (fun d hd => by
      obtain ⟨k', c, u, v, rfl⟩ := shp d hd
      exact ⟨_, rfl, by simp [fstI]⟩), fst_map shp]
  have s13 : eOp (addG false) (eLc false (iSeq (eV 11)) [14] (.one 14) (tYesD) (eOp ixG (eV 14) (eC (.int 0)))) (eLst false (aCons (eOp ixG (eV 10) (eC (.int 1))) (aNil))) [a0, a1, a2, a3, a4, a5, a6, a7, some (.ref k8), a9, some DD, some (.ref k11), some (.ref k12), a13, a14] S = .ok (.lst ((MV.map fstI ++ [(k : Int)]).map .int), S) := by
    have ad := add_ll S ((MV.map fstI).map .int) [.int k] (by simp; omega)
    have one : (1 : Nat) ≤ LIM := by decide
    have ee : (MV.map fstI).map D.int ++ [.int k] = (MV.map fstI ++ [(k : Int)]).map .int := by simp
    rw [ee] at ad
    generalize (MV.map fstI ++ [(k : Int)]).map D.int = X at ad ⊢
    generalize (MV.map fstI).map D.int = Y at key ad
    simp [it, lm, key, i1, one, ad]
  rw [sCons_nx (sAsgN_at s13)]
  simp only [List.set_cons_succ, List.set_cons_zero]
  -- the strokes
  have k1 := linesL_ok hp hy
  have k2 := linesL_ok hq hy
  obtain ⟨p1, p2, p3⟩ := okPage_parts hp
  obtain ⟨q1, q2, q3⟩ := okPage_parts hq
  obtain ⟨mid, so⟩ := strokes_okG (by rw [linesL_len]; omega) (by rw [linesL_len]; omega) k1 k2 (d1 := .ref k8) (d2 := .ref k12) (st := S) (by simp only [listOf, g8]; rfl) (by simp only [listOf, g12]; rfl)
  have sle := skA_len (l1 := linesL p (bAt p y)) (l2 := linesL q (bAt q y)) (by rw [linesL_len]; omega) (by rw [linesL_len]; omega)
  rw [← skA_enc] at so
  generalize skA (linesL p (bAt p y)) (linesL q (bAt q y)) = SK at so strk sle
  generalize MV.map fstI ++ [(k : Int)] = IS at strk ⊢
  obtain ⟨S2, hS2⟩ : ∃ S2, S2 = S ++ Ob.lst (drD SK) :: mid := ⟨_, rfl⟩
  have gs : S2[S.length]? = some (.lst (drD SK)) := by rw [hS2, List.getElem?_append_right (Nat.le_refl _)]; simp
  rw [← hS2] at so
  have ls : listOf S2 (.ref S.length) = some (drD SK, [(S.length, drD SK)]) := by simp only [listOf, gs]
  have its := items_list ls
  have ll : SK.length ≤ LIM := le_LIM (by omega)
  have key2 : lcGo [(S.length, drD SK)] (.one 14) (tv (eOp (inG true) (eOp ixG (eV 14) (eC (.int 0))) (eV 13))) (eV 14) [a0, a1, a2, a3, a4, a5, a6, a7, some (.ref k8), a9, some DD, some (.ref k11), some (.ref k12), some (.lst (IS.map .int)), none] (drD SK) [] S2 = .ok ((drD SK).filter fun _ => false, S2) := by
    refine lc_keep (still_list ls) (fun _ => false) (drD SK) (fun d hd => ?_) (by simp)
    obtain ⟨s, hs, rfl⟩ := List.mem_map.mp hd
    have ii := in_ints (neg := true) S2 (s.n : Int) IS
    rw [decide_eq_true (strk s hs)] at ii
    unfold Stk.enc
    simp [ii]
  have fe : (drD SK).filter (fun _ => false) = [] := by rw [List.filter_eq_nil_iff]; simp
  rw [fe] at key2
  refine ⟨Ob.lst (drD SK) :: mid, some (.lst (IS.map .int)), a14, ?_⟩
  rw [← hS2]
  have nn : eqG true S2 (.lst []) (.lst []) = .ok (.bl false, S2) := by rw [eqG_pl rfl rfl (by simp) (by simp)]; simp
  generalize IS.map D.int = X at *
  rw [sIf_at (b := false) (sx := S2) (by simp [so, its, ll, key2, nn]), if_neg (by decide), r_sNext]
theorem law_k22_true (ns : List Int) (_ : ns.length ≤ 63) : ∃ st, m_law_k22 [.scr ns] [] = .ok (.bl true, st) := by
  rw [m_law_k22, funD, d_law_k22]
  obtain ⟨b0, hb⟩ := begun_ok ns
  simp only [List.map_cons, List.map_nil, List.length_cons, List.length_nil, List.cons_append, List.nil_append, show List.replicate (15 - (0 + 1)) (none : Option D) = [none, none, none, none, none, none, none, none, none, none, none, none, none, none] from rfl]
  rw [sCons_nx (sAsgN_at (x := .ref 1) (sx := Bx b0 []) (by simp [hb]))]
  simp only [List.set_cons_succ, List.set_cons_zero]
  -- three pairs of lists
  have lp : ∃ b1 Z1 c2 c3 c4, sFor (iR1 (aCons (eC (.int 3)) (aNil))) (gN 2) (sCons (sAsg (eCall 1 m_law_lines_two (aCons (eV 1) (aNil))) (gTp 2 (gsCons (gN 3) (gsCons (gN 4) (gsNil))))) (sIf (tOrD (tNotD (tv (eCall 2 m_law_fits (aCons (eV 3) (aCons (eV 4) (aNil)))))) (tNotD (tv (eCall 2 m_law_fits (aCons (eV 4) (aCons (eV 3) (aNil))))))) (sRet (eC (.bl false))) (sNext)))
      [some (.scr ns), some (.ref 1), none, none, none, none, none, none, none, none, none, none, none, none, none] (Bx b0 []) = .nx [some (.scr ns), some (.ref 1), c2, c3, c4, none, none, none, none, none, none, none, none, none, none] (Bx b1 Z1) := by
    simp
    generalize q : forGo _ _ _ _ _ _ = r
    obtain ⟨e, s, rfl, b, Z, rfl, c2, c3, c4, rfl⟩ := for_at q (fun i env st' => ∃ b Z, st' = Bx b Z ∧ ∃ c2 c3 c4, env = [some (.scr ns), some (.ref 1), c2, c3, c4, none, none, none, none, none, none, none, none, none, none]) ⟨b0, [], rfl, _, _, _, rfl⟩ (fun _ _ _ _ _ => rfl) (fun i x env st' hi ⟨b, Z, e1, c2, c3, c4, e2⟩ => by
      subst e1 e2
      obtain ⟨l1, l2, b2, Z2, h1, h2, k1, k2, e2⟩ := two_ok b Z
      obtain ⟨M1, f1⟩ := fits_ok h1 h2 k1 k2 (S := Bx b2 Z2) (d1 := .lst (strsD l1)) (d2 := .lst (strsD l2)) rfl rfl
      rw [Bx_app] at f1
      obtain ⟨M2, f2⟩ := fits_ok h2 h1 k2 k1 (S := Bx b2 (Z2 ++ M1)) (d1 := .lst (strsD l2)) (d2 := .lst (strsD l1)) rfl rfl
      rw [Bx_app] at f2
      refine turn_eq (e := [some (.scr ns), some (.ref 1), some x, some (.lst (strsD l1)), some (.lst (strsD l2)), none, none, none, none, none, none, none, none, none, none]) (s := Bx b2 (Z2 ++ M1 ++ M2)) ?_ ⟨_, _, rfl, _, _, _, rfl⟩
      simp only [List.append_assoc] at f2 ⊢
      generalize strsD l1 = L1 at *
      generalize strsD l2 = L2' at *
      simp [e2, f1, f2])
    exact ⟨_, _, _, _, _, rfl⟩
  obtain ⟨b1, Z1, c2, c3, c4, lp⟩ := lp
  rw [sCons_nx lp]
  -- the page, the style
  obtain ⟨y0, ey, my⟩ := atI_mem (l := [D.int 4, D.int 12, D.int 30]) (i := (tk b1 3).1) (tk_lo b1 (by decide)) (tk_hi b1 (by decide))
  have hy0 : ∃ n : Int, y0 = .int n ∧ 1 ≤ n ∧ n ≤ 30 := by
    simp at my
    rcases my with rfl | rfl | rfl <;> exact ⟨_, rfl, by decide, by decide⟩
  obtain ⟨n0, rfl, n1, n9⟩ := hy0
  obtain ⟨p, b2, hp, _, ep⟩ := page_ok (tk b1 3).2 Z1 n0 n1 n9
  obtain ⟨y, b3, hy, es⟩ := style_ok b2 (Z1 ++ [.lst (encP p)])
  obtain ⟨kp, hkp⟩ : ∃ kp, kp = Z1.length + 2 := ⟨_, rfl⟩
  rw [← hkp] at ep
  have tk1 := take_eq b1 Z1 3 (by decide) (by decide)
  generalize (tk b1 3).1 = i3 at tk1 ey
  generalize (tk b1 3).2 = b1' at tk1 ep
  obtain ⟨Z2, hZ2⟩ : ∃ Z2, Z2 = Z1 ++ [Ob.lst (encP p)] := ⟨_, rfl⟩
  rw [← hZ2] at ep es
  have sp : sPar 5 6 (aCons (eCall 2 m_law_page (aCons (eV 1) (aCons (eOp ixG (eLst false (aCons (eC (.int 4)) (aCons (eC (.int 12)) (aCons (eC (.int 30)) (aNil))))) (eCall 2 m_law_take (aCons (eV 1) (aCons (eC (.int 3)) (aNil))))) (aNil)))) (aCons (eCall 1 m_law_style (aCons (eV 1) (aNil))) (aNil))) [some (.scr ns), some (.ref 1), c2, c3, c4, none, none, none, none, none, none, none, none, none, none] (Bx b1 Z1)
      = .nx [some (.scr ns), some (.ref 1), c2, c3, c4, some (.ref kp), some y.enc, none, none, none, none, none, none, none, none] (Bx b3 Z2) := by
    have three : (3 : Nat) ≤ LIM := by decide
    simp [three, ixL, tk1, ey, ep, es]
  rw [sCons_nx sp]
  -- the sheet
  obtain ⟨S2, hS2⟩ : ∃ S2, S2 = Bx b3 Z2 := ⟨_, rfl⟩
  have g2 : S2[kp]? = some (.lst (encP p)) := by rw [hS2, hZ2, hkp, ← Bx_app]; rw [List.getElem?_append_right (by simp)]; simp
  have lp2 : listOf S2 (.ref kp) = some (encP p, [(kp, encP p)]) := by simp only [listOf, g2]
  obtain ⟨M, L, Q, si, la, pa, h1, h2⟩ := Sheet_init_ok hp hy lp2
  obtain ⟨n, hn⟩ : ∃ n, n = S2.length := ⟨_, rfl⟩
  obtain ⟨S3, hS3⟩ : ∃ S3, S3 = S2 ++ .ins 13 (shFs p y L Q) :: M := ⟨_, rfl⟩
  rw [← hS3, ← hn] at si
  rw [← hS3] at la pa
  rw [← hn] at h1
  have sh3 : Sht S3 n p y L Q [] := ⟨by rw [hS3, hn]; simp, la, pa, h1, by omega, .inr h2⟩
  obtain ⟨Z3, hZ3⟩ : ∃ Z3, S3 = Bx b3 Z3 := ⟨Z2 ++ .ins 13 (shFs p y L Q) :: M, by rw [hS3, hS2]; simp⟩
  rw [sCons_nx (sAsgN_at (x := .ref n) (sx := S3) (by rw [← hS2]; simp [← hn, si]))]
  simp only [List.set_cons_succ, List.set_cons_zero]
  have n2 : 2 ≤ n := by rw [hn, hS2]; simp
  have tk3 := take_eq b3 Z3 13 (by decide) (by decide)
  have t0 := tk_lo b3 (n := 13) (by decide)
  have t1 := tk_hi b3 (n := 13) (by decide)
  generalize tk b3 13 = t at tk3 t0 t1
  obtain ⟨t, b4⟩ := t
  simp only at tk3 t0 t1
  rw [hZ3] at sh3 ⊢
  have sh4 : Sht (Bx b4 Z3) n p y L Q [] := by
    have hQ := sh3.nQ
    have hL := sh3.nL
    have f : ∀ i, 2 ≤ i → (Bx b4 Z3)[i]? = (Bx b3 Z3)[i]? := fun i hi => by
      obtain ⟨j, rfl⟩ : ∃ j, i = j + 2 := ⟨i - 2, by omega⟩
      rfl
    exact ⟨by rw [f _ (by omega)]; exact sh3.sh, ⟨by rw [f _ (by omega)]; exact sh3.la.1, fun k hk => by rw [f _ (by omega)]; exact sh3.la.2 k hk⟩, by rw [f _ (by omega)]; exact sh3.pa, sh3.nL, sh3.nQ, sh3.LQ⟩
  have mm : -1000000 ≤ t ∧ t ≤ 1000000 := by omega
  simp [tk3, mm]
  have nt : (intsD 0 t.toNat).length ≤ 13 := by rw [intsD_len]; omega
  generalize q : forGo _ _ _ _ _ _ = r
  obtain ⟨e, s, rfl, b', Z, pp, ps, L', Q', rfl, hk, _, _, _, a2, a8, a9, a10, a11, a12, a13, a14, rfl⟩ := for_at q (fun i env st' => ∃ (b : Box) (Z : Store) (pp : Page) (ps : List Page) (L Q : Nat), st' = Bx b Z ∧ Sht (Bx b Z) n pp y L Q ps ∧ okPage pp = true ∧ (∀ r ∈ ps, okPage r = true) ∧ ps.length ≤ i ∧ ∃ (a2 a8 a9 a10 a11 a12 a13 a14 : Option D), env = [some (.scr ns), some (.ref 1), a2, c3, c4, some (.ref kp), some y.enc, some (.ref n), a8, a9, a10, a11, a12, a13, a14])
    ⟨_, Z3, p, [], L, Q, rfl, sh4, hp, (fun _ hq => by cases hq), Nat.le_refl _, _, _, _, _, _, _, _, _, rfl⟩ (fun _ _ _ _ _ => rfl) (fun i x env st' hi ⟨b, Z, pp, ps, L, Q, e1, sh, okp, oks, hn', a2, a8, a9, a10, a11, a12, a13, a14, e2⟩ => by
    subst e1 e2
    have hi13 : i < 13 := by
      have := (List.getElem?_eq_some_iff.mp hi).1
      omega
    have nQ := sh.nQ
    -- ahead: the lines, the rows
    have pg1 := sh_page_ok sh.sh
    obtain ⟨k1, hk1⟩ : ∃ k, k = (Bx b Z).length := ⟨_, rfl⟩
    rw [← hk1] at pg1
    rw [Bx_app] at pg1
    have g1 : (Bx b (Z ++ [.lst (encP pp)]))[k1]? = some (.lst (encP pp)) := by rw [← Bx_app, hk1]; simp
    obtain ⟨M1, sw1⟩ := shown22 okp hy (S := Bx b (Z ++ [.lst (encP pp)])) (d := .ref k1) (w := [(k1, encP pp)]) (by simp only [listOf, g1])
    obtain ⟨k8, hk8⟩ : ∃ k, k = (Bx b (Z ++ [.lst (encP pp)])).length + M1.length := ⟨_, rfl⟩
    rw [← hk8, Bx_app, Bx_app] at sw1
    obtain ⟨Z2, hZ2⟩ : ∃ Z2, Z2 = Z ++ [.lst (encP pp)] ++ M1 ++ [.lst (strsD (linesL pp (bAt pp y)))] := ⟨_, rfl⟩
    rw [← hZ2] at sw1
    have sh2 : Sht (Bx b Z2) n pp y L Q ps := by
      have : Bx b Z2 = Bx b Z ++ ([.lst (encP pp)] ++ M1 ++ [.lst (strsD (linesL pp (bAt pp y)))]) := by rw [hZ2, Bx_app]; simp
      rw [this]; exact sh.app
    have g8 : (Bx b Z2)[k8]? = some (.lst (strsD (linesL pp (bAt pp y)))) := by
      have e : k8 = (Bx b (Z ++ [.lst (encP pp)]) ++ M1).length := by rw [hk8, List.length_append]
      rw [e, hZ2, ← Bx_app, ← Bx_app]
      exact List.getElem?_concat_length
    have pg2 := sh_page_ok sh2.sh
    obtain ⟨k9, hk9⟩ : ∃ k, k = (Bx b Z2).length := ⟨_, rfl⟩
    rw [← hk9] at pg2
    rw [Bx_app] at pg2
    obtain ⟨Z3, hZ3⟩ : ∃ Z3, Z3 = Z2 ++ [.lst (encP pp)] := ⟨_, rfl⟩
    rw [← hZ3] at pg2
    have sh3b : ∀ b', Sht (Bx b' Z3) n pp y L Q ps := fun b' => by
      have hL := sh2.nL
      have h3 : Sht (Bx b Z3) n pp y L Q ps := by rw [hZ3, ← Bx_app]; exact sh2.app
      have f : ∀ i, 2 ≤ i → (Bx b' Z3)[i]? = (Bx b Z3)[i]? := fun i hi => by
        obtain ⟨j, rfl⟩ : ∃ j, i = j + 2 := ⟨i - 2, by omega⟩
        rfl
      exact ⟨by rw [f _ (by omega)]; exact h3.sh, ⟨by rw [f _ (by omega)]; exact h3.la.1, fun k hk => by rw [f _ (by omega)]; exact h3.la.2 k hk⟩, by rw [f _ (by omega)]; exact h3.pa, h3.nL, h3.nQ, h3.LQ⟩
    have lb : ∀ (b' : Box) (i : Nat) (ob : Ob), 2 ≤ i → (Bx b Z3)[i]? = some ob → (Bx b' Z3)[i]? = some ob := fun b' i ob hi h => by
      obtain ⟨j, rfl⟩ : ∃ j, i = j + 2 := ⟨i - 2, by omega⟩
      exact h
    have g9 : (Bx b Z3)[k9]? = some (.lst (encP pp)) := by rw [hZ3, ← Bx_app, hk9]; simp
    have k9b : 2 ≤ k9 := by rw [hk9]; simp
    have k8b : 2 ≤ k8 := by rw [hk8]; simp; omega
    have g83 : (Bx b Z3)[k8]? = some (.lst (strsD (linesL pp (bAt pp y)))) := by rw [hZ3, ← Bx_app]; exact get_app g8
    -- the deed
    obtain ⟨dd, b1, hdd, dr⟩ := drawn_ok okp b Z3 (d := .ref k9) (w := [(k9, encP pp)]) (fun b' => by simp only [listOf, lb b' k9 _ k9b g9])
    have sh4 := sh3b b1
    have g84 := lb b1 _ _ k8b g83
    have l84 : k8 < (Bx b1 Z3).length := (List.getElem?_eq_some_iff.mp g84).1
    -- what comes of it
    obtain ⟨v, Z4, qq, ps', L', told, sh5, okq, oks', hl', g85, how⟩ : ∃ (v : D) (Z4 : Store) (qq : Page) (ps' : List Page) (L' : Nat), m_law_told [.ref n, deedD dd] (Bx b1 Z3) = .ok (v, Bx b1 Z4) ∧ Sht (Bx b1 Z4) n qq y L' Q ps' ∧ okPage qq = true ∧ (∀ r ∈ ps', okPage r = true) ∧ ps'.length ≤ i + 1 ∧ (Bx b1 Z4)[k8]? = some (.lst (strsD (linesL pp (bAt pp y)))) ∧
        ((inRow dd = none ∨ ∃ s, v = .str s) ∨ ∃ k r o F, inRow dd = some k ∧ (editD pp (k, [r], k + 1)).1 = qq ∧ (editD pp (k, [r], k + 1)).2 = o ∧ OrigOk pp qq o ∧ v = .ref F ∧ (Bx b1 Z4)[F]? = some (.lst (mvAll pp y qq o))) := by
      have keep : ∀ {S' : Store}, (∀ i ob, i ≠ n → i ≠ Q → (Bx b1 Z3)[i]? = some ob → S'[i]? = some ob) → S'[k8]? = some (.lst (strsD (linesL pp (bAt pp y)))) := fun kk => by
        refine kk _ _ (fun z => ?_) (fun z => ?_) g84
        · have := sh4.sh; rw [← z, g84] at this; cases this
        · have hQ : Q < (Bx b Z).length := (List.getElem?_eq_some_iff.mp sh.pa).1
          rw [← z, hk8, ← Bx_app] at hQ
          simp at hQ
          omega
      by_cases zb : dd = .back
      · subst zb
        rcases List.eq_nil_or_concat ps with rfl | ⟨ps', q, rfl⟩
        · exact ⟨.bl false, Z3, pp, [], L, told_of ((do_back sh4).trans (sh_back0 sh4)), sh4, okp, oks, by simp, g84, .inl (.inl rfl)⟩
        · rw [List.concat_eq_append] at sh4 oks hn'
          have okq : okPage q = true := oks q (by simp)
          obtain ⟨S', L', sb, sh', kk, gL, gS⟩ := sh_back1 sh4 okq
          obtain ⟨Z4, rfl⟩ := bx_at22 (n := n) (Q := Q) n2 (by omega) rfl kk
          exact ⟨.bl true, Z4, q, ps', L', told_of ((do_back sh4).trans sb), sh', okq, fun r hr => oks r (by simp [hr]), by simp at hn'; omega, keep kk, .inl (.inl rfl)⟩
      · rcases deed_done sh4 okp (by omega) hdd zb with ⟨_, td⟩ | ⟨x, F, S', L', he, eo, td, gF, f2, sh', kk, f3, f4⟩
        · exact ⟨_, Z3, pp, ps, L, td, sh4, okp, oks, by omega, g84, .inl (.inr ⟨_, rfl⟩)⟩
        · obtain ⟨o1, o2⟩ := edit_ok okp eo
          obtain ⟨Z4, rfl⟩ := bx_at22 (n := n) (Q := Q) n2 (by omega) rfl kk
          refine ⟨_, Z4, _, _, L', td, sh', o1, fun r hr => ?_, by simp; omega, keep kk, ?_⟩
          · rcases List.mem_append.mp hr with hr | hr
            · exact oks r hr
            · rw [List.mem_singleton.mp hr]; exact okp
          · cases hin : inRow dd with
            | none => exact .inl (.inl rfl)
            | some k =>
              obtain ⟨r, rfl⟩ := edit_row hin he
              exact .inr ⟨k, r, _, F, rfl, rfl, rfl, o2, rfl, gF⟩
    -- behind: the lines
    have pg5 := sh_page_ok sh5.sh
    obtain ⟨k5, hk5⟩ : ∃ k, k = (Bx b1 Z4).length := ⟨_, rfl⟩
    rw [← hk5] at pg5
    rw [Bx_app] at pg5
    have g5 : (Bx b1 (Z4 ++ [.lst (encP qq)]))[k5]? = some (.lst (encP qq)) := by rw [← Bx_app, hk5]; simp
    obtain ⟨M5, sw5⟩ := shown22 okq hy (S := Bx b1 (Z4 ++ [.lst (encP qq)])) (d := .ref k5) (w := [(k5, encP qq)]) (by simp only [listOf, g5])
    obtain ⟨k12, hk12⟩ : ∃ k, k = (Bx b1 (Z4 ++ [.lst (encP qq)])).length + M5.length := ⟨_, rfl⟩
    rw [← hk12, Bx_app, Bx_app] at sw5
    obtain ⟨Z6, hZ6⟩ : ∃ Z6, Z6 = Z4 ++ [.lst (encP qq)] ++ M5 ++ [.lst (strsD (linesL qq (bAt qq y)))] := ⟨_, rfl⟩
    rw [← hZ6] at sw5
    have e6 : Bx b1 Z6 = Bx b1 Z4 ++ ([.lst (encP qq)] ++ M5 ++ [.lst (strsD (linesL qq (bAt qq y)))]) := by rw [hZ6, Bx_app]; simp
    have sh6 : Sht (Bx b1 Z6) n qq y L' Q ps' := by rw [e6]; exact sh5.app
    have g86 : (Bx b1 Z6)[k8]? = some (.lst (strsD (linesL pp (bAt pp y)))) := by rw [e6]; exact get_app g85
    have g126 : (Bx b1 Z6)[k12]? = some (.lst (strsD (linesL qq (bAt qq y)))) := by
      have e : k12 = (Bx b1 (Z4 ++ [.lst (encP qq)]) ++ M5).length := by rw [hk12, List.length_append]
      rw [e, hZ6, ← Bx_app, ← Bx_app]
      exact List.getElem?_concat_length
    obtain ⟨p1, p2, p3⟩ := okPage_parts okp
    obtain ⟨q1, q2, q3⟩ := okPage_parts okq
    obtain ⟨M7, ft⟩ := fits_ok (by rw [linesL_len]; omega) (by rw [linesL_len]; omega) (linesL_ok okp hy) (linesL_ok okq hy) (S := Bx b1 Z6) (d1 := .ref k8) (d2 := .ref k12) (by simp only [listOf, g86]; rfl) (by simp only [listOf, g126]; rfl)
    rw [Bx_app] at ft
    have sh7 : Sht (Bx b1 (Z6 ++ M7)) n qq y L' Q ps' := by rw [← Bx_app]; exact sh6.app
    -- the steps
    rw [r_gN]
    simp only [sOf_m, List.set_cons_succ, List.set_cons_zero]
    have nopg : ∀ (p : Page) (L : Nat), (shFs p y L Q).lookup ("page" : Str) = none := fun p L => sh_no p y L Q (by decide +kernel) (by decide +kernel) (by decide +kernel) (by decide +kernel)
    have st1 : sPar 8 9 (aCons (eCall 2 m_shown (aCons (eMeth 13 "page" 1 m_Sheet_page (eV 7) aNil) (aCons (eV 6) (aNil)))) (aCons (eMeth 13 "page" 1 m_Sheet_page (eV 7) aNil) (aNil))) [some (.scr ns), some (.ref 1), some x, c3, c4, some (.ref kp), some y.enc, some (.ref n), a8, a9, a10, a11, a12, a13, a14] (Bx b Z)
        = .nx [some (.scr ns), some (.ref 1), some x, c3, c4, some (.ref kp), some y.enc, some (.ref n), some (.ref k8), some (.ref k9), a10, a11, a12, a13, a14] (Bx b Z3) := by
      have s0 := sh.sh
      have s2 := sh2.sh
      have np := nopg pp L
      generalize Bx b Z = T0 at *
      generalize Bx b (Z ++ [.lst (encP pp)]) = T1 at *
      generalize Bx b Z2 = T2 at *
      generalize Bx b Z3 = T3 at *
      simp [s0, s2, np, pg1, sw1, pg2]
    rw [sCons_nx st1]
    rw [sCons_nx (sAsgN_at (x := deedD dd) (sx := Bx b1 Z3) (by generalize deedD dd = DD at dr; simp [dr]))]
    simp only [List.set_cons_succ, List.set_cons_zero]
    rw [sCons_nx (sAsgN_at (x := v) (sx := Bx b1 Z4) (by generalize deedD dd = DD at told; simp [told]))]
    simp only [List.set_cons_succ, List.set_cons_zero]
    have st4 : eCall 2 m_shown (aCons (eMeth 13 "page" 1 m_Sheet_page (eV 7) aNil) (aCons (eV 6) (aNil))) [some (.scr ns), some (.ref 1), some x, c3, c4, some (.ref kp), some y.enc, some (.ref n), some (.ref k8), some (.ref k9), some (deedD dd), some v, a12, a13, a14] (Bx b1 Z4) = .ok (.ref k12, Bx b1 Z6) := by
      have s5 := sh5.sh
      have np := nopg qq L'
      generalize Bx b1 Z4 = T4 at *
      generalize Bx b1 (Z4 ++ [.lst (encP qq)]) = T5 at *
      generalize Bx b1 Z6 = T6 at *
      generalize deedD dd = DD
      simp [s5, np, pg5, sw5]
    rw [sCons_nx (sAsgN_at st4)]
    simp only [List.set_cons_succ, List.set_cons_zero]
    have st5 : tNotD (tv (eCall 2 m_law_fits (aCons (eV 8) (aCons (eV 12) (aNil))))) [some (.scr ns), some (.ref 1), some x, c3, c4, some (.ref kp), some y.enc, some (.ref n), some (.ref k8), some (.ref k9), some (deedD dd), some v, some (.ref k12), a13, a14] (Bx b1 Z6) = .ok (false, Bx b1 (Z6 ++ M7)) := by
      generalize Bx b1 Z6 = T6 at *
      generalize Bx b1 (Z6 ++ M7) = T7 at *
      generalize deedD dd = DD
      simp [ft]
    rw [r_sCons]
    rw [sIf_at st5, if_neg (by decide), r_sNext, then_nx]
    have eT : ∃ M8 d13 d14, endB [some (.scr ns), some (.ref 1), some x, c3, c4, some (.ref kp), some y.enc, some (.ref n), some (.ref k8), some (.ref k9), some (deedD dd), some v, some (.ref k12), a13, a14] (Bx b1 (Z6 ++ M7)) = .nx [some (.scr ns), some (.ref 1), some x, c3, c4, some (.ref kp), some y.enc, some (.ref n), some (.ref k8), some (.ref k9), some (deedD dd), some v, some (.ref k12), d13, d14] (Bx b1 (Z6 ++ M7 ++ M8)) := by
      rcases how with how | ⟨k, r, o, F, hin, e1, e2, ho, rfl, gF⟩
      · refine ⟨[], a13, a14, ?_⟩
        rw [List.append_nil]
        refine end_skip rfl ?_
        rcases how with how | ⟨s, rfl⟩
        · exact .inl how
        · exact .inr (.inl rfl)
      · obtain ⟨M8, d13, d14, e⟩ := end_ok okp okq hy hin (row_lt hin hdd) e1 e2 ho (a0 := some (.scr ns)) (a1 := some (.ref 1)) (a2 := some x) (a3 := c3) (a4 := c4) (a5 := some (.ref kp)) (a6 := some y.enc) (a7 := some (.ref n)) (a9 := some (.ref k9)) (a13 := a13) (a14 := a14) (S := Bx b1 (Z6 ++ M7)) (k8 := k8) (k11 := F) (k12 := k12) (by rw [← Bx_app]; exact get_app g86) (by rw [← Bx_app, e6]; exact get_app (get_app gF)) (by rw [← Bx_app]; exact get_app g126)
        rw [Bx_app] at e
        exact ⟨M8, d13, d14, e⟩
    obtain ⟨M8, d13, d14, eT⟩ := eT
    refine turn_eq eT ⟨b1, _, qq, ps', L', Q, rfl, ?_, okq, oks', hl', _, _, _, _, _, _, _, _, rfl⟩
    rw [← Bx_app]; exact sh7.app)
  simp
end Dl
set_option maxHeartbeats 1000000
namespace W22
open PySem L2 Dl
def top (i : Nat) : Stmt := PySem.Challenge.pw_tabgrow_k22_whole_drawn_anew_where_it_di.main.body.getD i (.Pass ⟨0, 0, 0, 0⟩)
abbrev s_law_begun : Stmt := top 50
abbrev s_law_take : Stmt := top 51
abbrev s_law_sign : Stmt := top 53
abbrev s_law_line : Stmt := top 58
abbrev s_law_line_near : Stmt := top 59
abbrev s_law_lines_two : Stmt := top 60
abbrev s_is_sign : Stmt := top 20
abbrev s_is_line : Stmt := top 38
abbrev s_need_lines : Stmt := top 39
abbrev s_strokes_of : Stmt := top 42
abbrev s_strokes : Stmt := top 43
abbrev s_law_bare : Stmt := top 64
abbrev s_is_number : Stmt := top 19
abbrev s_is_stroke : Stmt := top 44
abbrev s_painted : Stmt := top 45
abbrev s_law_fits : Stmt := top 65
abbrev s_law_cell : Stmt := top 54
abbrev s_law_row : Stmt := top 55
abbrev s_law_page : Stmt := top 56
abbrev s_law_style : Stmt := top 57
abbrev s_is_cell : Stmt := top 21
abbrev s_is_row : Stmt := top 22
abbrev s_need_page : Stmt := top 23
abbrev s_need_style : Stmt := top 24
abbrev s_Stretch_width : Stmt := inClass (top 28) 1
abbrev s_stops_by : Stmt := top 33
abbrev s_is_figures : Stmt := top 26
abbrev s_Stretch_is_right : Stmt := inClass (top 28) 2
abbrev s_begins_by : Stmt := top 34
abbrev s_Stretch_init : Stmt := inClass (top 28) 0
abbrev s_stretches_of : Stmt := top 29
abbrev s_all_stretches : Stmt := top 30
abbrev s_laid : Stmt := top 35
abbrev s_line_of : Stmt := top 36
abbrev s_shown : Stmt := top 37
abbrev s_Sheet_page : Stmt := inClass (top 48) 1
abbrev s_law_drawn : Stmt := top 61
abbrev s_Sheet_need_number : Stmt := inClass (top 48) 3
abbrev s_need_row : Stmt := top 25
abbrev s_Sheet_turn_to : Stmt := inClass (top 48) 4
abbrev s_Sheet_put : Stmt := inClass (top 48) 5
abbrev s_Sheet_take : Stmt := inClass (top 48) 6
abbrev s_Sheet_change : Stmt := inClass (top 48) 7
abbrev s_Sheet_need_place : Stmt := inClass (top 48) 8
abbrev s_Sheet_strike : Stmt := inClass (top 48) 9
abbrev s_Sheet_erase : Stmt := inClass (top 48) 10
abbrev s_Sheet_part : Stmt := inClass (top 48) 11
abbrev s_Sheet_unite : Stmt := inClass (top 48) 12
abbrev s_Sheet_back : Stmt := inClass (top 48) 13
abbrev s_law_do : Stmt := top 62
abbrev s_law_told : Stmt := top 63
abbrev s_Sheet_init : Stmt := inClass (top 48) 0
abbrev s_law : Stmt := top 66
abbrev s_BadLines_init : Stmt := inClass (top 7) 0
abbrev s_BadStroke_init : Stmt := inClass (top 8) 0
structure Txt (W : Wd) (mg : Str → Option Value) : Prop where
  b_len : mg "len" = none
  b_int : mg "int" = none
  b_list : mg "list" = none
  b_range : mg "range" = none
  b_min : mg "min" = none
  b_ord : mg "ord" = none
  b_str : mg "str" = none
  b_isinstance : mg "isinstance" = none
  b_enumerate : mg "enumerate" = none
  b_max : mg "max" = none
  b_bool : mg "bool" = none
  b_tuple : mg "tuple" = none
  b_zip : mg "zip" = none
  k_FIRST_SIGN : ∃ t, mg "FIRST_SIGN" = some (.str " " t)
  k_LAST_SIGN : ∃ t, mg "LAST_SIGN" = some (.str "~" t)
  k_BARRED : ∃ t, mg "BARRED" = some (.int (37) t)
  k_MOST_WIDE : ∃ t, mg "MOST_WIDE" = some (.int (200) t)
  k_MOST_ROWS : ∃ t, mg "MOST_ROWS" = some (.int (30) t)
  k_NEAR : ∃ t, mg "NEAR" = some (.int (3) t)
  k_MOST_SIGNS : ∃ t, mg "MOST_SIGNS" = some (.int (10) t)
  k_MOST_CELLS : ∃ t, mg "MOST_CELLS" = some (.int (6) t)
  k_MOST_GAP : ∃ t, mg "MOST_GAP" = some (.int (4) t)
  k_MOST_LEAST : ∃ t, mg "MOST_LEAST" = some (.int (12) t)
  k_FIGURES : ∃ t, mg "FIGURES" = some (.str "0123456789" t)
  k_TAB : ∃ t, mg "TAB" = some (.str "\t" t)
  cl_Stretch : Cls W.K (W.cls 12)
  cl_Sheet : Cls W.K (W.cls 13)
  na_Stretch_cells : NoAttr W.K (W.cls 12) "cells"
  na_Stretch_end : NoAttr W.K (W.cls 12) "end"
  na_Stretch_begin : NoAttr W.K (W.cls 12) "begin"
  na_Stretch_column : NoAttr W.K (W.cls 12) "column"
  na_Sheet_rows : NoAttr W.K (W.cls 13) "rows"
  na_Sheet_lefts : NoAttr W.K (W.cls 13) "lefts"
  na_Sheet_past : NoAttr W.K (W.cls 13) "past"
  na_Sheet_style : NoAttr W.K (W.cls 13) "style"
  ex_BadRow : OwnEx W.K mg "BadRow" (W.cls 3)
  ex_BadCell : OwnEx W.K mg "BadCell" (W.cls 4)
  g_GrowError : mg "GrowError" = some (.ref (W.cls 0))
  ct_law_told : ∀ c ∈ ([3, 4] : List Nat), PySem.W.exmOne W.K (.ref (W.cls c)) (.ref (W.cls 0)) = some true
section
variable {P : Program} {w : World} {W : Wd} {mg : Str → Option Value} {base : Heap}
theorem sc_law_begun : FnScope ["_law_script", "_law_stirred", "_law_cell_here"] ["_law_script"] (defScope s_law_begun) := ⟨rfl, rfl, rfl, by decide +kernel, rfl, by decide +kernel, by decide +kernel⟩
theorem ok_law_begun {f : Addr} {fd : FuncData} (F : Fun W.K "_law_begun" "_law_begun" s_law_begun f fd) (m : mg "_law_begun" = some (.ref f)) (T : Txt W mg)  : Fn P w W mg base "_law_begun" (1) 1 (funD 3 d_law_begun) :=
  ⟨f, fd, ["_law_script"], fnE F sc_law_begun rfl rfl fun cdv A outer sh H E hr => db_cons (ds_set sc_law_begun.nd rfl (by first | exact Or.inl rfl | exact Or.inr rfl) (de_int)) (db_cons (ds_for passF rfl (di_seq (dv 0)) (dg_name sc_law_begun.nd rfl (by first | exact Or.inl rfl | exact Or.inr rfl)) (db_one (ds_set sc_law_begun.nd rfl (by first | exact Or.inl rfl | exact Or.inr rfl) (de_op dop_mod (de_op (dop_add true) (de_op (dop_add true) (de_op (dop_mul true) (dv 1) (de_int)) (de_op (dop_mul true) (dv 2) (de_int))) (de_int)) (de_int))))) (db_one (ds_ret (de_lst true (da_cons (de_callTy (dc_list true) (by rfl) T.b_list (by decide +kernel) (da_cons (dv 0) (da_nil)) (fun a b => pe_callTy a (by rfl) T.b_list (by decide +kernel) b)) (da_cons (de_op (dop_mul true) (dv 1) (de_callTy dc_int (by rfl) T.b_int (by decide +kernel) (da_cons (de_cmp dop_gt (de_callB dc_len (by rfl) T.b_len (by decide +kernel) (da_cons (dv 0) (da_nil)) (fun a b => pe_callB a (by rfl) T.b_len (by decide +kernel) b)) (de_int) (nomark _)) (da_nil)) (fun a b => pe_callTy a (by rfl) T.b_int (by decide +kernel) b))) (da_nil))))))), m, F.kp, F.binds (ps := ["_law_script"]) fun _ _ _ _ _ _ us hl => match us, hl with | [_], _ => rfl⟩
theorem sc_law_take : FnScope ["_law_box", "_law_many", "_law_number"] ["_law_box", "_law_many"] (defScope s_law_take) := ⟨rfl, rfl, rfl, by decide +kernel, rfl, by decide +kernel, by decide +kernel⟩
theorem ok_law_take {f : Addr} {fd : FuncData} (F : Fun W.K "_law_take" "_law_take" s_law_take f fd) (m : mg "_law_take" = some (.ref f)) (T : Txt W mg)  : Fn P w W mg base "_law_take" (1) 2 (funD 3 d_law_take) :=
  ⟨f, fd, ["_law_box", "_law_many"], fnE F sc_law_take rfl rfl fun cdv A outer sh H E hr => db_cons (ds_if (dt_cmp (dop_eq rfl hr.units) (de_ix rfl (dv 0) (de_int) (fun _ _ => rfl)) (de_lst false (da_nil)) (nomark _)) (db_cons (ds_asg (de_op dop_mod (de_op (dop_mul false) (de_ix rfl (dv 0) (de_int) (fun _ _ => rfl)) (de_int)) (de_int)) (dg_sub (dv 0) (de_int) dset_list)) (db_one (ds_ret (de_op dop_mod (de_op dop_div (de_ix rfl (dv 0) (de_int) (fun _ _ => rfl)) (de_int)) (dv 1))))) (db_nil)) (db_cons (ds_set sc_law_take.nd rfl (by first | exact Or.inl rfl | exact Or.inr rfl) (de_ix rfl (de_ix rfl (dv 0) (de_int) (fun _ _ => rfl)) (de_int) (fun _ _ => rfl))) (db_cons (ds_asg (de_op dop_div (dv 2) (dv 1)) (dg_sub (de_ix rfl (dv 0) (de_int) (fun _ _ => rfl)) (de_int) dset_list)) (db_cons (ds_if (dt_w (dw_or (dt_cmp (dop_eq rfl hr.units) (de_ix rfl (de_ix rfl (dv 0) (de_int) (fun _ _ => rfl)) (de_int) (fun _ _ => rfl)) (de_int) (nomark _)) (dw_or1 (dt_cmp (dop_eq rfl hr.units) (de_ix rfl (de_ix rfl (dv 0) (de_int) (fun _ _ => rfl)) (de_int) (fun _ _ => rfl)) (de_neg (de_int)) (nomark _))))) (db_one (ds_expr (de_mt PySem.F.plainAttrs_list PySem.F.slot_list_pop PySem.F.type_list_pop (dm_pop) (de_ix rfl (dv 0) (de_int) (fun _ _ => rfl)) (da_cons (de_int) (da_nil)) (fun a b c => pe_bm PySem.F.plainAttrs_list PySem.F.slot_list_pop PySem.F.type_list_pop a b c)))) (db_nil)) (db_one (ds_ret (de_op dop_mod (dv 2) (dv 1))))))), m, F.kp, F.binds (ps := ["_law_box", "_law_many"]) fun _ _ _ _ _ _ us hl => match us, hl with | [_, _], _ => rfl⟩
theorem sc_law_sign : FnScope ["_law_box", "_law_every"] ["_law_box"] (defScope s_law_sign) := ⟨rfl, rfl, rfl, by decide +kernel, rfl, by decide +kernel, by decide +kernel⟩
theorem ok_law_sign {m_law_take : FV} {f : Addr} {fd : FuncData} (F : Fun W.K "_law_sign" "_law_sign" s_law_sign f fd) (m : mg "_law_sign" = some (.ref f)) (T : Txt W mg) (c_law_take : Fn P w W mg base "_law_take" 1 2 m_law_take) : Fn P w W mg base "_law_sign" (2) 1 (funD 2 (d_law_sign m_law_take)) :=
  ⟨f, fd, ["_law_box"], fnE F sc_law_sign rfl rfl fun cdv A outer sh H E hr => db_cons (ds_set sc_law_sign.nd rfl (by first | exact Or.inl rfl | exact Or.inr rfl) (de_str (by decide +kernel) (by decide +kernel))) (db_one (ds_ret (de_ix rfl (dv 1) (dcall c_law_take hr passD (da_cons (dv 0) (da_cons (de_int) (da_nil)))) (fun _ _ => rfl)))), m, F.kp, F.binds (ps := ["_law_box"]) fun _ _ _ _ _ _ us hl => match us, hl with | [_], _ => rfl⟩
theorem sc_law_line : FnScope ["_law_box", "_law_found", "_law_turn", "_law_word", "_law_k"] ["_law_box"] (defScope s_law_line) := ⟨rfl, rfl, rfl, by decide +kernel, rfl, by decide +kernel, by decide +kernel⟩
theorem ok_law_line {m_law_take m_law_sign : FV} {f : Addr} {fd : FuncData} (F : Fun W.K "_law_line" "_law_line" s_law_line f fd) (m : mg "_law_line" = some (.ref f)) (T : Txt W mg) (c_law_take : Fn P w W mg base "_law_take" 1 2 m_law_take) (c_law_sign : Fn P w W mg base "_law_sign" 2 1 m_law_sign) : Fn P w W mg base "_law_line" (3) 1 (funD 5 (d_law_line_k20 m_law_take m_law_sign)) :=
  ⟨f, fd, ["_law_box"], fnE F sc_law_line rfl rfl fun cdv A outer sh H E hr => db_cons (ds_set sc_law_line.nd rfl (by first | exact Or.inl rfl | exact Or.inr rfl) (de_str (by decide +kernel) (by decide +kernel))) (db_cons (ds_for passF rfl (di_r1 (by rfl) T.b_range (da_cons (dcall c_law_take hr passD (da_cons (dv 0) (da_cons (de_ix rfl (de_lst false (da_cons (de_int) (da_cons (de_int) (da_cons (de_int) (da_nil))))) (dcall c_law_take hr passD (da_cons (dv 0) (da_cons (de_int) (da_nil)))) (fun _ _ => rfl)) (da_nil)))) (da_nil))) (dg_name sc_law_line.nd rfl (by first | exact Or.inl rfl | exact Or.inr rfl)) (db_cons (ds_set sc_law_line.nd rfl (by first | exact Or.inl rfl | exact Or.inr rfl) (de_mt PySem.F.plainAttrs_str PySem.F.slot_str_join PySem.F.type_str_join (dm_join) (de_str (by decide +kernel) (by decide +kernel)) (da_cons (de_lc false rfl sc_law_line.nd (di_r1 (by rfl) T.b_range (da_cons (dcall c_law_take hr passD (da_cons (dv 0) (da_cons (de_int) (da_nil)))) (da_nil))) (by exact blkOk_by (N := ["_law_box", "_law_found", "_law_turn", "_law_word", "_law_k"]) (sc := defScope s_law_line) (own := [("_law_k", 4)]) (by decide +kernel)) rfl (by decide) (fun _ _ _ _ _ => tg_one sc_law_line.nd rfl (by first | exact Or.inl rfl | exact Or.inr rfl)) (fun _ _ _ _ _ => dts_nil) (fun _ _ _ _ _ => dcall c_law_sign hr passL (da_cons (dv 0) (da_nil)))) (da_nil)) (fun a b c => pe_bm PySem.F.plainAttrs_str PySem.F.slot_str_join PySem.F.type_str_join a b c))) (db_one (ds_set sc_law_line.nd rfl (by first | exact Or.inl rfl | exact Or.inr rfl) (de_op (dop_add false) (de_op (dop_add false) (dv 1) (dv 3)) (de_op (dop_mul false) (de_str (by decide +kernel) (by decide +kernel)) (dcall c_law_take hr passD (da_cons (dv 0) (da_cons (de_ix rfl (de_lst false (da_cons (de_int) (da_cons (de_int) (da_cons (de_int) (da_nil))))) (dcall c_law_take hr passD (da_cons (dv 0) (da_cons (de_int) (da_nil)))) (fun _ _ => rfl)) (da_nil)))))))))) (db_one (ds_ret (de_sl false rfl (dv 1) (dp_none) (dp_some (de_int)))))), m, F.kp, F.binds (ps := ["_law_box"]) fun _ _ _ _ _ _ us hl => match us, hl with | [_], _ => rfl⟩
theorem sc_law_line_near : FnScope ["_law_box", "_law_line_here", "_law_found", "_law_turn", "_law_k", "_law_way"] ["_law_box", "_law_line_here"] (defScope s_law_line_near) := ⟨rfl, rfl, rfl, by decide +kernel, rfl, by decide +kernel, by decide +kernel⟩
theorem ok_law_line_near {m_law_take m_law_sign : FV} {f : Addr} {fd : FuncData} (F : Fun W.K "_law_line_near" "_law_line_near" s_law_line_near f fd) (m : mg "_law_line_near" = some (.ref f)) (T : Txt W mg) (c_law_take : Fn P w W mg base "_law_take" 1 2 m_law_take) (c_law_sign : Fn P w W mg base "_law_sign" 2 1 m_law_sign) : Fn P w W mg base "_law_line_near" (3) 2 (funD 6 (d_law_line_near m_law_take m_law_sign)) :=
  ⟨f, fd, ["_law_box", "_law_line_here"], fnE F sc_law_line_near rfl rfl fun cdv A outer sh H E hr => db_cons (ds_set sc_law_line_near.nd rfl (by first | exact Or.inl rfl | exact Or.inr rfl) (dv 1)) (db_cons (ds_for passF rfl (di_r1 (by rfl) T.b_range (da_cons (dcall c_law_take hr passD (da_cons (dv 0) (da_cons (de_int) (da_nil)))) (da_nil))) (dg_name sc_law_line_near.nd rfl (by first | exact Or.inl rfl | exact Or.inr rfl)) (db_cons (ds_par rfl sc_law_line_near.nd rfl rfl (by decide) rfl rfl (da_cons (dcall c_law_take hr passD (da_cons (dv 0) (da_cons (de_op (dop_add false) (de_callB dc_len (by rfl) T.b_len (by decide +kernel) (da_cons (dv 2) (da_nil)) (fun a b => pe_callB a (by rfl) T.b_len (by decide +kernel) b)) (de_int)) (da_nil)))) (da_cons (dcall c_law_take hr passD (da_cons (dv 0) (da_cons (de_int) (da_nil)))) (da_nil))) (by rfl)) (db_cons (ds_if (dt_cmp dop_lt (dv 5) (de_int) (nomark _)) (db_one (ds_set sc_law_line_near.nd rfl (by first | exact Or.inl rfl | exact Or.inr rfl) (de_op (dop_add false) (de_op (dop_add false) (de_sl false rfl (dv 2) (dp_none) (dp_some (dv 4))) (de_ix rfl (de_lst false (da_cons (dcall c_law_sign hr passD (da_cons (dv 0) (da_nil))) (da_cons (de_str (by decide +kernel) (by decide +kernel)) (da_cons (de_str (by decide +kernel) (by decide +kernel)) (da_nil))))) (dv 5) (fun _ _ => rfl))) (de_sl false rfl (dv 2) (dp_some (de_op (dop_add false) (dv 4) (de_int))) (dp_none))))) (db_nil)) (db_cons (ds_if (dt_cmp (dop_eq rfl hr.units) (dv 5) (de_int) (nomark _)) (db_one (ds_set sc_law_line_near.nd rfl (by first | exact Or.inl rfl | exact Or.inr rfl) (de_op (dop_add false) (de_op (dop_add false) (de_sl false rfl (dv 2) (dp_none) (dp_some (dv 4))) (de_sl false rfl (de_str (by decide +kernel) (by decide +kernel)) (dp_none) (dp_some (dcall c_law_take hr passD (da_cons (dv 0) (da_cons (de_int) (da_nil))))))) (de_sl false rfl (dv 2) (dp_some (dv 4)) (dp_none))))) (db_nil)) (db_one (ds_if (dt_cmp (dop_eq rfl hr.units) (dv 5) (de_int) (nomark _)) (db_one (ds_set sc_law_line_near.nd rfl (by first | exact Or.inl rfl | exact Or.inr rfl) (de_ix rfl (de_lst false (da_cons (de_sl false rfl (dv 2) (dp_none) (dp_some (dv 4))) (da_cons (de_op (dop_add false) (de_sl false rfl (dv 2) (dp_none) (dp_some (dv 4))) (de_sl false rfl (dv 2) (dp_some (de_op (dop_add false) (de_op (dop_add false) (dv 4) (de_int)) (dcall c_law_take hr passD (da_cons (dv 0) (da_cons (de_int) (da_nil)))))) (dp_none))) (da_nil)))) (dcall c_law_take hr passD (da_cons (dv 0) (da_cons (de_int) (da_nil)))) (fun _ _ => rfl)))) (db_nil))))))) (db_one (ds_ret (de_sl false rfl (dv 2) (dp_none) (dp_some (de_int)))))), m, F.kp, F.binds (ps := ["_law_box", "_law_line_here"]) fun _ _ _ _ _ _ us hl => match us, hl with | [_, _], _ => rfl⟩
theorem sc_law_lines_two : FnScope ["_law_box", "_law_one", "_law_other", "_law_turn", "_law_k", "_law_line_here"] ["_law_box"] (defScope s_law_lines_two) := ⟨rfl, rfl, rfl, by decide +kernel, rfl, by decide +kernel, by decide +kernel⟩
theorem ok_law_lines_two {m_law_take m_law_line_k20 m_law_line_near : FV} {f : Addr} {fd : FuncData} (F : Fun W.K "_law_lines_two" "_law_lines_two" s_law_lines_two f fd) (m : mg "_law_lines_two" = some (.ref f)) (T : Txt W mg) (c_law_take : Fn P w W mg base "_law_take" 1 2 m_law_take) (c_law_line : Fn P w W mg base "_law_line" 3 1 m_law_line_k20) (c_law_line_near : Fn P w W mg base "_law_line_near" 3 2 m_law_line_near) : Fn P w W mg base "_law_lines_two" (4) 1 (funD 6 (d_law_lines_two m_law_take m_law_line_k20 m_law_line_near)) :=
  ⟨f, fd, ["_law_box"], fnE F sc_law_lines_two rfl rfl fun cdv A outer sh H E hr => db_cons (ds_setLc false rfl sc_law_lines_two.nd rfl rfl (sw_true rfl rfl rfl (by decide +kernel)) (di_r1 (by rfl) T.b_range (da_cons (dcall c_law_take hr passD (da_cons (dv 0) (da_cons (de_ix rfl (de_lst false (da_cons (de_int) (da_cons (de_int) (da_cons (de_int) (da_nil))))) (dcall c_law_take hr passD (da_cons (dv 0) (da_cons (de_int) (da_nil)))) (fun _ _ => rfl)) (da_nil)))) (da_nil))) (by exact blkOk_by (N := ["_law_box", "_law_one", "_law_other", "_law_turn", "_law_k", "_law_line_here"]) (sc := defScope s_law_lines_two) (own := [("_law_k", 4)]) (by decide +kernel)) rfl (by decide) (fun _ _ _ _ _ => tg_one sc_law_lines_two.nd rfl (by first | exact Or.inl rfl | exact Or.inr rfl)) (fun _ _ _ _ _ => dts_nil) (fun _ _ _ _ _ => dcall c_law_line hr passL (da_cons (dv 0) (da_nil)))) (db_cons (ds_setLc true rfl sc_law_lines_two.nd rfl rfl (sw_true rfl rfl rfl (by decide +kernel)) (di_seq (dv 1)) (by exact blkOk_by (N := ["_law_box", "_law_one", "_law_other", "_law_turn", "_law_k", "_law_line_here"]) (sc := defScope s_law_lines_two) (own := [("_law_line_here", 5)]) (by decide +kernel)) rfl (by decide) (fun _ _ _ _ _ => tg_one sc_law_lines_two.nd rfl (by first | exact Or.inl rfl | exact Or.inr rfl)) (fun _ _ _ _ _ => dts_nil) (fun _ _ _ _ _ => de_ix rfl (de_lst false (da_cons (dv 5) (da_cons (dcall c_law_line_near hr passL (da_cons (dv 0) (da_cons (dv 5) (da_nil)))) (da_cons (dcall c_law_line hr passL (da_cons (dv 0) (da_nil))) (da_nil))))) (de_callB (dc_min rfl) (by rfl) T.b_min (by decide +kernel) (da_cons (de_int) (da_cons (dcall c_law_take hr passL (da_cons (dv 0) (da_cons (de_int) (da_nil)))) (da_nil))) (fun a b => pe_callB a (by rfl) T.b_min (by decide +kernel) b)) (fun _ _ => rfl))) (db_cons (ds_for passF rfl (di_r1 (by rfl) T.b_range (da_cons (dcall c_law_take hr passD (da_cons (dv 0) (da_cons (de_int) (da_nil)))) (da_nil))) (dg_name sc_law_lines_two.nd rfl (by first | exact Or.inl rfl | exact Or.inr rfl)) (db_one (ds_if (dt_cmp dop_lt (de_callB dc_len (by rfl) T.b_len (by decide +kernel) (da_cons (dv 2) (da_nil)) (fun a b => pe_callB a (by rfl) T.b_len (by decide +kernel) b)) (de_int) (nomark _)) (db_one (ds_expr (de_mt PySem.F.plainAttrs_list PySem.F.slot_list_append PySem.F.type_list_append (dm_append) (dv 2) (da_cons (dcall c_law_line hr passD (da_cons (dv 0) (da_nil))) (da_nil)) (fun a b c => pe_bm PySem.F.plainAttrs_list PySem.F.slot_list_append PySem.F.type_list_append a b c)))) (db_nil)))) (db_one (ds_ret (de_tup (da_cons (dv 1) (da_cons (de_sl false rfl (dv 2) (dp_some (de_op dop_div (dcall c_law_take hr passD (da_cons (dv 0) (da_cons (de_int) (da_nil)))) (de_int))) (dp_none)) (da_nil)))))))), m, F.kp, F.binds (ps := ["_law_box"]) fun _ _ _ _ _ _ us hl => match us, hl with | [_], _ => rfl⟩
theorem sc_is_sign : FnScope ["sign"] ["sign"] (defScope s_is_sign) := ⟨rfl, rfl, rfl, by decide +kernel, rfl, by decide +kernel, by decide +kernel⟩
theorem ok_is_sign {f : Addr} {fd : FuncData} (F : Fun W.K "is_sign" "is_sign" s_is_sign f fd) (m : mg "is_sign" = some (.ref f)) (T : Txt W mg)  : Fn P w W mg base "is_sign" (1) 1 (funD 1 d_is_sign) :=
  ⟨f, fd, ["sign"], fnE F sc_is_sign rfl rfl fun cdv A outer sh H E hr => db_one (ds_ret (de_and (de_chain dop_le dop_le (de_globS rfl T.k_FIRST_SIGN.choose_spec (by decide +kernel) (by decide +kernel)) (dv 0) (de_globS rfl T.k_LAST_SIGN.choose_spec (by decide +kernel) (by decide +kernel)) (by with_unfolding_all rfl)) (de_one (de_cmp (dop_ne rfl hr.units) (de_callB dc_ord (by rfl) T.b_ord (by decide +kernel) (da_cons (dv 0) (da_nil)) (fun a b => pe_callB a (by rfl) T.b_ord (by decide +kernel) b)) (de_globI rfl T.k_BARRED.choose_spec) (nomark _))))), m, F.kp, F.binds (ps := ["sign"]) fun _ _ _ _ _ _ us hl => match us, hl with | [_], _ => rfl⟩
theorem sc_is_line : FnScope ["line", "sign"] ["line"] (defScope s_is_line) := ⟨rfl, rfl, rfl, by decide +kernel, rfl, by decide +kernel, by decide +kernel⟩
theorem ok_is_line {m_is_sign : FV} {f : Addr} {fd : FuncData} (F : Fun W.K "is_line" "is_line" s_is_line f fd) (m : mg "is_line" = some (.ref f)) (T : Txt W mg) (c_is_sign : Fn P w W mg base "is_sign" 1 1 m_is_sign) : Fn P w W mg base "is_line" (2) 1 (funD 2 (d_is_line m_is_sign)) :=
  ⟨f, fd, ["line"], fnE F sc_is_line rfl rfl fun cdv A outer sh H E hr => db_one (ds_ret (de_and (de_isinst (by simp) (dv 0) (pe_bltn (by rfl) T.b_str (by decide +kernel) rfl) (fun a b => pe_callB a (by rfl) T.b_isinstance (by decide +kernel) b) (fun p => pa_cons p (pa_cons (pe_bltn (by rfl) T.b_str (by decide +kernel) rfl) pa_nil))) (de_and (de_cmp dop_le (de_callB dc_len (by rfl) T.b_len (by decide +kernel) (da_cons (dv 0) (da_nil)) (fun a b => pe_callB a (by rfl) T.b_len (by decide +kernel) b)) (de_globI rfl T.k_MOST_WIDE.choose_spec) (nomark _)) (de_one (de_cmp (dop_eq rfl hr.units) (de_lc false rfl sc_is_line.nd (di_seq (dv 0)) (by exact blkOk_by (N := ["line", "sign"]) (sc := defScope s_is_line) (own := [("sign", 1)]) (by decide +kernel)) rfl (by decide) (fun _ _ _ _ _ => tg_one sc_is_line.nd rfl (by first | exact Or.inl rfl | exact Or.inr rfl)) (fun _ _ _ _ _ => dts_one (dt_not (dt_val (dcall c_is_sign hr passL (da_cons (dv 1) (da_nil)))))) (fun _ _ _ _ _ => dv 1)) (de_lst false (da_nil)) (nomark _)))))), m, F.kp, F.binds (ps := ["line"]) fun _ _ _ _ _ _ us hl => match us, hl with | [_], _ => rfl⟩
theorem sc_need_lines : FnScope ["lines", "number", "line"] ["lines"] (defScope s_need_lines) := ⟨rfl, rfl, rfl, by decide +kernel, rfl, by decide +kernel, by decide +kernel⟩
theorem ok_need_lines {m_is_line : FV} {f : Addr} {fd : FuncData} (F : Fun W.K "need_lines" "need_lines" s_need_lines f fd) (m : mg "need_lines" = some (.ref f)) (T : Txt W mg) (c_is_line : Fn P w W mg base "is_line" 2 1 m_is_line) (i_BadLines : IniX P w W mg base "BadLines" 8 "line") : Fn P w W mg base "need_lines" (3) 1 (funD 3 (d_need_lines m_is_line)) :=
  ⟨f, fd, ["lines"], fnE F sc_need_lines rfl rfl fun cdv A outer sh H E hr => db_one (ds_for passF rfl (di_enum (by rfl) T.b_enumerate (da_cons (dv 0) (da_nil))) (dg_tup rfl (dgs_cons (dg_name sc_need_lines.nd rfl (by first | exact Or.inl rfl | exact Or.inr rfl)) (dgs_cons (dg_name sc_need_lines.nd rfl (by first | exact Or.inl rfl | exact Or.inr rfl)) (dgs_nil)))) (db_one (ds_if (dt_w (dw_or (dt_cmp dop_ge (dv 1) (de_globI rfl T.k_MOST_ROWS.choose_spec) (nomark _)) (dw_or1 (dt_not (dt_val (dcall c_is_line hr passD (da_cons (dv 2) (da_nil)))))))) (db_one (draiseP i_BadLines hr (dv 1) takesD)) (db_nil)))), m, F.kp, F.binds (ps := ["lines"]) fun _ _ _ _ _ _ us hl => match us, hl with | [_], _ => rfl⟩
theorem sc_strokes_of : FnScope ["number", "one", "two", "wide", "places", "found", "begin", "k"] ["number", "one", "two"] (defScope s_strokes_of) := ⟨rfl, rfl, rfl, by decide +kernel, rfl, by decide +kernel, by decide +kernel⟩
theorem ok_strokes_of {f : Addr} {fd : FuncData} (F : Fun W.K "strokes_of" "strokes_of" s_strokes_of f fd) (m : mg "strokes_of" = some (.ref f)) (T : Txt W mg)  : Fn P w W mg base "strokes_of" (1) 3 (funD 8 d_strokes_of) :=
  ⟨f, fd, ["number", "one", "two"], fnE F sc_strokes_of rfl rfl fun cdv A outer sh H E hr => db_cons (ds_set sc_strokes_of.nd rfl (by first | exact Or.inl rfl | exact Or.inr rfl) (de_callB (dc_max rfl) (by rfl) T.b_max (by decide +kernel) (da_cons (de_callB dc_len (by rfl) T.b_len (by decide +kernel) (da_cons (dv 1) (da_nil)) (fun a b => pe_callB a (by rfl) T.b_len (by decide +kernel) b)) (da_cons (de_callB dc_len (by rfl) T.b_len (by decide +kernel) (da_cons (dv 2) (da_nil)) (fun a b => pe_callB a (by rfl) T.b_len (by decide +kernel) b)) (da_nil))) (fun a b => pe_callB a (by rfl) T.b_max (by decide +kernel) b))) (db_cons (ds_asg (de_tup (da_cons (de_mt PySem.F.plainAttrs_str PySem.F.slot_str_ljust PySem.F.type_str_ljust (dm_ljust) (dv 1) (da_cons (dv 3) (da_nil)) (fun a b c => pe_bm PySem.F.plainAttrs_str PySem.F.slot_str_ljust PySem.F.type_str_ljust a b c)) (da_cons (de_mt PySem.F.plainAttrs_str PySem.F.slot_str_ljust PySem.F.type_str_ljust (dm_ljust) (dv 2) (da_cons (dv 3) (da_nil)) (fun a b c => pe_bm PySem.F.plainAttrs_str PySem.F.slot_str_ljust PySem.F.type_str_ljust a b c)) (da_nil)))) (dg_tup rfl (dgs_cons (dg_name sc_strokes_of.nd rfl (by first | exact Or.inl rfl | exact Or.inr rfl)) (dgs_cons (dg_name sc_strokes_of.nd rfl (by first | exact Or.inl rfl | exact Or.inr rfl)) (dgs_nil))))) (db_cons (ds_setLc false rfl sc_strokes_of.nd rfl rfl (sw_true rfl rfl rfl (by decide +kernel)) (di_r1 (by rfl) T.b_range (da_cons (dv 3) (da_nil))) (by exact blkOk_by (N := ["number", "one", "two", "wide", "places", "found", "begin", "k"]) (sc := defScope s_strokes_of) (own := [("k", 7)]) (by decide +kernel)) rfl (by decide) (fun _ _ _ _ _ => tg_one sc_strokes_of.nd rfl (by first | exact Or.inl rfl | exact Or.inr rfl)) (fun _ _ _ _ _ => dts_one (dt_cmp (dop_ne rfl hr.units) (de_ix rfl (dv 1) (dv 7) (fun _ _ => rfl)) (de_ix rfl (dv 2) (dv 7) (fun _ _ => rfl)) (nomark _))) (fun _ _ _ _ _ => dv 7)) (db_cons (ds_set sc_strokes_of.nd rfl (by first | exact Or.inl rfl | exact Or.inr rfl) (de_lst true (da_nil))) (db_cons (ds_set sc_strokes_of.nd rfl (by first | exact Or.inl rfl | exact Or.inr rfl) (de_non)) (db_cons (ds_for passF rfl (di_r1 (by rfl) T.b_range (da_cons (de_callB dc_len (by rfl) T.b_len (by decide +kernel) (da_cons (dv 4) (da_nil)) (fun a b => pe_callB a (by rfl) T.b_len (by decide +kernel) b)) (da_nil))) (dg_name sc_strokes_of.nd rfl (by first | exact Or.inl rfl | exact Or.inr rfl)) (db_cons (ds_set sc_strokes_of.nd rfl (by first | exact Or.inl rfl | exact Or.inr rfl) (de_if (dt_cmp dop_is (dv 6) (de_non) (nomark _)) (de_ix rfl (dv 4) (dv 7) (fun _ _ => rfl)) (dv 6))) (db_one (ds_if (dt_w (dw_or (dt_cmp (dop_eq rfl hr.units) (de_op (dop_add false) (dv 7) (de_int)) (de_callB dc_len (by rfl) T.b_len (by decide +kernel) (da_cons (dv 4) (da_nil)) (fun a b => pe_callB a (by rfl) T.b_len (by decide +kernel) b)) (nomark _)) (dw_or1 (dt_cmp dop_gt (de_op dop_sub (de_ix rfl (dv 4) (de_op (dop_add false) (dv 7) (de_int)) (fun _ _ => rfl)) (de_ix rfl (dv 4) (dv 7) (fun _ _ => rfl))) (de_globI rfl T.k_NEAR.choose_spec) (nomark _))))) (db_cons (ds_expr (de_mt PySem.F.plainAttrs_list PySem.F.slot_list_append PySem.F.type_list_append (dm_append) (dv 5) (da_cons (de_tup (da_cons (dv 0) (da_cons (dv 6) (da_cons (de_sl false rfl (dv 2) (dp_some (dv 6)) (dp_some (de_op (dop_add false) (de_ix rfl (dv 4) (dv 7) (fun _ _ => rfl)) (de_int)))) (da_nil))))) (da_nil)) (fun a b c => pe_bm PySem.F.plainAttrs_list PySem.F.slot_list_append PySem.F.type_list_append a b c))) (db_one (ds_set sc_strokes_of.nd rfl (by first | exact Or.inl rfl | exact Or.inr rfl) (de_non)))) (db_nil))))) (db_one (ds_ret (dv 5)))))))), m, F.kp, F.binds (ps := ["number", "one", "two"]) fun _ _ _ _ _ _ us hl => match us, hl with | [_, _, _], _ => rfl⟩
theorem sc_strokes : FnScope ["before", "later", "found", "number", "one", "two"] ["before", "later"] (defScope s_strokes) := ⟨rfl, rfl, rfl, by decide +kernel, rfl, by decide +kernel, by decide +kernel⟩
theorem ok_strokes {m_need_lines m_strokes_of : FV} {f : Addr} {fd : FuncData} (F : Fun W.K "strokes" "strokes" s_strokes f fd) (m : mg "strokes" = some (.ref f)) (T : Txt W mg) (c_need_lines : Fn P w W mg base "need_lines" 3 1 m_need_lines) (c_strokes_of : Fn P w W mg base "strokes_of" 1 3 m_strokes_of) : Fn P w W mg base "strokes" (4) 2 (funD 6 (d_strokes m_need_lines m_strokes_of)) :=
  ⟨f, fd, ["before", "later"], fnE F sc_strokes rfl rfl fun cdv A outer sh H E hr => db_cons (ds_expr (dcall c_need_lines hr passD (da_cons (dv 0) (da_nil)))) (db_cons (ds_expr (dcall c_need_lines hr passD (da_cons (dv 1) (da_nil)))) (db_cons (ds_set sc_strokes.nd rfl (by first | exact Or.inl rfl | exact Or.inr rfl) (de_lst true (da_nil))) (db_cons (ds_for passF rfl (di_r1 (by rfl) T.b_range (da_cons (de_callB (dc_max rfl) (by rfl) T.b_max (by decide +kernel) (da_cons (de_callB dc_len (by rfl) T.b_len (by decide +kernel) (da_cons (dv 0) (da_nil)) (fun a b => pe_callB a (by rfl) T.b_len (by decide +kernel) b)) (da_cons (de_callB dc_len (by rfl) T.b_len (by decide +kernel) (da_cons (dv 1) (da_nil)) (fun a b => pe_callB a (by rfl) T.b_len (by decide +kernel) b)) (da_nil))) (fun a b => pe_callB a (by rfl) T.b_max (by decide +kernel) b)) (da_nil))) (dg_name sc_strokes.nd rfl (by first | exact Or.inl rfl | exact Or.inr rfl)) (db_cons (ds_set sc_strokes.nd rfl (by first | exact Or.inl rfl | exact Or.inr rfl) (de_if (dt_cmp dop_lt (dv 3) (de_callB dc_len (by rfl) T.b_len (by decide +kernel) (da_cons (dv 0) (da_nil)) (fun a b => pe_callB a (by rfl) T.b_len (by decide +kernel) b)) (nomark _)) (de_ix rfl (dv 0) (dv 3) (fun _ _ => rfl)) (de_str (by decide +kernel) (by decide +kernel)))) (db_cons (ds_set sc_strokes.nd rfl (by first | exact Or.inl rfl | exact Or.inr rfl) (de_if (dt_cmp dop_lt (dv 3) (de_callB dc_len (by rfl) T.b_len (by decide +kernel) (da_cons (dv 1) (da_nil)) (fun a b => pe_callB a (by rfl) T.b_len (by decide +kernel) b)) (nomark _)) (de_ix rfl (dv 1) (dv 3) (fun _ _ => rfl)) (de_str (by decide +kernel) (by decide +kernel)))) (db_one (ds_expr (de_mt PySem.F.plainAttrs_list PySem.F.slot_list_extend PySem.F.type_list_extend (dm_extend) (dv 2) (da_cons (dcall c_strokes_of hr passD (da_cons (dv 3) (da_cons (dv 4) (da_cons (dv 5) (da_nil))))) (da_nil)) (fun a b c => pe_bm PySem.F.plainAttrs_list PySem.F.slot_list_extend PySem.F.type_list_extend a b c))))))) (db_one (ds_ret (dv 2)))))), m, F.kp, F.binds (ps := ["before", "later"]) fun _ _ _ _ _ _ us hl => match us, hl with | [_, _], _ => rfl⟩
theorem sc_law_bare : FnScope ["_law_lines", "_law_found", "_law_line_here"] ["_law_lines"] (defScope s_law_bare) := ⟨rfl, rfl, rfl, by decide +kernel, rfl, by decide +kernel, by decide +kernel⟩
theorem ok_law_bare {f : Addr} {fd : FuncData} (F : Fun W.K "_law_bare" "_law_bare" s_law_bare f fd) (m : mg "_law_bare" = some (.ref f)) (T : Txt W mg)  : Fn P w W mg base "_law_bare" (1) 1 (funD 3 d_law_bare_k22) :=
  ⟨f, fd, ["_law_lines"], fnE F sc_law_bare rfl rfl fun cdv A outer sh H E hr => db_cons (ds_setLc true rfl sc_law_bare.nd rfl rfl (sw_true rfl rfl rfl (by decide +kernel)) (di_seq (dv 0)) (by exact blkOk_by (N := ["_law_lines", "_law_found", "_law_line_here"]) (sc := defScope s_law_bare) (own := [("_law_line_here", 2)]) (by decide +kernel)) rfl (by decide) (fun _ _ _ _ _ => tg_one sc_law_bare.nd rfl (by first | exact Or.inl rfl | exact Or.inr rfl)) (fun _ _ _ _ _ => dts_nil) (fun _ _ _ _ _ => de_mt PySem.F.plainAttrs_str PySem.F.slot_str_rstrip PySem.F.type_str_rstrip (dm_rstrip) (dv 2) (da_cons (de_str (by decide +kernel) (by decide +kernel)) (da_nil)) (fun a b c => pe_bm PySem.F.plainAttrs_str PySem.F.slot_str_rstrip PySem.F.type_str_rstrip a b c))) (db_cons (ds_while 100000 passF (dt_w (dw_and (dt_cmp (dop_ne rfl hr.units) (dv 1) (de_lst false (da_nil)) (nomark _)) (dw_and1 (dt_cmp (dop_eq rfl hr.units) (de_ix rfl (dv 1) (de_neg (de_int)) (fun _ _ => rfl)) (de_str (by decide +kernel) (by decide +kernel)) (nomark _))))) (db_one (ds_expr (de_mt0 PySem.F.plainAttrs_list PySem.F.slot_list_pop PySem.F.type_list_pop (dm_pop) (dv 1) (fun a b => pe_bm0 PySem.F.plainAttrs_list PySem.F.slot_list_pop PySem.F.type_list_pop a b))))) (db_one (ds_ret (dv 1)))), m, F.kp, F.binds (ps := ["_law_lines"]) fun _ _ _ _ _ _ us hl => match us, hl with | [_], _ => rfl⟩
theorem sc_is_number : FnScope ["part", "low", "high"] ["part", "low", "high"] (defScope s_is_number) := ⟨rfl, rfl, rfl, by decide +kernel, rfl, by decide +kernel, by decide +kernel⟩
theorem ok_is_number {f : Addr} {fd : FuncData} (F : Fun W.K "is_number" "is_number" s_is_number f fd) (m : mg "is_number" = some (.ref f)) (T : Txt W mg)  : Fn P w W mg base "is_number" (1) 3 (funD 3 d_is_number) :=
  ⟨f, fd, ["part", "low", "high"], fnE F sc_is_number rfl rfl fun cdv A outer sh H E hr => db_one (ds_ret (de_and (de_isinst (by simp) (dv 0) (pe_bltn (by rfl) T.b_int (by decide +kernel) rfl) (fun a b => pe_callB a (by rfl) T.b_isinstance (by decide +kernel) b) (fun p => pa_cons p (pa_cons (pe_bltn (by rfl) T.b_int (by decide +kernel) rfl) pa_nil))) (de_and (de_not (de_isinst (by simp) (dv 0) (pe_bltn (by rfl) T.b_bool (by decide +kernel) rfl) (fun a b => pe_callB a (by rfl) T.b_isinstance (by decide +kernel) b) (fun p => pa_cons p (pa_cons (pe_bltn (by rfl) T.b_bool (by decide +kernel) rfl) pa_nil)))) (de_one (de_chain dop_le dop_le (dv 1) (dv 0) (dv 2) (by with_unfolding_all rfl)))))), m, F.kp, F.binds (ps := ["part", "low", "high"]) fun _ _ _ _ _ _ us hl => match us, hl with | [_, _, _], _ => rfl⟩
theorem sc_is_stroke : FnScope ["row"] ["row"] (defScope s_is_stroke) := ⟨rfl, rfl, rfl, by decide +kernel, rfl, by decide +kernel, by decide +kernel⟩
theorem ok_is_stroke {m_is_line m_is_number : FV} {f : Addr} {fd : FuncData} (F : Fun W.K "is_stroke" "is_stroke" s_is_stroke f fd) (m : mg "is_stroke" = some (.ref f)) (T : Txt W mg) (c_is_line : Fn P w W mg base "is_line" 2 1 m_is_line) (c_is_number : Fn P w W mg base "is_number" 1 3 m_is_number) : Fn P w W mg base "is_stroke" (3) 1 (funD 1 (d_is_stroke m_is_line m_is_number)) :=
  ⟨f, fd, ["row"], fnE F sc_is_stroke rfl rfl fun cdv A outer sh H E hr => db_cons (ds_if (dt_w (dw_or (dt_not (dt_val (de_isinst (by simp) (dv 0) (pe_bltn (by rfl) T.b_tuple (by decide +kernel) rfl) (fun a b => pe_callB a (by rfl) T.b_isinstance (by decide +kernel) b) (fun p => pa_cons p (pa_cons (pe_bltn (by rfl) T.b_tuple (by decide +kernel) rfl) pa_nil))))) (dw_or (dt_cmp (dop_ne rfl hr.units) (de_callB dc_len (by rfl) T.b_len (by decide +kernel) (da_cons (dv 0) (da_nil)) (fun a b => pe_callB a (by rfl) T.b_len (by decide +kernel) b)) (de_int) (nomark _)) (dw_or (dt_not (dt_val (dcall c_is_line hr passD (da_cons (de_ix rfl (dv 0) (de_int) (fun _ _ => rfl)) (da_nil))))) (dw_or1 (dt_cmp (dop_eq rfl hr.units) (de_ix rfl (dv 0) (de_int) (fun _ _ => rfl)) (de_str (by decide +kernel) (by decide +kernel)) (nomark _))))))) (db_one (ds_ret (de_bl))) (db_nil)) (db_one (ds_ret (de_and (dcall c_is_number hr passD (da_cons (de_ix rfl (dv 0) (de_int) (fun _ _ => rfl)) (da_cons (de_int) (da_cons (de_op dop_sub (de_globI rfl T.k_MOST_ROWS.choose_spec) (de_int)) (da_nil))))) (de_one (dcall c_is_number hr passD (da_cons (de_ix rfl (dv 0) (de_int) (fun _ _ => rfl)) (da_cons (de_int) (da_cons (de_op dop_sub (de_globI rfl T.k_MOST_WIDE.choose_spec) (de_callB dc_len (by rfl) T.b_len (by decide +kernel) (da_cons (de_ix rfl (dv 0) (de_int) (fun _ _ => rfl)) (da_nil)) (fun a b => pe_callB a (by rfl) T.b_len (by decide +kernel) b))) (da_nil))))))))), m, F.kp, F.binds (ps := ["row"]) fun _ _ _ _ _ _ us hl => match us, hl with | [_], _ => rfl⟩
theorem sc_painted : FnScope ["lines", "drawn", "number", "row", "found", "begin", "signs", "line"] ["lines", "drawn"] (defScope s_painted) := ⟨rfl, rfl, rfl, by decide +kernel, rfl, by decide +kernel, by decide +kernel⟩
theorem ok_painted {m_need_lines m_is_stroke : FV} {f : Addr} {fd : FuncData} (F : Fun W.K "painted" "painted" s_painted f fd) (m : mg "painted" = some (.ref f)) (T : Txt W mg) (c_need_lines : Fn P w W mg base "need_lines" 3 1 m_need_lines) (c_is_stroke : Fn P w W mg base "is_stroke" 3 1 m_is_stroke) (i_BadStroke : IniX P w W mg base "BadStroke" 10 "number") : Fn P w W mg base "painted" (4) 2 (funD 8 (d_painted m_need_lines m_is_stroke)) :=
  ⟨f, fd, ["lines", "drawn"], fnE F sc_painted rfl rfl fun cdv A outer sh H E hr => db_cons (ds_expr (dcall c_need_lines hr passD (da_cons (dv 0) (da_nil)))) (db_cons (ds_for passF rfl (di_enum (by rfl) T.b_enumerate (da_cons (dv 1) (da_nil))) (dg_tup rfl (dgs_cons (dg_name sc_painted.nd rfl (by first | exact Or.inl rfl | exact Or.inr rfl)) (dgs_cons (dg_name sc_painted.nd rfl (by first | exact Or.inl rfl | exact Or.inr rfl)) (dgs_nil)))) (db_one (ds_if (dt_not (dt_val (dcall c_is_stroke hr passD (da_cons (dv 3) (da_nil))))) (db_one (draiseP i_BadStroke hr (dv 2) takesD)) (db_nil)))) (db_cons (ds_set sc_painted.nd rfl (by first | exact Or.inl rfl | exact Or.inr rfl) (de_callTy (dc_list true) (by rfl) T.b_list (by decide +kernel) (da_cons (dv 0) (da_nil)) (fun a b => pe_callTy a (by rfl) T.b_list (by decide +kernel) b))) (db_cons (ds_for passF rfl (di_seq (dv 1)) (dg_tup rfl (dgs_cons (dg_name sc_painted.nd rfl (by first | exact Or.inl rfl | exact Or.inr rfl)) (dgs_cons (dg_name sc_painted.nd rfl (by first | exact Or.inl rfl | exact Or.inr rfl)) (dgs_cons (dg_name sc_painted.nd rfl (by first | exact Or.inl rfl | exact Or.inr rfl)) (dgs_nil))))) (db_cons (ds_while 100000 passF (dt_cmp dop_le (de_callB dc_len (by rfl) T.b_len (by decide +kernel) (da_cons (dv 4) (da_nil)) (fun a b => pe_callB a (by rfl) T.b_len (by decide +kernel) b)) (dv 2) (nomark _)) (db_one (ds_expr (de_mt PySem.F.plainAttrs_list PySem.F.slot_list_append PySem.F.type_list_append (dm_append) (dv 4) (da_cons (de_str (by decide +kernel) (by decide +kernel)) (da_nil)) (fun a b c => pe_bm PySem.F.plainAttrs_list PySem.F.slot_list_append PySem.F.type_list_append a b c))))) (db_cons (ds_set sc_painted.nd rfl (by first | exact Or.inl rfl | exact Or.inr rfl) (de_mt PySem.F.plainAttrs_str PySem.F.slot_str_ljust PySem.F.type_str_ljust (dm_ljust) (de_ix rfl (dv 4) (dv 2) (fun _ _ => rfl)) (da_cons (dv 5) (da_nil)) (fun a b c => pe_bm PySem.F.plainAttrs_str PySem.F.slot_str_ljust PySem.F.type_str_ljust a b c))) (db_one (ds_asg (de_op (dop_add false) (de_op (dop_add false) (de_sl false rfl (dv 7) (dp_none) (dp_some (dv 5))) (dv 6)) (de_sl false rfl (dv 7) (dp_some (de_op (dop_add false) (dv 5) (de_callB dc_len (by rfl) T.b_len (by decide +kernel) (da_cons (dv 6) (da_nil)) (fun a b => pe_callB a (by rfl) T.b_len (by decide +kernel) b)))) (dp_none))) (dg_sub (dv 4) (dv 2) dset_list)))))) (db_one (ds_ret (de_lc true rfl sc_painted.nd (di_seq (dv 4)) (by exact blkOk_by (N := ["lines", "drawn", "number", "row", "found", "begin", "signs", "line"]) (sc := defScope s_painted) (own := [("line", 7)]) (by decide +kernel)) rfl (by decide) (fun _ _ _ _ _ => tg_one sc_painted.nd rfl (by first | exact Or.inl rfl | exact Or.inr rfl)) (fun _ _ _ _ _ => dts_nil) (fun _ _ _ _ _ => de_mt PySem.F.plainAttrs_str PySem.F.slot_str_rstrip PySem.F.type_str_rstrip (dm_rstrip) (dv 7) (da_cons (de_str (by decide +kernel) (by decide +kernel)) (da_nil)) (fun a b c => pe_bm PySem.F.plainAttrs_str PySem.F.slot_str_rstrip PySem.F.type_str_rstrip a b c)))))))), m, F.kp, F.binds (ps := ["lines", "drawn"]) fun _ _ _ _ _ _ us hl => match us, hl with | [_, _], _ => rfl⟩
theorem sc_law_fits : FnScope ["_law_before", "_law_later", "_law_drawn_here", "_law_many", "_law_ends", "_law_number", "_law_begin", "_law_signs", "_law_one", "_law_other", "_law_last"] ["_law_before", "_law_later"] (defScope s_law_fits) := ⟨rfl, rfl, rfl, by decide +kernel, rfl, by decide +kernel, by decide +kernel⟩
theorem ok_law_fits {m_strokes m_law_bare_k22 m_painted : FV} {f : Addr} {fd : FuncData} (F : Fun W.K "_law_fits" "_law_fits" s_law_fits f fd) (m : mg "_law_fits" = some (.ref f)) (T : Txt W mg) (c_strokes : Fn P w W mg base "strokes" 4 2 m_strokes) (c_law_bare : Fn P w W mg base "_law_bare" 1 1 m_law_bare_k22) (c_painted : Fn P w W mg base "painted" 4 2 m_painted) : Fn P w W mg base "_law_fits" (5) 2 (funD 11 (d_law_fits m_strokes m_law_bare_k22 m_painted)) :=
  ⟨f, fd, ["_law_before", "_law_later"], fnE F sc_law_fits rfl rfl fun cdv A outer sh H E hr => db_cons (ds_set sc_law_fits.nd rfl (by first | exact Or.inl rfl | exact Or.inr rfl) (dcall c_strokes hr passD (da_cons (dv 0) (da_cons (dv 1) (da_nil))))) (db_cons (ds_set sc_law_fits.nd rfl (by first | exact Or.inl rfl | exact Or.inr rfl) (de_callB (dc_max rfl) (by rfl) T.b_max (by decide +kernel) (da_cons (de_callB dc_len (by rfl) T.b_len (by decide +kernel) (da_cons (dv 0) (da_nil)) (fun a b => pe_callB a (by rfl) T.b_len (by decide +kernel) b)) (da_cons (de_callB dc_len (by rfl) T.b_len (by decide +kernel) (da_cons (dv 1) (da_nil)) (fun a b => pe_callB a (by rfl) T.b_len (by decide +kernel) b)) (da_nil))) (fun a b => pe_callB a (by rfl) T.b_max (by decide +kernel) b))) (db_cons (ds_if (dt_cmp (dop_ne rfl hr.units) (dcall c_law_bare hr passD (da_cons (dcall c_painted hr passD (da_cons (dv 0) (da_cons (dv 2) (da_nil)))) (da_nil))) (dcall c_law_bare hr passD (da_cons (dv 1) (da_nil))) (nomark _)) (db_one (ds_ret (de_bl))) (db_nil)) (db_cons (ds_if (dt_cmp (dop_ne rfl hr.units) (de_cmp (dop_eq rfl hr.units) (dv 2) (de_lst false (da_nil)) (nomark _)) (de_cmp (dop_eq rfl hr.units) (dcall c_law_bare hr passD (da_cons (dv 0) (da_nil))) (dcall c_law_bare hr passD (da_cons (dv 1) (da_nil))) (nomark _)) (nomark _)) (db_one (ds_ret (de_bl))) (db_nil)) (db_cons (ds_set sc_law_fits.nd rfl (by first | exact Or.inl rfl | exact Or.inr rfl) (de_dictK)) (db_cons (ds_for passF rfl (di_seq (dv 2)) (dg_tup rfl (dgs_cons (dg_name sc_law_fits.nd rfl (by first | exact Or.inl rfl | exact Or.inr rfl)) (dgs_cons (dg_name sc_law_fits.nd rfl (by first | exact Or.inl rfl | exact Or.inr rfl)) (dgs_cons (dg_name sc_law_fits.nd rfl (by first | exact Or.inl rfl | exact Or.inr rfl)) (dgs_nil))))) (db_cons (ds_set sc_law_fits.nd rfl (by first | exact Or.inl rfl | exact Or.inr rfl) (de_op (dop_add false) (de_ix rfl (de_op (dop_add false) (dv 0) (de_op (dop_mul false) (de_lst false (da_cons (de_str (by decide +kernel) (by decide +kernel)) (da_nil))) (dv 3))) (dv 5) (fun _ _ => rfl)) (de_op (dop_mul false) (de_str (by decide +kernel) (by decide +kernel)) (de_int)))) (db_cons (ds_set sc_law_fits.nd rfl (by first | exact Or.inl rfl | exact Or.inr rfl) (de_op (dop_add false) (de_ix rfl (de_op (dop_add false) (dv 1) (de_op (dop_mul false) (de_lst false (da_cons (de_str (by decide +kernel) (by decide +kernel)) (da_nil))) (dv 3))) (dv 5) (fun _ _ => rfl)) (de_op (dop_mul false) (de_str (by decide +kernel) (by decide +kernel)) (de_int)))) (db_cons (ds_set sc_law_fits.nd rfl (by first | exact Or.inl rfl | exact Or.inr rfl) (de_op dop_sub (de_op (dop_add false) (dv 6) (de_callB dc_len (by rfl) T.b_len (by decide +kernel) (da_cons (dv 7) (da_nil)) (fun a b => pe_callB a (by rfl) T.b_len (by decide +kernel) b))) (de_int))) (db_cons (ds_if (dt_w (dw_or (dt_cmp (dop_eq rfl hr.units) (de_ix rfl (dv 8) (dv 6) (fun _ _ => rfl)) (de_ix rfl (dv 9) (dv 6) (fun _ _ => rfl)) (nomark _)) (dw_or (dt_cmp (dop_eq rfl hr.units) (de_ix rfl (dv 8) (dv 10) (fun _ _ => rfl)) (de_ix rfl (dv 9) (dv 10) (fun _ _ => rfl)) (nomark _)) (dw_or1 (dt_cmp (dop_ne rfl hr.units) (de_sl false rfl (dv 9) (dp_some (dv 6)) (dp_some (de_op (dop_add false) (dv 10) (de_int)))) (dv 7) (nomark _)))))) (db_one (ds_ret (de_bl))) (db_nil)) (db_cons (ds_if (dt_cmp dop_lt (de_op dop_sub (dv 6) (de_get2 (Dl.hu_of hr) (dv 4) (dv 5) (de_neg (de_int)) ⟨by rfl, by rfl, by rfl, by rfl⟩)) (de_int) (nomark _)) (db_one (ds_ret (de_bl))) (db_nil)) (db_one (ds_asg (dv 10) (dg_sub (dv 4) (dv 5) (dset_dict (Dl.hu_of hr))))))))))) (db_one (ds_ret (de_cmp (dop_eq rfl hr.units) (dcall c_strokes hr passD (da_cons (dv 1) (da_cons (dv 1) (da_nil)))) (de_lst false (da_nil)) (nomark _))))))))), m, F.kp, F.binds (ps := ["_law_before", "_law_later"]) fun _ _ _ _ _ _ us hl => match us, hl with | [_, _], _ => rfl⟩
theorem sc_law_cell : FnScope ["_law_box", "_law_sort", "_law_way", "_law_odd", "_law_many", "_law_k"] ["_law_box", "_law_sort"] (defScope s_law_cell) := ⟨rfl, rfl, rfl, by decide +kernel, rfl, by decide +kernel, by decide +kernel⟩
theorem ok_law_cell {m_law_take m_law_sign : FV} {f : Addr} {fd : FuncData} (F : Fun W.K "_law_cell" "_law_cell" s_law_cell f fd) (m : mg "_law_cell" = some (.ref f)) (T : Txt W mg) (c_law_take : Fn P w W mg base "_law_take" 1 2 m_law_take) (c_law_sign : Fn P w W mg base "_law_sign" 2 1 m_law_sign) : Fn P w W mg base "_law_cell" (3) 2 (funD 6 (d_law_cell m_law_take m_law_sign)) :=
  ⟨f, fd, ["_law_box", "_law_sort"], fnE F sc_law_cell rfl rfl fun cdv A outer sh H E hr => db_cons (ds_set sc_law_cell.nd rfl (by first | exact Or.inl rfl | exact Or.inr rfl) (dcall c_law_take hr passD (da_cons (dv 0) (da_cons (de_int) (da_nil))))) (db_cons (ds_if (dt_cmp (dop_eq rfl hr.units) (dv 2) (de_int) (nomark _)) (db_one (ds_ret (de_str (by decide +kernel) (by decide +kernel)))) (db_nil)) (db_cons (ds_if (dt_w (dw_or (dt_cmp (dop_eq rfl hr.units) (dv 2) (de_int) (nomark _)) (dw_or1 (dt_w (dw_and (dt_cmp (dop_eq rfl hr.units) (dv 1) (de_int) (nomark _)) (dw_and1 (dt_cmp dop_lt (dv 2) (de_int) (nomark _)))))))) (db_one (ds_ret (de_op (dop_add false) (de_ix rfl (de_lst false (da_cons (de_str (by decide +kernel) (by decide +kernel)) (da_cons (de_str (by decide +kernel) (by decide +kernel)) (da_nil)))) (de_op dop_div (dcall c_law_take hr passD (da_cons (dv 0) (da_cons (de_int) (da_nil)))) (de_int)) (fun _ _ => rfl)) (de_callTy dc_str (by rfl) T.b_str (by decide +kernel) (da_cons (dcall c_law_take hr passD (da_cons (dv 0) (da_cons (de_ix rfl (de_lst false (da_cons (de_int) (da_cons (de_int) (da_cons (de_op dop_pow (de_int) (de_int)) (da_nil))))) (dcall c_law_take hr passD (da_cons (dv 0) (da_cons (de_int) (da_nil)))) (fun _ _ => rfl)) (da_nil)))) (da_nil)) (fun a b => pe_callTy a (by rfl) T.b_str (by decide +kernel) b))))) (db_nil)) (db_cons (ds_if (dt_cmp (dop_eq rfl hr.units) (dv 2) (de_int) (nomark _)) (db_cons (ds_set sc_law_cell.nd rfl (by first | exact Or.inl rfl | exact Or.inr rfl) (de_lst false (da_cons (de_str (by decide +kernel) (by decide +kernel)) (da_cons (de_str (by decide +kernel) (by decide +kernel)) (da_cons (de_str (by decide +kernel) (by decide +kernel)) (da_cons (de_str (by decide +kernel) (by decide +kernel)) (da_cons (de_str (by decide +kernel) (by decide +kernel)) (da_cons (de_str (by decide +kernel) (by decide +kernel)) (da_cons (de_str (by decide +kernel) (by decide +kernel)) (da_cons (de_str (by decide +kernel) (by decide +kernel)) (da_cons (de_str (by decide +kernel) (by decide +kernel)) (da_cons (de_str (by decide +kernel) (by decide +kernel)) (da_cons (de_str (by decide +kernel) (by decide +kernel)) (da_cons (de_str (by decide +kernel) (by decide +kernel)) (da_cons (de_str (by decide +kernel) (by decide +kernel)) (da_nil)))))))))))))))) (db_one (ds_ret (de_ix rfl (dv 3) (dcall c_law_take hr passD (da_cons (dv 0) (da_cons (de_int) (da_nil)))) (fun _ _ => rfl))))) (db_nil)) (db_cons (ds_set sc_law_cell.nd rfl (by first | exact Or.inl rfl | exact Or.inr rfl) (de_op (dop_add false) (de_int) (dcall c_law_take hr passD (da_cons (dv 0) (da_cons (de_ix rfl (de_lst false (da_cons (de_int) (da_cons (de_int) (da_nil)))) (dcall c_law_take hr passD (da_cons (dv 0) (da_cons (de_int) (da_nil)))) (fun _ _ => rfl)) (da_nil)))))) (db_cons (ds_if (dt_cmp dop_lt (dv 2) (de_int) (nomark _)) (db_one (ds_ret (de_mt PySem.F.plainAttrs_str PySem.F.slot_str_join PySem.F.type_str_join (dm_join) (de_str (by decide +kernel) (by decide +kernel)) (da_cons (de_lc false rfl sc_law_cell.nd (di_r1 (by rfl) T.b_range (da_cons (dv 4) (da_nil))) (by exact blkOk_by (N := ["_law_box", "_law_sort", "_law_way", "_law_odd", "_law_many", "_law_k"]) (sc := defScope s_law_cell) (own := [("_law_k", 5)]) (by decide +kernel)) rfl (by decide) (fun _ _ _ _ _ => tg_one sc_law_cell.nd rfl (by first | exact Or.inl rfl | exact Or.inr rfl)) (fun _ _ _ _ _ => dts_nil) (fun _ _ _ _ _ => de_ix rfl (de_str (by decide +kernel) (by decide +kernel)) (dcall c_law_take hr passL (da_cons (dv 0) (da_cons (de_int) (da_nil)))) (fun _ _ => rfl))) (da_nil)) (fun a b c => pe_bm PySem.F.plainAttrs_str PySem.F.slot_str_join PySem.F.type_str_join a b c)))) (db_nil)) (db_one (ds_ret (de_mt PySem.F.plainAttrs_str PySem.F.slot_str_join PySem.F.type_str_join (dm_join) (de_str (by decide +kernel) (by decide +kernel)) (da_cons (de_lc false rfl sc_law_cell.nd (di_r1 (by rfl) T.b_range (da_cons (dv 4) (da_nil))) (by exact blkOk_by (N := ["_law_box", "_law_sort", "_law_way", "_law_odd", "_law_many", "_law_k"]) (sc := defScope s_law_cell) (own := [("_law_k", 5)]) (by decide +kernel)) rfl (by decide) (fun _ _ _ _ _ => tg_one sc_law_cell.nd rfl (by first | exact Or.inl rfl | exact Or.inr rfl)) (fun _ _ _ _ _ => dts_nil) (fun _ _ _ _ _ => dcall c_law_sign hr passL (da_cons (dv 0) (da_nil)))) (da_nil)) (fun a b c => pe_bm PySem.F.plainAttrs_str PySem.F.slot_str_join PySem.F.type_str_join a b c))))))))), m, F.kp, F.binds (ps := ["_law_box", "_law_sort"]) fun _ _ _ _ _ _ us hl => match us, hl with | [_, _], _ => rfl⟩
theorem sc_law_row : FnScope ["_law_box", "_law_sorts", "_law_many", "_law_k"] ["_law_box", "_law_sorts", "_law_many"] (defScope s_law_row) := ⟨rfl, rfl, rfl, by decide +kernel, rfl, by decide +kernel, by decide +kernel⟩
theorem ok_law_row {m_law_cell : FV} {f : Addr} {fd : FuncData} (F : Fun W.K "_law_row" "_law_row" s_law_row f fd) (m : mg "_law_row" = some (.ref f)) (T : Txt W mg) (c_law_cell : Fn P w W mg base "_law_cell" 3 2 m_law_cell) : Fn P w W mg base "_law_row" (4) 3 (funD 4 (d_law_row m_law_cell)) :=
  ⟨f, fd, ["_law_box", "_law_sorts", "_law_many"], fnE F sc_law_row rfl rfl fun cdv A outer sh H E hr => db_one (ds_ret (de_callTy dc_tup (by rfl) T.b_tuple (by decide +kernel) (da_cons (de_lc false rfl sc_law_row.nd (di_r1 (by rfl) T.b_range (da_cons (dv 2) (da_nil))) (by exact blkOk_by (N := ["_law_box", "_law_sorts", "_law_many", "_law_k"]) (sc := defScope s_law_row) (own := [("_law_k", 3)]) (by decide +kernel)) rfl (by decide) (fun _ _ _ _ _ => tg_one sc_law_row.nd rfl (by first | exact Or.inl rfl | exact Or.inr rfl)) (fun _ _ _ _ _ => dts_nil) (fun _ _ _ _ _ => dcall c_law_cell hr passL (da_cons (dv 0) (da_cons (de_ix rfl (dv 1) (dv 3) (fun _ _ => rfl)) (da_nil))))) (da_nil)) (fun a b => pe_callTy a (by rfl) T.b_tuple (by decide +kernel) b))), m, F.kp, F.binds (ps := ["_law_box", "_law_sorts", "_law_many"]) fun _ _ _ _ _ _ us hl => match us, hl with | [_, _, _], _ => rfl⟩
theorem sc_law_page : FnScope ["_law_box", "_law_most", "_law_sorts", "_law_many", "_law_rows", "_law_turn", "_law_way", "_law_k"] ["_law_box", "_law_most"] (defScope s_law_page) := ⟨rfl, rfl, rfl, by decide +kernel, rfl, by decide +kernel, by decide +kernel⟩
theorem ok_law_page {m_law_take m_law_row : FV} {f : Addr} {fd : FuncData} (F : Fun W.K "_law_page" "_law_page" s_law_page f fd) (m : mg "_law_page" = some (.ref f)) (T : Txt W mg) (c_law_take : Fn P w W mg base "_law_take" 1 2 m_law_take) (c_law_row : Fn P w W mg base "_law_row" 4 3 m_law_row) : Fn P w W mg base "_law_page" (5) 2 (funD 8 (d_law_page m_law_take m_law_row)) :=
  ⟨f, fd, ["_law_box", "_law_most"], fnE F sc_law_page rfl rfl fun cdv A outer sh H E hr => db_cons (ds_setLc false rfl sc_law_page.nd rfl rfl (sw_true rfl rfl rfl (by decide +kernel)) (di_r1 (by rfl) T.b_range (da_cons (de_int) (da_nil))) (by exact blkOk_by (N := ["_law_box", "_law_most", "_law_sorts", "_law_many", "_law_rows", "_law_turn", "_law_way", "_law_k"]) (sc := defScope s_law_page) (own := [("_law_k", 7)]) (by decide +kernel)) rfl (by decide) (fun _ _ _ _ _ => tg_one sc_law_page.nd rfl (by first | exact Or.inl rfl | exact Or.inr rfl)) (fun _ _ _ _ _ => dts_nil) (fun _ _ _ _ _ => dcall c_law_take hr passL (da_cons (dv 0) (da_cons (de_int) (da_nil))))) (db_cons (ds_par rfl sc_law_page.nd rfl rfl (by decide) rfl rfl (da_cons (de_op (dop_add false) (de_int) (dcall c_law_take hr passD (da_cons (dv 0) (da_cons (de_int) (da_nil))))) (da_cons (de_lst true (da_nil)) (da_nil))) (by rfl)) (db_cons (ds_for passF rfl (di_r1 (by rfl) T.b_range (da_cons (de_op (dop_add false) (de_int) (dcall c_law_take hr passD (da_cons (dv 0) (da_cons (dv 1) (da_nil))))) (da_nil))) (dg_name sc_law_page.nd rfl (by first | exact Or.inl rfl | exact Or.inr rfl)) (db_cons (ds_set sc_law_page.nd rfl (by first | exact Or.inl rfl | exact Or.inr rfl) (dcall c_law_take hr passD (da_cons (dv 0) (da_cons (de_int) (da_nil))))) (db_cons (ds_set sc_law_page.nd rfl (by first | exact Or.inl rfl | exact Or.inr rfl) (de_ix rfl (de_lst false (da_cons (de_op (dop_add false) (de_int) (dcall c_law_take hr passD (da_cons (dv 0) (da_cons (de_int) (da_nil))))) (da_cons (de_callB (dc_max rfl) (by rfl) T.b_max (by decide +kernel) (da_cons (de_int) (da_cons (de_op dop_sub (dv 3) (de_int)) (da_nil))) (fun a b => pe_callB a (by rfl) T.b_max (by decide +kernel) b)) (da_cons (de_callB (dc_min rfl) (by rfl) T.b_min (by decide +kernel) (da_cons (de_int) (da_cons (de_op (dop_add false) (dv 3) (de_int)) (da_nil))) (fun a b => pe_callB a (by rfl) T.b_min (by decide +kernel) b)) (da_cons (dv 3) (da_nil)))))) (de_callB (dc_min rfl) (by rfl) T.b_min (by decide +kernel) (da_cons (dv 6) (da_cons (de_int) (da_nil))) (fun a b => pe_callB a (by rfl) T.b_min (by decide +kernel) b)) (fun _ _ => rfl))) (db_cons (ds_expr (de_mt PySem.F.plainAttrs_list PySem.F.slot_list_append PySem.F.type_list_append (dm_append) (dv 4) (da_cons (dcall c_law_row hr passD (da_cons (dv 0) (da_cons (dv 2) (da_cons (dv 3) (da_nil))))) (da_nil)) (fun a b c => pe_bm PySem.F.plainAttrs_list PySem.F.slot_list_append PySem.F.type_list_append a b c))) (db_one (ds_if (dt_cmp (dop_eq rfl hr.units) (dv 6) (de_int) (nomark _)) (db_cons (ds_asg (de_ix rfl (dv 4) (dcall c_law_take hr passD (da_cons (dv 0) (da_cons (de_callB dc_len (by rfl) T.b_len (by decide +kernel) (da_cons (dv 4) (da_nil)) (fun a b => pe_callB a (by rfl) T.b_len (by decide +kernel) b)) (da_nil)))) (fun _ _ => rfl)) (dg_sub (dv 4) (de_neg (de_int)) dset_list)) (db_one (ds_set sc_law_page.nd rfl (by first | exact Or.inl rfl | exact Or.inr rfl) (de_callB dc_len (by rfl) T.b_len (by decide +kernel) (da_cons (de_ix rfl (dv 4) (de_neg (de_int)) (fun _ _ => rfl)) (da_nil)) (fun a b => pe_callB a (by rfl) T.b_len (by decide +kernel) b))))) (db_nil))))))) (db_one (ds_ret (dv 4))))), m, F.kp, F.binds (ps := ["_law_box", "_law_most"]) fun _ _ _ _ _ _ us hl => match us, hl with | [_, _], _ => rfl⟩
theorem sc_law_style : FnScope ["_law_box", "_law_gap"] ["_law_box"] (defScope s_law_style) := ⟨rfl, rfl, rfl, by decide +kernel, rfl, by decide +kernel, by decide +kernel⟩
theorem ok_law_style {m_law_take : FV} {f : Addr} {fd : FuncData} (F : Fun W.K "_law_style" "_law_style" s_law_style f fd) (m : mg "_law_style" = some (.ref f)) (T : Txt W mg) (c_law_take : Fn P w W mg base "_law_take" 1 2 m_law_take) : Fn P w W mg base "_law_style" (2) 1 (funD 2 (d_law_style m_law_take)) :=
  ⟨f, fd, ["_law_box"], fnE F sc_law_style rfl rfl fun cdv A outer sh H E hr => db_cons (ds_set sc_law_style.nd rfl (by first | exact Or.inl rfl | exact Or.inr rfl) (de_ix rfl (de_lst false (da_cons (dcall c_law_take hr passD (da_cons (dv 0) (da_cons (de_int) (da_nil)))) (da_cons (de_int) (da_cons (de_int) (da_nil))))) (dcall c_law_take hr passD (da_cons (dv 0) (da_cons (de_int) (da_nil)))) (fun _ _ => rfl))) (db_one (ds_ret (de_tup (da_cons (dv 1) (da_cons (de_ix rfl (de_lst false (da_cons (de_int) (da_cons (dcall c_law_take hr passD (da_cons (dv 0) (da_cons (de_int) (da_nil)))) (da_cons (dcall c_law_take hr passD (da_cons (dv 0) (da_cons (de_int) (da_nil)))) (da_nil))))) (dcall c_law_take hr passD (da_cons (dv 0) (da_cons (de_int) (da_nil)))) (fun _ _ => rfl)) (da_nil)))))), m, F.kp, F.binds (ps := ["_law_box"]) fun _ _ _ _ _ _ us hl => match us, hl with | [_], _ => rfl⟩
theorem sc_is_cell : FnScope ["cell", "sign"] ["cell"] (defScope s_is_cell) := ⟨rfl, rfl, rfl, by decide +kernel, rfl, by decide +kernel, by decide +kernel⟩
theorem ok_is_cell {m_is_sign : FV} {f : Addr} {fd : FuncData} (F : Fun W.K "is_cell" "is_cell" s_is_cell f fd) (m : mg "is_cell" = some (.ref f)) (T : Txt W mg) (c_is_sign : Fn P w W mg base "is_sign" 1 1 m_is_sign) : Fn P w W mg base "is_cell" (2) 1 (funD 2 (d_is_cell m_is_sign)) :=
  ⟨f, fd, ["cell"], fnE F sc_is_cell rfl rfl fun cdv A outer sh H E hr => db_cons (ds_if (dt_w (dw_or (dt_not (dt_val (de_isinst (by simp) (dv 0) (pe_bltn (by rfl) T.b_str (by decide +kernel) rfl) (fun a b => pe_callB a (by rfl) T.b_isinstance (by decide +kernel) b) (fun p => pa_cons p (pa_cons (pe_bltn (by rfl) T.b_str (by decide +kernel) rfl) pa_nil))))) (dw_or1 (dt_cmp dop_gt (de_callB dc_len (by rfl) T.b_len (by decide +kernel) (da_cons (dv 0) (da_nil)) (fun a b => pe_callB a (by rfl) T.b_len (by decide +kernel) b)) (de_globI rfl T.k_MOST_SIGNS.choose_spec) (nomark _))))) (db_one (ds_ret (de_bl))) (db_nil)) (db_one (ds_ret (de_cmp (dop_eq rfl hr.units) (de_lc false rfl sc_is_cell.nd (di_seq (dv 0)) (by exact blkOk_by (N := ["cell", "sign"]) (sc := defScope s_is_cell) (own := [("sign", 1)]) (by decide +kernel)) rfl (by decide) (fun _ _ _ _ _ => tg_one sc_is_cell.nd rfl (by first | exact Or.inl rfl | exact Or.inr rfl)) (fun _ _ _ _ _ => dts_one (dt_not (dt_val (dcall c_is_sign hr passL (da_cons (dv 1) (da_nil)))))) (fun _ _ _ _ _ => dv 1)) (de_lst false (da_nil)) (nomark _)))), m, F.kp, F.binds (ps := ["cell"]) fun _ _ _ _ _ _ us hl => match us, hl with | [_], _ => rfl⟩
theorem sc_is_row : FnScope ["row", "cell"] ["row"] (defScope s_is_row) := ⟨rfl, rfl, rfl, by decide +kernel, rfl, by decide +kernel, by decide +kernel⟩
theorem ok_is_row {m_is_cell : FV} {f : Addr} {fd : FuncData} (F : Fun W.K "is_row" "is_row" s_is_row f fd) (m : mg "is_row" = some (.ref f)) (T : Txt W mg) (c_is_cell : Fn P w W mg base "is_cell" 2 1 m_is_cell) : Fn P w W mg base "is_row" (3) 1 (funD 2 (d_is_row m_is_cell)) :=
  ⟨f, fd, ["row"], fnE F sc_is_row rfl rfl fun cdv A outer sh H E hr => db_cons (ds_if (dt_w (dw_or (dt_not (dt_val (de_isinst (by simp) (dv 0) (pe_bltn (by rfl) T.b_tuple (by decide +kernel) rfl) (fun a b => pe_callB a (by rfl) T.b_isinstance (by decide +kernel) b) (fun p => pa_cons p (pa_cons (pe_bltn (by rfl) T.b_tuple (by decide +kernel) rfl) pa_nil))))) (dw_or1 (dt_not (dt_chain dop_le dop_le (de_int) (de_callB dc_len (by rfl) T.b_len (by decide +kernel) (da_cons (dv 0) (da_nil)) (fun a b => pe_callB a (by rfl) T.b_len (by decide +kernel) b)) (de_globI rfl T.k_MOST_CELLS.choose_spec) (by with_unfolding_all rfl)))))) (db_one (ds_ret (de_bl))) (db_nil)) (db_one (ds_ret (de_cmp (dop_eq rfl hr.units) (de_lc false rfl sc_is_row.nd (di_seq (dv 0)) (by exact blkOk_by (N := ["row", "cell"]) (sc := defScope s_is_row) (own := [("cell", 1)]) (by decide +kernel)) rfl (by decide) (fun _ _ _ _ _ => tg_one sc_is_row.nd rfl (by first | exact Or.inl rfl | exact Or.inr rfl)) (fun _ _ _ _ _ => dts_one (dt_not (dt_val (dcall c_is_cell hr passL (da_cons (dv 1) (da_nil)))))) (fun _ _ _ _ _ => dv 1)) (de_lst false (da_nil)) (nomark _)))), m, F.kp, F.binds (ps := ["row"]) fun _ _ _ _ _ _ us hl => match us, hl with | [_], _ => rfl⟩
theorem sc_need_page : FnScope ["page", "number", "row"] ["page"] (defScope s_need_page) := ⟨rfl, rfl, rfl, by decide +kernel, rfl, by decide +kernel, by decide +kernel⟩
theorem ok_need_page {m_is_row : FV} {f : Addr} {fd : FuncData} (F : Fun W.K "need_page" "need_page" s_need_page f fd) (m : mg "need_page" = some (.ref f)) (T : Txt W mg) (c_is_row : Fn P w W mg base "is_row" 3 1 m_is_row) : Fn P w W mg base "need_page" (4) 1 (funD 3 (d_need_page m_is_row)) :=
  ⟨f, fd, ["page"], fnE F sc_need_page rfl rfl fun cdv A outer sh H E hr => db_cons (ds_if (dt_w (dw_or (dt_not (dt_val (de_isinst (by simp) (dv 0) (pe_bltn (by rfl) T.b_list (by decide +kernel) rfl) (fun a b => pe_callB a (by rfl) T.b_isinstance (by decide +kernel) b) (fun p => pa_cons p (pa_cons (pe_bltn (by rfl) T.b_list (by decide +kernel) rfl) pa_nil))))) (dw_or1 (dt_cmp (dop_eq rfl hr.units) (dv 0) (de_lst false (da_nil)) (nomark _))))) (db_one (ds_bad)) (db_nil)) (db_one (ds_for passF rfl (di_enum (by rfl) T.b_enumerate (da_cons (dv 0) (da_nil))) (dg_tup rfl (dgs_cons (dg_name sc_need_page.nd rfl (by first | exact Or.inl rfl | exact Or.inr rfl)) (dgs_cons (dg_name sc_need_page.nd rfl (by first | exact Or.inl rfl | exact Or.inr rfl)) (dgs_nil)))) (db_one (ds_if (dt_w (dw_or (dt_cmp dop_ge (dv 1) (de_globI rfl T.k_MOST_ROWS.choose_spec) (nomark _)) (dw_or1 (dt_not (dt_val (dcall c_is_row hr passD (da_cons (dv 2) (da_nil)))))))) (db_one (ds_bad)) (db_nil))))), m, F.kp, F.binds (ps := ["page"]) fun _ _ _ _ _ _ us hl => match us, hl with | [_], _ => rfl⟩
theorem sc_need_style : FnScope ["style"] ["style"] (defScope s_need_style) := ⟨rfl, rfl, rfl, by decide +kernel, rfl, by decide +kernel, by decide +kernel⟩
theorem ok_need_style {m_is_number : FV} {f : Addr} {fd : FuncData} (F : Fun W.K "need_style" "need_style" s_need_style f fd) (m : mg "need_style" = some (.ref f)) (T : Txt W mg) (c_is_number : Fn P w W mg base "is_number" 1 3 m_is_number) : Fn P w W mg base "need_style" (2) 1 (funD 1 (d_need_style m_is_number)) :=
  ⟨f, fd, ["style"], fnE F sc_need_style rfl rfl fun cdv A outer sh H E hr => db_cons (ds_if (dt_w (dw_or (dt_not (dt_val (de_isinst (by simp) (dv 0) (pe_bltn (by rfl) T.b_tuple (by decide +kernel) rfl) (fun a b => pe_callB a (by rfl) T.b_isinstance (by decide +kernel) b) (fun p => pa_cons p (pa_cons (pe_bltn (by rfl) T.b_tuple (by decide +kernel) rfl) pa_nil))))) (dw_or1 (dt_cmp (dop_ne rfl hr.units) (de_callB dc_len (by rfl) T.b_len (by decide +kernel) (da_cons (dv 0) (da_nil)) (fun a b => pe_callB a (by rfl) T.b_len (by decide +kernel) b)) (de_int) (nomark _))))) (db_one (ds_bad)) (db_nil)) (db_one (ds_if (dt_w (dw_or (dt_not (dt_val (dcall c_is_number hr passD (da_cons (de_ix rfl (dv 0) (de_int) (fun _ _ => rfl)) (da_cons (de_int) (da_cons (de_globI rfl T.k_MOST_GAP.choose_spec) (da_nil))))))) (dw_or1 (dt_not (dt_val (dcall c_is_number hr passD (da_cons (de_ix rfl (dv 0) (de_int) (fun _ _ => rfl)) (da_cons (de_int) (da_cons (de_globI rfl T.k_MOST_LEAST.choose_spec) (da_nil)))))))))) (db_one (ds_bad)) (db_nil))), m, F.kp, F.binds (ps := ["style"]) fun _ _ _ _ _ _ us hl => match us, hl with | [_], _ => rfl⟩
theorem sc_Stretch_width : FnScope ["self", "style", "cell"] ["self", "style"] (defScope s_Stretch_width) := ⟨rfl, rfl, rfl, by decide +kernel, rfl, by decide +kernel, by decide +kernel⟩
theorem ok_Stretch_width {f : Addr} {fd : FuncData} (F : Fun W.K "width" "Stretch.width" s_Stretch_width f fd) (M : Meth W.K (W.cls 12) "width" f) (T : Txt W mg)  : Mt P w W mg base 12 "width" (1) 2 (funD 3 d_Stretch_width) :=
  ⟨⟨f, fd, ["self", "style"], fnE F sc_Stretch_width rfl rfl fun cdv A outer sh H E hr => db_one (ds_ret (de_callB (dc_max rfl) (by rfl) T.b_max (by decide +kernel) (da_cons (de_ix rfl (dv 1) (de_int) (fun _ _ => rfl)) (da_cons (de_op (dop_add false) (de_callB (dc_max rfl) (by rfl) T.b_max (by decide +kernel) (da_cons (de_lc false rfl sc_Stretch_width.nd (di_seq (de_fld rfl (dv 0) T.cl_Stretch T.na_Stretch_cells)) (by exact blkOk_by (N := ["self", "style", "cell"]) (sc := defScope s_Stretch_width) (own := [("cell", 2)]) (by decide +kernel)) rfl (by decide) (fun _ _ _ _ _ => tg_one sc_Stretch_width.nd rfl (by first | exact Or.inl rfl | exact Or.inr rfl)) (fun _ _ _ _ _ => dts_nil) (fun _ _ _ _ _ => de_callB dc_len (by rfl) T.b_len (by decide +kernel) (da_cons (dv 2) (da_nil)) (fun a b => pe_callB a (by rfl) T.b_len (by decide +kernel) b))) (da_nil)) (fun a b => pe_callB a (by rfl) T.b_max (by decide +kernel) b)) (de_ix rfl (dv 1) (de_int) (fun _ _ => rfl))) (da_nil))) (fun a b => pe_callB a (by rfl) T.b_max (by decide +kernel) b))), M, F.binds (ps := ["self", "style"]) fun _ _ _ _ _ _ us hl => match us, hl with | [_, _], _ => rfl⟩, T.cl_Stretch⟩
theorem sc_stops_by : FnScope ["rows", "style", "some", "widths", "one", "number", "found", "row", "lefts", "column"] ["rows", "style", "some"] (defScope s_stops_by) := ⟨rfl, rfl, rfl, by decide +kernel, rfl, by decide +kernel, by decide +kernel⟩
theorem ok_stops_by {m_Stretch_width : FV} {f : Addr} {fd : FuncData} (F : Fun W.K "stops_by" "stops_by" s_stops_by f fd) (m : mg "stops_by" = some (.ref f)) (T : Txt W mg) (c_Stretch_width : Mt P w W mg base 12 "width" 1 2 m_Stretch_width) : Fn P w W mg base "stops_by" (2) 3 (funD 10 (d_stops_by m_Stretch_width)) :=
  ⟨f, fd, ["rows", "style", "some"], fnE F sc_stops_by rfl rfl fun cdv A outer sh H E hr => db_cons (ds_set sc_stops_by.nd rfl (by first | exact Or.inl rfl | exact Or.inr rfl) (de_dictT)) (db_cons (ds_for passF rfl (di_seq (dv 2)) (dg_name sc_stops_by.nd rfl (by first | exact Or.inl rfl | exact Or.inr rfl)) (db_one (ds_for passF rfl (di_r2 (by rfl) T.b_range (da_cons (de_fld rfl (dv 4) T.cl_Stretch T.na_Stretch_begin) (da_cons (de_fld rfl (dv 4) T.cl_Stretch T.na_Stretch_end) (da_nil)))) (dg_name sc_stops_by.nd rfl (by first | exact Or.inl rfl | exact Or.inr rfl)) (db_one (ds_asg (dmeth c_Stretch_width (dv 4) hr passD (da_cons (dv 1) (da_nil))) (dg_sub (dv 3) (de_tup (da_cons (dv 5) (da_cons (de_fld rfl (dv 4) T.cl_Stretch T.na_Stretch_column) (da_nil)))) (dset_dict (Dl.hu_of hr)))))))) (db_cons (ds_set sc_stops_by.nd rfl (by first | exact Or.inl rfl | exact Or.inr rfl) (de_lst true (da_nil))) (db_cons (ds_for passF rfl (di_enum (by rfl) T.b_enumerate (da_cons (dv 0) (da_nil))) (dg_tup rfl (dgs_cons (dg_name sc_stops_by.nd rfl (by first | exact Or.inl rfl | exact Or.inr rfl)) (dgs_cons (dg_name sc_stops_by.nd rfl (by first | exact Or.inl rfl | exact Or.inr rfl)) (dgs_nil)))) (db_cons (ds_set sc_stops_by.nd rfl (by first | exact Or.inl rfl | exact Or.inr rfl) (de_lst true (da_cons (de_int) (da_nil)))) (db_cons (ds_for passF rfl (di_r1 (by rfl) T.b_range (da_cons (de_op dop_sub (de_callB dc_len (by rfl) T.b_len (by decide +kernel) (da_cons (dv 7) (da_nil)) (fun a b => pe_callB a (by rfl) T.b_len (by decide +kernel) b)) (de_int)) (da_nil))) (dg_name sc_stops_by.nd rfl (by first | exact Or.inl rfl | exact Or.inr rfl)) (db_one (ds_expr (de_mt PySem.F.plainAttrs_list PySem.F.slot_list_append PySem.F.type_list_append (dm_append) (dv 8) (da_cons (de_op (dop_add false) (de_ix rfl (dv 8) (de_neg (de_int)) (fun _ _ => rfl)) (de_dget (Dl.hu_of hr) (dv 3) (de_tup (da_cons (dv 5) (da_cons (dv 9) (da_nil)))) (fun _ _ => rfl))) (da_nil)) (fun a b c => pe_bm PySem.F.plainAttrs_list PySem.F.slot_list_append PySem.F.type_list_append a b c))))) (db_one (ds_expr (de_mt PySem.F.plainAttrs_list PySem.F.slot_list_append PySem.F.type_list_append (dm_append) (dv 6) (da_cons (dv 8) (da_nil)) (fun a b c => pe_bm PySem.F.plainAttrs_list PySem.F.slot_list_append PySem.F.type_list_append a b c))))))) (db_one (ds_ret (dv 6)))))), m, F.kp, F.binds (ps := ["rows", "style", "some"]) fun _ _ _ _ _ _ us hl => match us, hl with | [_, _, _], _ => rfl⟩
theorem sc_is_figures : FnScope ["cell", "rest", "sign"] ["cell"] (defScope s_is_figures) := ⟨rfl, rfl, rfl, by decide +kernel, rfl, by decide +kernel, by decide +kernel⟩
theorem ok_is_figures {f : Addr} {fd : FuncData} (F : Fun W.K "is_figures" "is_figures" s_is_figures f fd) (m : mg "is_figures" = some (.ref f)) (T : Txt W mg)  : Fn P w W mg base "is_figures" (1) 1 (funD 3 d_is_figures) :=
  ⟨f, fd, ["cell"], fnE F sc_is_figures rfl rfl fun cdv A outer sh H E hr => db_cons (ds_set sc_is_figures.nd rfl (by first | exact Or.inl rfl | exact Or.inr rfl) (de_if (dt_cmp (dop_eq rfl hr.units) (de_sl false rfl (dv 0) (dp_none) (dp_some (de_int))) (de_str (by decide +kernel) (by decide +kernel)) (nomark _)) (de_sl false rfl (dv 0) (dp_some (de_int)) (dp_none)) (dv 0))) (db_one (ds_ret (de_and (de_cmp (dop_ne rfl hr.units) (dv 1) (de_str (by decide +kernel) (by decide +kernel)) (nomark _)) (de_one (de_cmp (dop_eq rfl hr.units) (de_lc false rfl sc_is_figures.nd (di_seq (dv 1)) (by exact blkOk_by (N := ["cell", "rest", "sign"]) (sc := defScope s_is_figures) (own := [("sign", 2)]) (by decide +kernel)) rfl (by decide) (fun _ _ _ _ _ => tg_one sc_is_figures.nd rfl (by first | exact Or.inl rfl | exact Or.inr rfl)) (fun _ _ _ _ _ => dts_one (dt_cmp (dop_notin rfl) (dv 2) (de_globS rfl T.k_FIGURES.choose_spec (by decide +kernel) (by decide +kernel)) (by rfl))) (fun _ _ _ _ _ => dv 2)) (de_lst false (da_nil)) (nomark _)))))), m, F.kp, F.binds (ps := ["cell"]) fun _ _ _ _ _ _ us hl => match us, hl with | [_], _ => rfl⟩
theorem sc_Stretch_is_right : FnScope ["self", "full", "cell"] ["self"] (defScope s_Stretch_is_right) := ⟨rfl, rfl, rfl, by decide +kernel, rfl, by decide +kernel, by decide +kernel⟩
theorem ok_Stretch_is_right {m_is_figures : FV} {f : Addr} {fd : FuncData} (F : Fun W.K "is_right" "Stretch.is_right" s_Stretch_is_right f fd) (M : Meth W.K (W.cls 12) "is_right" f) (T : Txt W mg) (c_is_figures : Fn P w W mg base "is_figures" 1 1 m_is_figures) : Mt P w W mg base 12 "is_right" (2) 1 (funD 3 (d_Stretch_is_right m_is_figures)) :=
  ⟨⟨f, fd, ["self"], fnE F sc_Stretch_is_right rfl rfl fun cdv A outer sh H E hr => db_cons (ds_setLc false rfl sc_Stretch_is_right.nd rfl rfl (sw_true rfl rfl rfl (by decide +kernel)) (di_seq (de_fld rfl (dv 0) T.cl_Stretch T.na_Stretch_cells)) (by exact blkOk_by (N := ["self", "full", "cell"]) (sc := defScope s_Stretch_is_right) (own := [("cell", 2)]) (by decide +kernel)) rfl (by decide) (fun _ _ _ _ _ => tg_one sc_Stretch_is_right.nd rfl (by first | exact Or.inl rfl | exact Or.inr rfl)) (fun _ _ _ _ _ => dts_one (dt_cmp (dop_ne rfl hr.units) (dv 2) (de_str (by decide +kernel) (by decide +kernel)) (nomark _))) (fun _ _ _ _ _ => dv 2)) (db_one (ds_ret (de_and (de_cmp (dop_ne rfl hr.units) (dv 1) (de_lst false (da_nil)) (nomark _)) (de_one (de_cmp (dop_eq rfl hr.units) (de_lc false rfl sc_Stretch_is_right.nd (di_seq (dv 1)) (by exact blkOk_by (N := ["self", "full", "cell"]) (sc := defScope s_Stretch_is_right) (own := [("cell", 2)]) (by decide +kernel)) rfl (by decide) (fun _ _ _ _ _ => tg_one sc_Stretch_is_right.nd rfl (by first | exact Or.inl rfl | exact Or.inr rfl)) (fun _ _ _ _ _ => dts_one (dt_not (dt_val (dcall c_is_figures hr passL (da_cons (dv 2) (da_nil)))))) (fun _ _ _ _ _ => dv 2)) (de_lst false (da_nil)) (nomark _)))))), M, F.binds (ps := ["self"]) fun _ _ _ _ _ _ us hl => match us, hl with | [_], _ => rfl⟩, T.cl_Stretch⟩
theorem sc_begins_by : FnScope ["rows", "style", "some", "found", "one", "k", "row"] ["rows", "style", "some"] (defScope s_begins_by) := ⟨rfl, rfl, rfl, by decide +kernel, rfl, by decide +kernel, by decide +kernel⟩
theorem ok_begins_by {m_stops_by m_Stretch_is_right m_Stretch_width : FV} {f : Addr} {fd : FuncData} (F : Fun W.K "begins_by" "begins_by" s_begins_by f fd) (m : mg "begins_by" = some (.ref f)) (T : Txt W mg) (c_stops_by : Fn P w W mg base "stops_by" 2 3 m_stops_by) (c_Stretch_is_right : Mt P w W mg base 12 "is_right" 2 1 m_Stretch_is_right) (c_Stretch_width : Mt P w W mg base 12 "width" 1 2 m_Stretch_width) : Fn P w W mg base "begins_by" (3) 3 (funD 7 (d_begins_by m_stops_by m_Stretch_is_right m_Stretch_width)) :=
  ⟨f, fd, ["rows", "style", "some"], fnE F sc_begins_by rfl rfl fun cdv A outer sh H E hr => db_cons (ds_set sc_begins_by.nd rfl (by first | exact Or.inl rfl | exact Or.inr rfl) (dcall c_stops_by hr passD (da_cons (dv 0) (da_cons (dv 1) (da_cons (dv 2) (da_nil)))))) (db_cons (ds_for passF rfl (di_seq (dv 2)) (dg_name sc_begins_by.nd rfl (by first | exact Or.inl rfl | exact Or.inr rfl)) (db_one (ds_if (dt_val (dmeth0 c_Stretch_is_right (dv 4) hr passD)) (db_one (ds_for passF rfl (di_r1 (by rfl) T.b_range (da_cons (de_callB dc_len (by rfl) T.b_len (by decide +kernel) (da_cons (de_fld rfl (dv 4) T.cl_Stretch T.na_Stretch_cells) (da_nil)) (fun a b => pe_callB a (by rfl) T.b_len (by decide +kernel) b)) (da_nil))) (dg_name sc_begins_by.nd rfl (by first | exact Or.inl rfl | exact Or.inr rfl)) (db_cons (ds_set sc_begins_by.nd rfl (by first | exact Or.inl rfl | exact Or.inr rfl) (de_ix rfl (dv 3) (de_op (dop_add false) (de_fld rfl (dv 4) T.cl_Stretch T.na_Stretch_begin) (dv 5)) (fun _ _ => rfl))) (db_one (ds_asg (de_op dop_sub (de_op dop_sub (de_op (dop_add false) (de_ix rfl (dv 6) (de_fld rfl (dv 4) T.cl_Stretch T.na_Stretch_column) (fun _ _ => rfl)) (dmeth c_Stretch_width (dv 4) hr passD (da_cons (dv 1) (da_nil)))) (de_ix rfl (dv 1) (de_int) (fun _ _ => rfl))) (de_callB dc_len (by rfl) T.b_len (by decide +kernel) (da_cons (de_ix rfl (de_fld rfl (dv 4) T.cl_Stretch T.na_Stretch_cells) (dv 5) (fun _ _ => rfl)) (da_nil)) (fun a b => pe_callB a (by rfl) T.b_len (by decide +kernel) b))) (dg_sub (dv 6) (de_fld rfl (dv 4) T.cl_Stretch T.na_Stretch_column) dset_list)))))) (db_nil)))) (db_one (ds_ret (dv 3)))), m, F.kp, F.binds (ps := ["rows", "style", "some"]) fun _ _ _ _ _ _ us hl => match us, hl with | [_, _, _], _ => rfl⟩
theorem sc_Stretch_init : FnScope ["self", "column", "begin", "cells"] ["self", "column", "begin", "cells"] (defScope s_Stretch_init) := ⟨rfl, rfl, rfl, by decide +kernel, rfl, by decide +kernel, by decide +kernel⟩
theorem ok_Stretch_init {f : Addr} {fd : FuncData} (F : Fun W.K "__init__" "Stretch.__init__" s_Stretch_init f fd) (M : Mk W.K (W.cls 12) f) (m : mg "Stretch" = some (.ref (W.cls 12))) (T : Txt W mg)  : Nw P w W mg base "Stretch" 12 (1) 4 (funD 4 d_Stretch_init) :=
  ⟨f, fd, ["self", "column", "begin", "cells"], fnE F sc_Stretch_init rfl rfl fun cdv A outer sh H E hr => db_cons (ds_fld rfl (dv 0) (dv 1) T.cl_Stretch T.na_Stretch_column) (db_cons (ds_fld rfl (dv 0) (dv 2) T.cl_Stretch T.na_Stretch_begin) (db_cons (ds_fld rfl (dv 0) (de_op (dop_add false) (dv 2) (de_callB dc_len (by rfl) T.b_len (by decide +kernel) (da_cons (dv 3) (da_nil)) (fun a b => pe_callB a (by rfl) T.b_len (by decide +kernel) b))) T.cl_Stretch T.na_Stretch_end) (db_one (ds_fld rfl (dv 0) (dv 3) T.cl_Stretch T.na_Stretch_cells)))), M, m, F.binds (ps := ["self", "column", "begin", "cells"]) fun _ _ _ _ _ _ us hl => match us, hl with | [_, _, _, _], _ => rfl⟩
theorem sc_stretches_of : FnScope ["rows", "column", "begin", "end", "found", "first", "number", "is_closed", "k"] ["rows", "column", "begin", "end"] (defScope s_stretches_of) := ⟨rfl, rfl, rfl, by decide +kernel, rfl, by decide +kernel, by decide +kernel⟩
theorem ok_stretches_of {m_Stretch_init : FV} {f : Addr} {fd : FuncData} (F : Fun W.K "stretches_of" "stretches_of" s_stretches_of f fd) (m : mg "stretches_of" = some (.ref f)) (T : Txt W mg) (n_Stretch : Nw P w W mg base "Stretch" 12 1 4 m_Stretch_init) : Fn P w W mg base "stretches_of" (3) 4 (funD 9 (d_stretches_of m_Stretch_init)) :=
  ⟨f, fd, ["rows", "column", "begin", "end"], fnE F sc_stretches_of rfl rfl fun cdv A outer sh H E hr => db_cons (ds_set sc_stretches_of.nd rfl (by first | exact Or.inl rfl | exact Or.inr rfl) (de_lst true (da_nil))) (db_cons (ds_set sc_stretches_of.nd rfl (by first | exact Or.inl rfl | exact Or.inr rfl) (de_non)) (db_cons (ds_for passF rfl (di_r2 (by rfl) T.b_range (da_cons (dv 2) (da_cons (de_op (dop_add false) (dv 3) (de_int)) (da_nil)))) (dg_name sc_stretches_of.nd rfl (by first | exact Or.inl rfl | exact Or.inr rfl)) (db_cons (ds_set sc_stretches_of.nd rfl (by first | exact Or.inl rfl | exact Or.inr rfl) (de_and (de_cmp dop_lt (dv 6) (dv 3) (nomark _)) (de_one (de_cmp dop_gt (de_callB dc_len (by rfl) T.b_len (by decide +kernel) (da_cons (de_ix rfl (dv 0) (dv 6) (fun _ _ => rfl)) (da_nil)) (fun a b => pe_callB a (by rfl) T.b_len (by decide +kernel) b)) (de_op (dop_add false) (dv 1) (de_int)) (nomark _))))) (db_cons (ds_if (dt_w (dw_and (dt_val (dv 7)) (dw_and1 (dt_cmp dop_is (dv 5) (de_non) (nomark _))))) (db_one (ds_set sc_stretches_of.nd rfl (by first | exact Or.inl rfl | exact Or.inr rfl) (dv 6))) (db_nil)) (db_one (ds_if (dt_w (dw_and (dt_not (dt_val (dv 7))) (dw_and1 (dt_cmp dop_isnot (dv 5) (de_non) (nomark _))))) (db_cons (ds_expr (de_mt PySem.F.plainAttrs_list PySem.F.slot_list_append PySem.F.type_list_append (dm_append) (dv 4) (da_cons (dmake n_Stretch hr passD (da_cons (dv 1) (da_cons (dv 5) (da_cons (de_lc false rfl sc_stretches_of.nd (di_r2 (by rfl) T.b_range (da_cons (dv 5) (da_cons (dv 6) (da_nil)))) (by exact blkOk_by (N := ["rows", "column", "begin", "end", "found", "first", "number", "is_closed", "k"]) (sc := defScope s_stretches_of) (own := [("k", 8)]) (by decide +kernel)) rfl (by decide) (fun _ _ _ _ _ => tg_one sc_stretches_of.nd rfl (by first | exact Or.inl rfl | exact Or.inr rfl)) (fun _ _ _ _ _ => dts_nil) (fun _ _ _ _ _ => de_ix rfl (de_ix rfl (dv 0) (dv 8) (fun _ _ => rfl)) (dv 1) (fun _ _ => rfl))) (da_nil))))) (da_nil)) (fun a b c => pe_bm PySem.F.plainAttrs_list PySem.F.slot_list_append PySem.F.type_list_append a b c))) (db_one (ds_set sc_stretches_of.nd rfl (by first | exact Or.inl rfl | exact Or.inr rfl) (de_non)))) (db_nil)))))) (db_one (ds_ret (dv 4))))), m, F.kp, F.binds (ps := ["rows", "column", "begin", "end"]) fun _ _ _ _ _ _ us hl => match us, hl with | [_, _, _, _], _ => rfl⟩
theorem sc_all_stretches : FnScope ["rows", "found", "column"] ["rows"] (defScope s_all_stretches) := ⟨rfl, rfl, rfl, by decide +kernel, rfl, by decide +kernel, by decide +kernel⟩
theorem ok_all_stretches {m_stretches_of : FV} {f : Addr} {fd : FuncData} (F : Fun W.K "all_stretches" "all_stretches" s_all_stretches f fd) (m : mg "all_stretches" = some (.ref f)) (T : Txt W mg) (c_stretches_of : Fn P w W mg base "stretches_of" 3 4 m_stretches_of) : Fn P w W mg base "all_stretches" (4) 1 (funD 3 (d_all_stretches m_stretches_of)) :=
  ⟨f, fd, ["rows"], fnE F sc_all_stretches rfl rfl fun cdv A outer sh H E hr => db_cons (ds_set sc_all_stretches.nd rfl (by first | exact Or.inl rfl | exact Or.inr rfl) (de_lst true (da_nil))) (db_cons (ds_for passF rfl (di_r1 (by rfl) T.b_range (da_cons (de_op dop_sub (de_globI rfl T.k_MOST_CELLS.choose_spec) (de_int)) (da_nil))) (dg_name sc_all_stretches.nd rfl (by first | exact Or.inl rfl | exact Or.inr rfl)) (db_one (ds_expr (de_mt PySem.F.plainAttrs_list PySem.F.slot_list_extend PySem.F.type_list_extend (dm_extend) (dv 1) (da_cons (dcall c_stretches_of hr passD (da_cons (dv 0) (da_cons (dv 2) (da_cons (de_int) (da_cons (de_callB dc_len (by rfl) T.b_len (by decide +kernel) (da_cons (dv 0) (da_nil)) (fun a b => pe_callB a (by rfl) T.b_len (by decide +kernel) b)) (da_nil)))))) (da_nil)) (fun a b c => pe_bm PySem.F.plainAttrs_list PySem.F.slot_list_extend PySem.F.type_list_extend a b c))))) (db_one (ds_ret (dv 1)))), m, F.kp, F.binds (ps := ["rows"]) fun _ _ _ _ _ _ us hl => match us, hl with | [_], _ => rfl⟩
theorem sc_laid : FnScope ["page", "style"] ["page", "style"] (defScope s_laid) := ⟨rfl, rfl, rfl, by decide +kernel, rfl, by decide +kernel, by decide +kernel⟩
theorem ok_laid {m_need_page m_need_style m_begins_by m_all_stretches : FV} {f : Addr} {fd : FuncData} (F : Fun W.K "laid" "laid" s_laid f fd) (m : mg "laid" = some (.ref f)) (T : Txt W mg) (c_need_page : Fn P w W mg base "need_page" 4 1 m_need_page) (c_need_style : Fn P w W mg base "need_style" 2 1 m_need_style) (c_begins_by : Fn P w W mg base "begins_by" 3 3 m_begins_by) (c_all_stretches : Fn P w W mg base "all_stretches" 4 1 m_all_stretches) : Fn P w W mg base "laid" (5) 2 (funD 2 (d_laid m_need_page m_need_style m_begins_by m_all_stretches)) :=
  ⟨f, fd, ["page", "style"], fnE F sc_laid rfl rfl fun cdv A outer sh H E hr => db_cons (ds_expr (dcall c_need_page hr passD (da_cons (dv 0) (da_nil)))) (db_cons (ds_expr (dcall c_need_style hr passD (da_cons (dv 1) (da_nil)))) (db_one (ds_ret (dcall c_begins_by hr passD (da_cons (dv 0) (da_cons (dv 1) (da_cons (dcall c_all_stretches hr passD (da_cons (dv 0) (da_nil))) (da_nil)))))))), m, F.kp, F.binds (ps := ["page", "style"]) fun _ _ _ _ _ _ us hl => match us, hl with | [_, _], _ => rfl⟩
theorem sc_line_of : FnScope ["row", "begins", "found", "cell", "begin"] ["row", "begins"] (defScope s_line_of) := ⟨rfl, rfl, rfl, by decide +kernel, rfl, by decide +kernel, by decide +kernel⟩
theorem ok_line_of {f : Addr} {fd : FuncData} (F : Fun W.K "line_of" "line_of" s_line_of f fd) (m : mg "line_of" = some (.ref f)) (T : Txt W mg)  : Fn P w W mg base "line_of" (1) 2 (funD 5 d_line_of) :=
  ⟨f, fd, ["row", "begins"], fnE F sc_line_of rfl rfl fun cdv A outer sh H E hr => db_cons (ds_set sc_line_of.nd rfl (by first | exact Or.inl rfl | exact Or.inr rfl) (de_str (by decide +kernel) (by decide +kernel))) (db_cons (ds_for passF rfl (di_zipM (by rfl) T.b_zip (da_cons (dv 0) (da_cons (dv 1) (da_nil)))) (dg_tup rfl (dgs_cons (dg_name sc_line_of.nd rfl (by first | exact Or.inl rfl | exact Or.inr rfl)) (dgs_cons (dg_name sc_line_of.nd rfl (by first | exact Or.inl rfl | exact Or.inr rfl)) (dgs_nil)))) (db_one (ds_if (dt_cmp (dop_ne rfl hr.units) (dv 3) (de_str (by decide +kernel) (by decide +kernel)) (nomark _)) (db_one (ds_set sc_line_of.nd rfl (by first | exact Or.inl rfl | exact Or.inr rfl) (de_op (dop_add false) (de_mt PySem.F.plainAttrs_str PySem.F.slot_str_ljust PySem.F.type_str_ljust (dm_ljust) (dv 2) (da_cons (dv 4) (da_nil)) (fun a b c => pe_bm PySem.F.plainAttrs_str PySem.F.slot_str_ljust PySem.F.type_str_ljust a b c)) (dv 3)))) (db_nil)))) (db_one (ds_ret (dv 2)))), m, F.kp, F.binds (ps := ["row", "begins"]) fun _ _ _ _ _ _ us hl => match us, hl with | [_, _], _ => rfl⟩
theorem sc_shown : FnScope ["page", "style", "found", "row", "begins"] ["page", "style"] (defScope s_shown) := ⟨rfl, rfl, rfl, by decide +kernel, rfl, by decide +kernel, by decide +kernel⟩
theorem ok_shown {m_laid m_line_of : FV} {f : Addr} {fd : FuncData} (F : Fun W.K "shown" "shown" s_shown f fd) (m : mg "shown" = some (.ref f)) (T : Txt W mg) (c_laid : Fn P w W mg base "laid" 5 2 m_laid) (c_line_of : Fn P w W mg base "line_of" 1 2 m_line_of) : Fn P w W mg base "shown" (6) 2 (funD 5 (d_shown m_laid m_line_of)) :=
  ⟨f, fd, ["page", "style"], fnE F sc_shown rfl rfl fun cdv A outer sh H E hr => db_cons (ds_set sc_shown.nd rfl (by first | exact Or.inl rfl | exact Or.inr rfl) (dcall c_laid hr passD (da_cons (dv 0) (da_cons (dv 1) (da_nil))))) (db_one (ds_ret (de_lc true rfl sc_shown.nd (di_zip (by rfl) T.b_zip (da_cons (dv 0) (da_cons (dv 2) (da_nil)))) (by exact blkOk_by (N := ["page", "style", "found", "row", "begins"]) (sc := defScope s_shown) (own := [("row", 3), ("begins", 4)]) (by decide +kernel)) rfl (by decide) (fun _ _ _ _ _ => tg_two rfl (pg_name sc_shown.nd rfl (by first | exact Or.inl rfl | exact Or.inr rfl)) (pg_name sc_shown.nd rfl (by first | exact Or.inl rfl | exact Or.inr rfl))) (fun _ _ _ _ _ => dts_nil) (fun _ _ _ _ _ => dcall c_line_of hr passL (da_cons (dv 3) (da_cons (dv 4) (da_nil))))))), m, F.kp, F.binds (ps := ["page", "style"]) fun _ _ _ _ _ _ us hl => match us, hl with | [_, _], _ => rfl⟩
theorem sc_Sheet_page : FnScope ["self"] ["self"] (defScope s_Sheet_page) := ⟨rfl, rfl, rfl, by decide +kernel, rfl, by decide +kernel, by decide +kernel⟩
theorem ok_Sheet_page {f : Addr} {fd : FuncData} (F : Fun W.K "page" "Sheet.page" s_Sheet_page f fd) (M : Meth W.K (W.cls 13) "page" f) (T : Txt W mg)  : Mt P w W mg base 13 "page" (1) 1 (funD 1 d_Sheet_page) :=
  ⟨⟨f, fd, ["self"], fnE F sc_Sheet_page rfl rfl fun cdv A outer sh H E hr => db_one (ds_ret (de_callTy (dc_list true) (by rfl) T.b_list (by decide +kernel) (da_cons (de_fld rfl (dv 0) T.cl_Sheet T.na_Sheet_rows) (da_nil)) (fun a b => pe_callTy a (by rfl) T.b_list (by decide +kernel) b))), M, F.binds (ps := ["self"]) fun _ _ _ _ _ _ us hl => match us, hl with | [_], _ => rfl⟩, T.cl_Sheet⟩
theorem sc_law_drawn : FnScope ["_law_box", "_law_rows", "_law_number", "_law_row_here", "_law_cell_here", "_law_place", "_law_way", "_law_sorts", "_law_new", "_law_k"] ["_law_box", "_law_rows"] (defScope s_law_drawn) := ⟨rfl, rfl, rfl, by decide +kernel, rfl, by decide +kernel, by decide +kernel⟩
theorem ok_law_drawn {m_law_take m_law_row m_law_sign : FV} {f : Addr} {fd : FuncData} (F : Fun W.K "_law_drawn" "_law_drawn" s_law_drawn f fd) (m : mg "_law_drawn" = some (.ref f)) (T : Txt W mg) (c_law_take : Fn P w W mg base "_law_take" 1 2 m_law_take) (c_law_row : Fn P w W mg base "_law_row" 4 3 m_law_row) (c_law_sign : Fn P w W mg base "_law_sign" 2 1 m_law_sign) : Fn P w W mg base "_law_drawn" (5) 2 (funD 10 (d_law_drawn m_law_take m_law_row m_law_sign)) :=
  ⟨f, fd, ["_law_box", "_law_rows"], fnE F sc_law_drawn rfl rfl fun cdv A outer sh H E hr => db_cons (ds_set sc_law_drawn.nd rfl (by first | exact Or.inl rfl | exact Or.inr rfl) (dcall c_law_take hr passD (da_cons (dv 0) (da_cons (de_callB dc_len (by rfl) T.b_len (by decide +kernel) (da_cons (dv 1) (da_nil)) (fun a b => pe_callB a (by rfl) T.b_len (by decide +kernel) b)) (da_nil))))) (db_cons (ds_set sc_law_drawn.nd rfl (by first | exact Or.inl rfl | exact Or.inr rfl) (de_ix rfl (dv 1) (dv 2) (fun _ _ => rfl))) (db_cons (ds_set sc_law_drawn.nd rfl (by first | exact Or.inl rfl | exact Or.inr rfl) (dcall c_law_take hr passD (da_cons (dv 0) (da_cons (de_callB dc_len (by rfl) T.b_len (by decide +kernel) (da_cons (dv 3) (da_nil)) (fun a b => pe_callB a (by rfl) T.b_len (by decide +kernel) b)) (da_nil))))) (db_cons (ds_set sc_law_drawn.nd rfl (by first | exact Or.inl rfl | exact Or.inr rfl) (de_ix rfl (de_lst false (da_cons (dcall c_law_take hr passD (da_cons (dv 0) (da_cons (de_op (dop_add false) (de_callB dc_len (by rfl) T.b_len (by decide +kernel) (da_cons (de_ix rfl (dv 3) (dv 4) (fun _ _ => rfl)) (da_nil)) (fun a b => pe_callB a (by rfl) T.b_len (by decide +kernel) b)) (de_int)) (da_nil)))) (da_cons (de_callB dc_len (by rfl) T.b_len (by decide +kernel) (da_cons (de_ix rfl (dv 3) (dv 4) (fun _ _ => rfl)) (da_nil)) (fun a b => pe_callB a (by rfl) T.b_len (by decide +kernel) b)) (da_nil)))) (dcall c_law_take hr passD (da_cons (dv 0) (da_cons (de_int) (da_nil)))) (fun _ _ => rfl))) (db_cons (ds_par rfl sc_law_drawn.nd rfl rfl (by decide) rfl rfl (da_cons (dcall c_law_take hr passD (da_cons (dv 0) (da_cons (de_int) (da_nil)))) (da_cons (de_lc false rfl sc_law_drawn.nd (di_r1 (by rfl) T.b_range (da_cons (de_int) (da_nil))) (by exact blkOk_by (N := ["_law_box", "_law_rows", "_law_number", "_law_row_here", "_law_cell_here", "_law_place", "_law_way", "_law_sorts", "_law_new", "_law_k"]) (sc := defScope s_law_drawn) (own := [("_law_k", 9)]) (by decide +kernel)) rfl (by decide) (fun _ _ _ _ _ => tg_one sc_law_drawn.nd rfl (by first | exact Or.inl rfl | exact Or.inr rfl)) (fun _ _ _ _ _ => dts_nil) (fun _ _ _ _ _ => dcall c_law_take hr passL (da_cons (dv 0) (da_cons (de_int) (da_nil))))) (da_nil))) (by rfl)) (db_cons (ds_if (dt_cmp dop_lt (dv 6) (de_int) (nomark _)) (db_one (ds_ret (de_tup (da_cons (de_str (by decide +kernel) (by decide +kernel)) (da_cons (de_ix rfl (de_lst false (da_cons (dv 2) (da_cons (de_callB dc_len (by rfl) T.b_len (by decide +kernel) (da_cons (dv 1) (da_nil)) (fun a b => pe_callB a (by rfl) T.b_len (by decide +kernel) b)) (da_nil)))) (dcall c_law_take hr passD (da_cons (dv 0) (da_cons (de_int) (da_nil)))) (fun _ _ => rfl)) (da_cons (dcall c_law_row hr passD (da_cons (dv 0) (da_cons (dv 7) (da_cons (de_op (dop_add false) (de_int) (dcall c_law_take hr passD (da_cons (dv 0) (da_cons (de_int) (da_nil))))) (da_nil))))) (da_nil))))))) (db_nil)) (db_cons (ds_if (dt_cmp (dop_eq rfl hr.units) (dv 6) (de_int) (nomark _)) (db_one (ds_ret (de_tup (da_cons (de_str (by decide +kernel) (by decide +kernel)) (da_cons (dv 2) (da_nil)))))) (db_nil)) (db_cons (ds_if (dt_cmp (dop_eq rfl hr.units) (dv 6) (de_int) (nomark _)) (db_cons (ds_set sc_law_drawn.nd rfl (by first | exact Or.inl rfl | exact Or.inr rfl) (dcall c_law_row hr passD (da_cons (dv 0) (da_cons (dv 7) (da_cons (de_ix rfl (de_lst false (da_cons (de_callB dc_len (by rfl) T.b_len (by decide +kernel) (da_cons (dv 3) (da_nil)) (fun a b => pe_callB a (by rfl) T.b_len (by decide +kernel) b)) (da_cons (de_op (dop_add false) (de_int) (dcall c_law_take hr passD (da_cons (dv 0) (da_cons (de_int) (da_nil))))) (da_nil)))) (dcall c_law_take hr passD (da_cons (dv 0) (da_cons (de_int) (da_nil)))) (fun _ _ => rfl)) (da_nil)))))) (db_one (ds_ret (de_tup (da_cons (de_str (by decide +kernel) (by decide +kernel)) (da_cons (dv 2) (da_cons (de_ix rfl (de_lst false (da_cons (dv 8) (da_cons (dv 8) (da_cons (dv 3) (da_nil))))) (dcall c_law_take hr passD (da_cons (dv 0) (da_cons (de_int) (da_nil)))) (fun _ _ => rfl)) (da_nil)))))))) (db_nil)) (db_cons (ds_if (dt_cmp dop_lt (dv 6) (de_int) (nomark _)) (db_one (ds_ret (de_tup (da_cons (de_str (by decide +kernel) (by decide +kernel)) (da_cons (dv 2) (da_cons (dv 4) (da_cons (dv 5) (da_cons (de_ix rfl (de_lst false (da_cons (de_str (by decide +kernel) (by decide +kernel)) (da_cons (de_ix rfl (de_str (by decide +kernel) (by decide +kernel)) (dcall c_law_take hr passD (da_cons (dv 0) (da_cons (de_int) (da_nil)))) (fun _ _ => rfl)) (da_cons (dcall c_law_sign hr passD (da_cons (dv 0) (da_nil))) (da_nil))))) (de_op dop_sub (dv 6) (de_int)) (fun _ _ => rfl)) (da_nil))))))))) (db_nil)) (db_cons (ds_if (dt_cmp dop_lt (dv 6) (de_int) (nomark _)) (db_one (ds_ret (de_tup (da_cons (de_str (by decide +kernel) (by decide +kernel)) (da_cons (dv 2) (da_cons (dv 4) (da_cons (dv 5) (da_nil)))))))) (db_nil)) (db_cons (ds_if (dt_cmp dop_lt (dv 6) (de_int) (nomark _)) (db_one (ds_ret (de_ix rfl (de_lst false (da_cons (de_tup (da_cons (de_str (by decide +kernel) (by decide +kernel)) (da_cons (dv 2) (da_cons (dv 4) (da_cons (dv 5) (da_nil)))))) (da_cons (de_tup (da_cons (de_str (by decide +kernel) (by decide +kernel)) (da_cons (dv 2) (da_nil)))) (da_nil)))) (de_op dop_sub (dv 6) (de_int)) (fun _ _ => rfl)))) (db_nil)) (db_one (ds_ret (de_tup (da_cons (de_str (by decide +kernel) (by decide +kernel)) (da_nil))))))))))))))), m, F.kp, F.binds (ps := ["_law_box", "_law_rows"]) fun _ _ _ _ _ _ us hl => match us, hl with | [_, _], _ => rfl⟩
theorem sc_Sheet_need_number : FnScope ["self", "number", "most"] ["self", "number", "most"] (defScope s_Sheet_need_number) := ⟨rfl, rfl, rfl, by decide +kernel, rfl, by decide +kernel, by decide +kernel⟩
theorem ok_Sheet_need_number {m_is_number : FV} {f : Addr} {fd : FuncData} (F : Fun W.K "need_number" "Sheet.need_number" s_Sheet_need_number f fd) (M : Meth W.K (W.cls 13) "need_number" f) (T : Txt W mg) (c_is_number : Fn P w W mg base "is_number" 1 3 m_is_number) : Mt P w W mg base 13 "need_number" (2) 3 (funD 3 (d_Sheet_need_number m_is_number)) :=
  ⟨⟨f, fd, ["self", "number", "most"], fnE F sc_Sheet_need_number rfl rfl fun cdv A outer sh H E hr => db_one (ds_if (dt_not (dt_val (dcall c_is_number hr passD (da_cons (dv 1) (da_cons (de_int) (da_cons (dv 2) (da_nil))))))) (db_one (ds_raise rfl rfl takesD T.ex_BadRow (by rfl))) (db_nil)), M, F.binds (ps := ["self", "number", "most"]) fun _ _ _ _ _ _ us hl => match us, hl with | [_, _, _], _ => rfl⟩, T.cl_Sheet⟩
theorem sc_need_row : FnScope ["row"] ["row"] (defScope s_need_row) := ⟨rfl, rfl, rfl, by decide +kernel, rfl, by decide +kernel, by decide +kernel⟩
theorem ok_need_row {m_is_row : FV} {f : Addr} {fd : FuncData} (F : Fun W.K "need_row" "need_row" s_need_row f fd) (m : mg "need_row" = some (.ref f)) (T : Txt W mg) (c_is_row : Fn P w W mg base "is_row" 3 1 m_is_row) : Fn P w W mg base "need_row" (4) 1 (funD 1 (d_need_row m_is_row)) :=
  ⟨f, fd, ["row"], fnE F sc_need_row rfl rfl fun cdv A outer sh H E hr => db_one (ds_if (dt_not (dt_val (dcall c_is_row hr passD (da_cons (dv 0) (da_nil))))) (db_one (ds_raise rfl rfl takesD T.ex_BadRow (by rfl))) (db_nil)), m, F.kp, F.binds (ps := ["row"]) fun _ _ _ _ _ _ us hl => match us, hl with | [_], _ => rfl⟩
theorem sc_Sheet_turn_to : FnScope ["self", "rows", "origin", "ahead", "found", "number", "elder", "cell"] ["self", "rows", "origin"] (defScope s_Sheet_turn_to) := ⟨rfl, rfl, rfl, by decide +kernel, rfl, by decide +kernel, by decide +kernel⟩
theorem ok_Sheet_turn_to {m_begins_by m_all_stretches : FV} {f : Addr} {fd : FuncData} (F : Fun W.K "turn_to" "Sheet.turn_to" s_Sheet_turn_to f fd) (M : Meth W.K (W.cls 13) "turn_to" f) (T : Txt W mg) (c_begins_by : Fn P w W mg base "begins_by" 3 3 m_begins_by) (c_all_stretches : Fn P w W mg base "all_stretches" 4 1 m_all_stretches) : Mt P w W mg base 13 "turn_to" (5) 3 (funD 8 (d_Sheet_turn_to m_begins_by m_all_stretches)) :=
  ⟨⟨f, fd, ["self", "rows", "origin"], fnE F sc_Sheet_turn_to rfl rfl fun cdv A outer sh H E hr => db_cons (ds_set sc_Sheet_turn_to.nd rfl (by first | exact Or.inl rfl | exact Or.inr rfl) (de_fld rfl (dv 0) T.cl_Sheet T.na_Sheet_lefts)) (db_cons (ds_expr (de_mt PySem.F.plainAttrs_list PySem.F.slot_list_append PySem.F.type_list_append (dm_append) (de_fld rfl (dv 0) T.cl_Sheet T.na_Sheet_past) (da_cons (de_fld rfl (dv 0) T.cl_Sheet T.na_Sheet_rows) (da_nil)) (fun a b c => pe_bm PySem.F.plainAttrs_list PySem.F.slot_list_append PySem.F.type_list_append a b c))) (db_cons (ds_fld rfl (dv 0) (dv 1) T.cl_Sheet T.na_Sheet_rows) (db_cons (ds_fld rfl (dv 0) (dcall c_begins_by hr passD (da_cons (dv 1) (da_cons (de_fld rfl (dv 0) T.cl_Sheet T.na_Sheet_style) (da_cons (dcall c_all_stretches hr passD (da_cons (dv 1) (da_nil))) (da_nil))))) T.cl_Sheet T.na_Sheet_lefts) (db_cons (ds_set sc_Sheet_turn_to.nd rfl (by first | exact Or.inl rfl | exact Or.inr rfl) (de_lst true (da_nil))) (db_cons (ds_for passF rfl (di_enum (by rfl) T.b_enumerate (da_cons (dv 2) (da_nil))) (dg_tup rfl (dgs_cons (dg_name sc_Sheet_turn_to.nd rfl (by first | exact Or.inl rfl | exact Or.inr rfl)) (dgs_cons (dg_name sc_Sheet_turn_to.nd rfl (by first | exact Or.inl rfl | exact Or.inr rfl)) (dgs_nil)))) (db_one (ds_if (dt_cmp dop_isnot (dv 6) (de_non) (nomark _)) (db_one (ds_for passF rfl (di_r1 (by rfl) T.b_range (da_cons (de_callB dc_len (by rfl) T.b_len (by decide +kernel) (da_cons (de_ix rfl (dv 1) (dv 5) (fun _ _ => rfl)) (da_nil)) (fun a b => pe_callB a (by rfl) T.b_len (by decide +kernel) b)) (da_nil))) (dg_name sc_Sheet_turn_to.nd rfl (by first | exact Or.inl rfl | exact Or.inr rfl)) (db_one (ds_if (dt_cmp (dop_ne rfl hr.units) (de_ix rfl (de_ix rfl (dv 3) (dv 6) (fun _ _ => rfl)) (dv 7) (fun _ _ => rfl)) (de_ix rfl (de_ix rfl (de_fld rfl (dv 0) T.cl_Sheet T.na_Sheet_lefts) (dv 5) (fun _ _ => rfl)) (dv 7) (fun _ _ => rfl)) (nomark _)) (db_one (ds_expr (de_mt PySem.F.plainAttrs_list PySem.F.slot_list_append PySem.F.type_list_append (dm_append) (dv 4) (da_cons (de_tup (da_cons (dv 5) (da_cons (dv 7) (da_cons (de_ix rfl (de_ix rfl (dv 3) (dv 6) (fun _ _ => rfl)) (dv 7) (fun _ _ => rfl)) (da_cons (de_ix rfl (de_ix rfl (de_fld rfl (dv 0) T.cl_Sheet T.na_Sheet_lefts) (dv 5) (fun _ _ => rfl)) (dv 7) (fun _ _ => rfl)) (da_nil)))))) (da_nil)) (fun a b c => pe_bm PySem.F.plainAttrs_list PySem.F.slot_list_append PySem.F.type_list_append a b c)))) (db_nil))))) (db_nil)))) (db_one (ds_ret (dv 4)))))))), M, F.binds (ps := ["self", "rows", "origin"]) fun _ _ _ _ _ _ us hl => match us, hl with | [_, _, _], _ => rfl⟩, T.cl_Sheet⟩
theorem sc_Sheet_put : FnScope ["self", "number", "row", "every"] ["self", "number", "row"] (defScope s_Sheet_put) := ⟨rfl, rfl, rfl, by decide +kernel, rfl, by decide +kernel, by decide +kernel⟩
theorem ok_Sheet_put {m_Sheet_need_number m_need_row m_Sheet_turn_to : FV} {f : Addr} {fd : FuncData} (F : Fun W.K "put" "Sheet.put" s_Sheet_put f fd) (M : Meth W.K (W.cls 13) "put" f) (T : Txt W mg) (c_Sheet_need_number : Mt P w W mg base 13 "need_number" 2 3 m_Sheet_need_number) (c_need_row : Fn P w W mg base "need_row" 4 1 m_need_row) (c_Sheet_turn_to : Mt P w W mg base 13 "turn_to" 5 3 m_Sheet_turn_to) : Mt P w W mg base 13 "put" (6) 3 (funD 4 (d_Sheet_put m_Sheet_need_number m_need_row m_Sheet_turn_to)) :=
  ⟨⟨f, fd, ["self", "number", "row"], fnE F sc_Sheet_put rfl rfl fun cdv A outer sh H E hr => db_cons (ds_expr (dmeth c_Sheet_need_number (dv 0) hr passD (da_cons (dv 1) (da_cons (de_callB dc_len (by rfl) T.b_len (by decide +kernel) (da_cons (de_fld rfl (dv 0) T.cl_Sheet T.na_Sheet_rows) (da_nil)) (fun a b => pe_callB a (by rfl) T.b_len (by decide +kernel) b)) (da_nil))))) (db_cons (ds_expr (dcall c_need_row hr passD (da_cons (dv 2) (da_nil)))) (db_cons (ds_if (dt_cmp (dop_eq rfl hr.units) (de_callB dc_len (by rfl) T.b_len (by decide +kernel) (da_cons (de_fld rfl (dv 0) T.cl_Sheet T.na_Sheet_rows) (da_nil)) (fun a b => pe_callB a (by rfl) T.b_len (by decide +kernel) b)) (de_globI rfl T.k_MOST_ROWS.choose_spec) (nomark _)) (db_one (ds_raise rfl rfl takesD T.ex_BadRow (by rfl))) (db_nil)) (db_cons (ds_set sc_Sheet_put.nd rfl (by first | exact Or.inl rfl | exact Or.inr rfl) (de_listRange false rfl (by rfl) T.b_list (by rfl) T.b_range (de_callB dc_len (by rfl) T.b_len (by decide +kernel) (da_cons (de_fld rfl (dv 0) T.cl_Sheet T.na_Sheet_rows) (da_nil)) (fun a b => pe_callB a (by rfl) T.b_len (by decide +kernel) b)))) (db_one (ds_ret (dmeth c_Sheet_turn_to (dv 0) hr passD (da_cons (de_op (dop_add false) (de_op (dop_add false) (de_sl false rfl (de_fld rfl (dv 0) T.cl_Sheet T.na_Sheet_rows) (dp_none) (dp_some (dv 1))) (de_lst false (da_cons (dv 2) (da_nil)))) (de_sl false rfl (de_fld rfl (dv 0) T.cl_Sheet T.na_Sheet_rows) (dp_some (dv 1)) (dp_none))) (da_cons (de_op (dop_add false) (de_op (dop_add false) (de_sl false rfl (dv 3) (dp_none) (dp_some (dv 1))) (de_lst false (da_cons (de_non) (da_nil)))) (de_sl false rfl (dv 3) (dp_some (dv 1)) (dp_none))) (da_nil))))))))), M, F.binds (ps := ["self", "number", "row"]) fun _ _ _ _ _ _ us hl => match us, hl with | [_, _, _], _ => rfl⟩, T.cl_Sheet⟩
theorem sc_Sheet_take : FnScope ["self", "number", "every"] ["self", "number"] (defScope s_Sheet_take) := ⟨rfl, rfl, rfl, by decide +kernel, rfl, by decide +kernel, by decide +kernel⟩
theorem ok_Sheet_take {m_Sheet_need_number m_Sheet_turn_to : FV} {f : Addr} {fd : FuncData} (F : Fun W.K "take" "Sheet.take" s_Sheet_take f fd) (M : Meth W.K (W.cls 13) "take" f) (T : Txt W mg) (c_Sheet_need_number : Mt P w W mg base 13 "need_number" 2 3 m_Sheet_need_number) (c_Sheet_turn_to : Mt P w W mg base 13 "turn_to" 5 3 m_Sheet_turn_to) : Mt P w W mg base 13 "take" (6) 2 (funD 3 (d_Sheet_take m_Sheet_need_number m_Sheet_turn_to)) :=
  ⟨⟨f, fd, ["self", "number"], fnE F sc_Sheet_take rfl rfl fun cdv A outer sh H E hr => db_cons (ds_expr (dmeth c_Sheet_need_number (dv 0) hr passD (da_cons (dv 1) (da_cons (de_op dop_sub (de_callB dc_len (by rfl) T.b_len (by decide +kernel) (da_cons (de_fld rfl (dv 0) T.cl_Sheet T.na_Sheet_rows) (da_nil)) (fun a b => pe_callB a (by rfl) T.b_len (by decide +kernel) b)) (de_int)) (da_nil))))) (db_cons (ds_if (dt_cmp (dop_eq rfl hr.units) (de_callB dc_len (by rfl) T.b_len (by decide +kernel) (da_cons (de_fld rfl (dv 0) T.cl_Sheet T.na_Sheet_rows) (da_nil)) (fun a b => pe_callB a (by rfl) T.b_len (by decide +kernel) b)) (de_int) (nomark _)) (db_one (ds_raise rfl rfl takesD T.ex_BadRow (by rfl))) (db_nil)) (db_cons (ds_set sc_Sheet_take.nd rfl (by first | exact Or.inl rfl | exact Or.inr rfl) (de_listRange false rfl (by rfl) T.b_list (by rfl) T.b_range (de_callB dc_len (by rfl) T.b_len (by decide +kernel) (da_cons (de_fld rfl (dv 0) T.cl_Sheet T.na_Sheet_rows) (da_nil)) (fun a b => pe_callB a (by rfl) T.b_len (by decide +kernel) b)))) (db_one (ds_ret (dmeth c_Sheet_turn_to (dv 0) hr passD (da_cons (de_op (dop_add false) (de_sl false rfl (de_fld rfl (dv 0) T.cl_Sheet T.na_Sheet_rows) (dp_none) (dp_some (dv 1))) (de_sl false rfl (de_fld rfl (dv 0) T.cl_Sheet T.na_Sheet_rows) (dp_some (de_op (dop_add false) (dv 1) (de_int))) (dp_none))) (da_cons (de_op (dop_add false) (de_sl false rfl (dv 2) (dp_none) (dp_some (dv 1))) (de_sl false rfl (dv 2) (dp_some (de_op (dop_add false) (dv 1) (de_int))) (dp_none))) (da_nil)))))))), M, F.binds (ps := ["self", "number"]) fun _ _ _ _ _ _ us hl => match us, hl with | [_, _], _ => rfl⟩, T.cl_Sheet⟩
theorem sc_Sheet_change : FnScope ["self", "number", "row", "every", "later"] ["self", "number", "row"] (defScope s_Sheet_change) := ⟨rfl, rfl, rfl, by decide +kernel, rfl, by decide +kernel, by decide +kernel⟩
theorem ok_Sheet_change {m_Sheet_need_number m_need_row m_Sheet_turn_to : FV} {f : Addr} {fd : FuncData} (F : Fun W.K "change" "Sheet.change" s_Sheet_change f fd) (M : Meth W.K (W.cls 13) "change" f) (T : Txt W mg) (c_Sheet_need_number : Mt P w W mg base 13 "need_number" 2 3 m_Sheet_need_number) (c_need_row : Fn P w W mg base "need_row" 4 1 m_need_row) (c_Sheet_turn_to : Mt P w W mg base 13 "turn_to" 5 3 m_Sheet_turn_to) : Mt P w W mg base 13 "change" (6) 3 (funD 5 (d_Sheet_change m_Sheet_need_number m_need_row m_Sheet_turn_to)) :=
  ⟨⟨f, fd, ["self", "number", "row"], fnE F sc_Sheet_change rfl rfl fun cdv A outer sh H E hr => db_cons (ds_expr (dmeth c_Sheet_need_number (dv 0) hr passD (da_cons (dv 1) (da_cons (de_op dop_sub (de_callB dc_len (by rfl) T.b_len (by decide +kernel) (da_cons (de_fld rfl (dv 0) T.cl_Sheet T.na_Sheet_rows) (da_nil)) (fun a b => pe_callB a (by rfl) T.b_len (by decide +kernel) b)) (de_int)) (da_nil))))) (db_cons (ds_expr (dcall c_need_row hr passD (da_cons (dv 2) (da_nil)))) (db_cons (ds_set sc_Sheet_change.nd rfl (by first | exact Or.inl rfl | exact Or.inr rfl) (de_listRange false rfl (by rfl) T.b_list (by rfl) T.b_range (de_callB dc_len (by rfl) T.b_len (by decide +kernel) (da_cons (de_fld rfl (dv 0) T.cl_Sheet T.na_Sheet_rows) (da_nil)) (fun a b => pe_callB a (by rfl) T.b_len (by decide +kernel) b)))) (db_cons (ds_set sc_Sheet_change.nd rfl (by first | exact Or.inl rfl | exact Or.inr rfl) (de_op (dop_add false) (de_op (dop_add false) (de_sl false rfl (de_fld rfl (dv 0) T.cl_Sheet T.na_Sheet_rows) (dp_none) (dp_some (dv 1))) (de_lst false (da_cons (dv 2) (da_nil)))) (de_sl false rfl (de_fld rfl (dv 0) T.cl_Sheet T.na_Sheet_rows) (dp_some (de_op (dop_add false) (dv 1) (de_int))) (dp_none)))) (db_one (ds_ret (dmeth c_Sheet_turn_to (dv 0) hr passD (da_cons (dv 4) (da_cons (de_op (dop_add false) (de_op (dop_add false) (de_sl false rfl (dv 3) (dp_none) (dp_some (dv 1))) (de_lst false (da_cons (de_non) (da_nil)))) (de_sl false rfl (dv 3) (dp_some (de_op (dop_add false) (dv 1) (de_int))) (dp_none))) (da_nil))))))))), M, F.binds (ps := ["self", "number", "row"]) fun _ _ _ _ _ _ us hl => match us, hl with | [_, _, _], _ => rfl⟩, T.cl_Sheet⟩
theorem sc_Sheet_need_place : FnScope ["self", "number", "cell", "place"] ["self", "number", "cell", "place"] (defScope s_Sheet_need_place) := ⟨rfl, rfl, rfl, by decide +kernel, rfl, by decide +kernel, by decide +kernel⟩
theorem ok_Sheet_need_place {m_Sheet_need_number m_is_number : FV} {f : Addr} {fd : FuncData} (F : Fun W.K "need_place" "Sheet.need_place" s_Sheet_need_place f fd) (M : Meth W.K (W.cls 13) "need_place" f) (T : Txt W mg) (c_Sheet_need_number : Mt P w W mg base 13 "need_number" 2 3 m_Sheet_need_number) (c_is_number : Fn P w W mg base "is_number" 1 3 m_is_number) : Mt P w W mg base 13 "need_place" (3) 4 (funD 4 (d_Sheet_need_place m_Sheet_need_number m_is_number)) :=
  ⟨⟨f, fd, ["self", "number", "cell", "place"], fnE F sc_Sheet_need_place rfl rfl fun cdv A outer sh H E hr => db_cons (ds_expr (dmeth c_Sheet_need_number (dv 0) hr passD (da_cons (dv 1) (da_cons (de_op dop_sub (de_callB dc_len (by rfl) T.b_len (by decide +kernel) (da_cons (de_fld rfl (dv 0) T.cl_Sheet T.na_Sheet_rows) (da_nil)) (fun a b => pe_callB a (by rfl) T.b_len (by decide +kernel) b)) (de_int)) (da_nil))))) (db_cons (ds_if (dt_not (dt_val (dcall c_is_number hr passD (da_cons (dv 2) (da_cons (de_int) (da_cons (de_op dop_sub (de_callB dc_len (by rfl) T.b_len (by decide +kernel) (da_cons (de_ix rfl (de_fld rfl (dv 0) T.cl_Sheet T.na_Sheet_rows) (dv 1) (fun _ _ => rfl)) (da_nil)) (fun a b => pe_callB a (by rfl) T.b_len (by decide +kernel) b)) (de_int)) (da_nil))))))) (db_one (ds_raise rfl rfl takesD T.ex_BadCell (by rfl))) (db_nil)) (db_one (ds_if (dt_not (dt_val (dcall c_is_number hr passD (da_cons (dv 3) (da_cons (de_int) (da_cons (de_callB dc_len (by rfl) T.b_len (by decide +kernel) (da_cons (de_ix rfl (de_ix rfl (de_fld rfl (dv 0) T.cl_Sheet T.na_Sheet_rows) (dv 1) (fun _ _ => rfl)) (dv 2) (fun _ _ => rfl)) (da_nil)) (fun a b => pe_callB a (by rfl) T.b_len (by decide +kernel) b)) (da_nil))))))) (db_one (ds_raise rfl rfl takesD T.ex_BadCell (by rfl))) (db_nil)))), M, F.binds (ps := ["self", "number", "cell", "place"]) fun _ _ _ _ _ _ us hl => match us, hl with | [_, _, _, _], _ => rfl⟩, T.cl_Sheet⟩
theorem sc_Sheet_strike : FnScope ["self", "number", "cell", "place", "sign", "row", "text", "some", "one"] ["self", "number", "cell", "place", "sign"] (defScope s_Sheet_strike) := ⟨rfl, rfl, rfl, by decide +kernel, rfl, by decide +kernel, by decide +kernel⟩
theorem ok_Sheet_strike {m_Sheet_need_place m_is_sign m_is_cell m_Sheet_change : FV} {f : Addr} {fd : FuncData} (F : Fun W.K "strike" "Sheet.strike" s_Sheet_strike f fd) (M : Meth W.K (W.cls 13) "strike" f) (T : Txt W mg) (c_Sheet_need_place : Mt P w W mg base 13 "need_place" 3 4 m_Sheet_need_place) (c_is_sign : Fn P w W mg base "is_sign" 1 1 m_is_sign) (c_is_cell : Fn P w W mg base "is_cell" 2 1 m_is_cell) (c_Sheet_change : Mt P w W mg base 13 "change" 6 3 m_Sheet_change) : Mt P w W mg base 13 "strike" (7) 5 (funD 9 (d_Sheet_strike_k10 m_Sheet_need_place m_is_sign m_is_cell m_Sheet_change)) :=
  ⟨⟨f, fd, ["self", "number", "cell", "place", "sign"], fnE F sc_Sheet_strike rfl rfl fun cdv A outer sh H E hr => db_cons (ds_expr (dmeth c_Sheet_need_place (dv 0) hr passD (da_cons (dv 1) (da_cons (dv 2) (da_cons (dv 3) (da_nil)))))) (db_cons (ds_set sc_Sheet_strike.nd rfl (by first | exact Or.inl rfl | exact Or.inr rfl) (de_ix rfl (de_fld rfl (dv 0) T.cl_Sheet T.na_Sheet_rows) (dv 1) (fun _ _ => rfl))) (db_cons (ds_set sc_Sheet_strike.nd rfl (by first | exact Or.inl rfl | exact Or.inr rfl) (de_ix rfl (dv 5) (dv 2) (fun _ _ => rfl))) (db_cons (ds_if (dt_cmp (dop_eq rfl hr.units) (dv 4) (de_globS rfl T.k_TAB.choose_spec (by decide +kernel) (by decide +kernel)) (nomark _)) (db_cons (ds_if (dt_cmp (dop_eq rfl hr.units) (de_callB dc_len (by rfl) T.b_len (by decide +kernel) (da_cons (dv 5) (da_nil)) (fun a b => pe_callB a (by rfl) T.b_len (by decide +kernel) b)) (de_globI rfl T.k_MOST_CELLS.choose_spec) (nomark _)) (db_one (ds_raise rfl rfl takesD T.ex_BadCell (by rfl))) (db_nil)) (db_one (ds_set sc_Sheet_strike.nd rfl (by first | exact Or.inl rfl | exact Or.inr rfl) (de_tup (da_cons (de_sl false rfl (dv 6) (dp_none) (dp_some (dv 3))) (da_cons (de_sl false rfl (dv 6) (dp_some (dv 3)) (dp_none)) (da_nil))))))) (db_cons (ds_if (dt_w (dw_or (dt_not (dt_val (de_isinst (by simp) (dv 4) (pe_bltn (by rfl) T.b_str (by decide +kernel) rfl) (fun a b => pe_callB a (by rfl) T.b_isinstance (by decide +kernel) b) (fun p => pa_cons p (pa_cons (pe_bltn (by rfl) T.b_str (by decide +kernel) rfl) pa_nil))))) (dw_or (dt_cmp (dop_ne rfl hr.units) (de_callB dc_len (by rfl) T.b_len (by decide +kernel) (da_cons (dv 4) (da_nil)) (fun a b => pe_callB a (by rfl) T.b_len (by decide +kernel) b)) (de_int) (nomark _)) (dw_or1 (dt_not (dt_val (dcall c_is_sign hr passD (da_cons (dv 4) (da_nil))))))))) (db_one (ds_raise rfl rfl takesD T.ex_BadCell (by rfl))) (db_nil)) (db_one (ds_set sc_Sheet_strike.nd rfl (by first | exact Or.inl rfl | exact Or.inr rfl) (de_tup (da_cons (de_op (dop_add false) (de_op (dop_add false) (de_sl false rfl (dv 6) (dp_none) (dp_some (dv 3))) (dv 4)) (de_sl false rfl (dv 6) (dp_some (dv 3)) (dp_none))) (da_nil))))))) (db_cons (ds_if (dt_cmp (dop_ne rfl hr.units) (de_lc false rfl sc_Sheet_strike.nd (di_seq (dv 7)) (by exact blkOk_by (N := ["self", "number", "cell", "place", "sign", "row", "text", "some", "one"]) (sc := defScope s_Sheet_strike) (own := [("one", 8)]) (by decide +kernel)) rfl (by decide) (fun _ _ _ _ _ => tg_one sc_Sheet_strike.nd rfl (by first | exact Or.inl rfl | exact Or.inr rfl)) (fun _ _ _ _ _ => dts_one (dt_not (dt_val (dcall c_is_cell hr passL (da_cons (dv 8) (da_nil)))))) (fun _ _ _ _ _ => dv 8)) (de_lst false (da_nil)) (nomark _)) (db_one (ds_raise rfl rfl takesD T.ex_BadCell (by rfl))) (db_nil)) (db_one (ds_ret (dmeth c_Sheet_change (dv 0) hr passD (da_cons (dv 1) (da_cons (de_op (dop_add false) (de_op (dop_add false) (de_sl false rfl (dv 5) (dp_none) (dp_some (dv 2))) (dv 7)) (de_sl false rfl (dv 5) (dp_some (de_op (dop_add false) (dv 2) (de_int))) (dp_none))) (da_nil)))))))))), M, F.binds (ps := ["self", "number", "cell", "place", "sign"]) fun _ _ _ _ _ _ us hl => match us, hl with | [_, _, _, _, _], _ => rfl⟩, T.cl_Sheet⟩
theorem sc_Sheet_erase : FnScope ["self", "number", "cell", "place", "row", "text", "new", "rest"] ["self", "number", "cell", "place"] (defScope s_Sheet_erase) := ⟨rfl, rfl, rfl, by decide +kernel, rfl, by decide +kernel, by decide +kernel⟩
theorem ok_Sheet_erase {m_Sheet_need_place m_is_cell m_Sheet_change : FV} {f : Addr} {fd : FuncData} (F : Fun W.K "erase" "Sheet.erase" s_Sheet_erase f fd) (M : Meth W.K (W.cls 13) "erase" f) (T : Txt W mg) (c_Sheet_need_place : Mt P w W mg base 13 "need_place" 3 4 m_Sheet_need_place) (c_is_cell : Fn P w W mg base "is_cell" 2 1 m_is_cell) (c_Sheet_change : Mt P w W mg base 13 "change" 6 3 m_Sheet_change) : Mt P w W mg base 13 "erase" (7) 4 (funD 8 (d_Sheet_erase m_Sheet_need_place m_is_cell m_Sheet_change)) :=
  ⟨⟨f, fd, ["self", "number", "cell", "place"], fnE F sc_Sheet_erase rfl rfl fun cdv A outer sh H E hr => db_cons (ds_expr (dmeth c_Sheet_need_place (dv 0) hr passD (da_cons (dv 1) (da_cons (dv 2) (da_cons (dv 3) (da_nil)))))) (db_cons (ds_set sc_Sheet_erase.nd rfl (by first | exact Or.inl rfl | exact Or.inr rfl) (de_ix rfl (de_fld rfl (dv 0) T.cl_Sheet T.na_Sheet_rows) (dv 1) (fun _ _ => rfl))) (db_cons (ds_set sc_Sheet_erase.nd rfl (by first | exact Or.inl rfl | exact Or.inr rfl) (de_ix rfl (dv 4) (dv 2) (fun _ _ => rfl))) (db_cons (ds_if (dt_cmp dop_lt (dv 3) (de_callB dc_len (by rfl) T.b_len (by decide +kernel) (da_cons (dv 5) (da_nil)) (fun a b => pe_callB a (by rfl) T.b_len (by decide +kernel) b)) (nomark _)) (db_one (ds_par rfl sc_Sheet_erase.nd rfl rfl (by decide) rfl rfl (da_cons (de_op (dop_add false) (de_sl false rfl (dv 5) (dp_none) (dp_some (dv 3))) (de_sl false rfl (dv 5) (dp_some (de_op (dop_add false) (dv 3) (de_int))) (dp_none))) (da_cons (de_sl false rfl (dv 4) (dp_some (de_op (dop_add false) (dv 2) (de_int))) (dp_none)) (da_nil))) (by rfl))) (db_cons (ds_if (dt_cmp (dop_eq rfl hr.units) (dv 2) (de_op dop_sub (de_callB dc_len (by rfl) T.b_len (by decide +kernel) (da_cons (dv 4) (da_nil)) (fun a b => pe_callB a (by rfl) T.b_len (by decide +kernel) b)) (de_int)) (nomark _)) (db_one (ds_raise rfl rfl takesD T.ex_BadCell (by rfl))) (db_nil)) (db_one (ds_par rfl sc_Sheet_erase.nd rfl rfl (by decide) rfl rfl (da_cons (de_op (dop_add false) (dv 5) (de_ix rfl (dv 4) (de_op (dop_add false) (dv 2) (de_int)) (fun _ _ => rfl))) (da_cons (de_sl false rfl (dv 4) (dp_some (de_op (dop_add false) (dv 2) (de_int))) (dp_none)) (da_nil))) (by rfl))))) (db_cons (ds_if (dt_not (dt_val (dcall c_is_cell hr passD (da_cons (dv 6) (da_nil))))) (db_one (ds_raise rfl rfl takesD T.ex_BadCell (by rfl))) (db_nil)) (db_one (ds_ret (dmeth c_Sheet_change (dv 0) hr passD (da_cons (dv 1) (da_cons (de_op (dop_add false) (de_op (dop_add false) (de_sl false rfl (dv 4) (dp_none) (dp_some (dv 2))) (de_tup (da_cons (dv 6) (da_nil)))) (dv 7)) (da_nil)))))))))), M, F.binds (ps := ["self", "number", "cell", "place"]) fun _ _ _ _ _ _ us hl => match us, hl with | [_, _, _, _], _ => rfl⟩, T.cl_Sheet⟩
theorem sc_Sheet_part : FnScope ["self", "number", "cell", "place", "row", "some", "every", "later"] ["self", "number", "cell", "place"] (defScope s_Sheet_part) := ⟨rfl, rfl, rfl, by decide +kernel, rfl, by decide +kernel, by decide +kernel⟩
theorem ok_Sheet_part {m_Sheet_need_place m_Sheet_turn_to : FV} {f : Addr} {fd : FuncData} (F : Fun W.K "part" "Sheet.part" s_Sheet_part f fd) (M : Meth W.K (W.cls 13) "part" f) (T : Txt W mg) (c_Sheet_need_place : Mt P w W mg base 13 "need_place" 3 4 m_Sheet_need_place) (c_Sheet_turn_to : Mt P w W mg base 13 "turn_to" 5 3 m_Sheet_turn_to) : Mt P w W mg base 13 "part" (6) 4 (funD 8 (d_Sheet_part m_Sheet_need_place m_Sheet_turn_to)) :=
  ⟨⟨f, fd, ["self", "number", "cell", "place"], fnE F sc_Sheet_part rfl rfl fun cdv A outer sh H E hr => db_cons (ds_expr (dmeth c_Sheet_need_place (dv 0) hr passD (da_cons (dv 1) (da_cons (dv 2) (da_cons (dv 3) (da_nil)))))) (db_cons (ds_if (dt_cmp (dop_eq rfl hr.units) (de_callB dc_len (by rfl) T.b_len (by decide +kernel) (da_cons (de_fld rfl (dv 0) T.cl_Sheet T.na_Sheet_rows) (da_nil)) (fun a b => pe_callB a (by rfl) T.b_len (by decide +kernel) b)) (de_globI rfl T.k_MOST_ROWS.choose_spec) (nomark _)) (db_one (ds_raise rfl rfl takesD T.ex_BadRow (by rfl))) (db_nil)) (db_cons (ds_set sc_Sheet_part.nd rfl (by first | exact Or.inl rfl | exact Or.inr rfl) (de_ix rfl (de_fld rfl (dv 0) T.cl_Sheet T.na_Sheet_rows) (dv 1) (fun _ _ => rfl))) (db_cons (ds_set sc_Sheet_part.nd rfl (by first | exact Or.inl rfl | exact Or.inr rfl) (de_lst false (da_cons (de_op (dop_add false) (de_sl false rfl (dv 4) (dp_none) (dp_some (dv 2))) (de_tup (da_cons (de_sl false rfl (de_ix rfl (dv 4) (dv 2) (fun _ _ => rfl)) (dp_none) (dp_some (dv 3))) (da_nil)))) (da_cons (de_op (dop_add false) (de_tup (da_cons (de_sl false rfl (de_ix rfl (dv 4) (dv 2) (fun _ _ => rfl)) (dp_some (dv 3)) (dp_none)) (da_nil))) (de_sl false rfl (dv 4) (dp_some (de_op (dop_add false) (dv 2) (de_int))) (dp_none))) (da_nil))))) (db_cons (ds_set sc_Sheet_part.nd rfl (by first | exact Or.inl rfl | exact Or.inr rfl) (de_listRange false rfl (by rfl) T.b_list (by rfl) T.b_range (de_callB dc_len (by rfl) T.b_len (by decide +kernel) (da_cons (de_fld rfl (dv 0) T.cl_Sheet T.na_Sheet_rows) (da_nil)) (fun a b => pe_callB a (by rfl) T.b_len (by decide +kernel) b)))) (db_cons (ds_set sc_Sheet_part.nd rfl (by first | exact Or.inl rfl | exact Or.inr rfl) (de_op (dop_add false) (de_op (dop_add false) (de_sl false rfl (de_fld rfl (dv 0) T.cl_Sheet T.na_Sheet_rows) (dp_none) (dp_some (dv 1))) (dv 5)) (de_sl false rfl (de_fld rfl (dv 0) T.cl_Sheet T.na_Sheet_rows) (dp_some (de_op (dop_add false) (dv 1) (de_int))) (dp_none)))) (db_one (ds_ret (dmeth c_Sheet_turn_to (dv 0) hr passD (da_cons (dv 7) (da_cons (de_op (dop_add false) (de_op (dop_add false) (de_sl false rfl (dv 6) (dp_none) (dp_some (dv 1))) (de_lst false (da_cons (de_non) (da_cons (de_non) (da_nil))))) (de_sl false rfl (dv 6) (dp_some (de_op (dop_add false) (dv 1) (de_int))) (dp_none))) (da_nil))))))))))), M, F.binds (ps := ["self", "number", "cell", "place"]) fun _ _ _ _ _ _ us hl => match us, hl with | [_, _, _, _], _ => rfl⟩, T.cl_Sheet⟩
theorem sc_Sheet_unite : FnScope ["self", "number", "row", "more", "text", "every", "later"] ["self", "number"] (defScope s_Sheet_unite) := ⟨rfl, rfl, rfl, by decide +kernel, rfl, by decide +kernel, by decide +kernel⟩
theorem ok_Sheet_unite {m_Sheet_need_number m_is_cell m_Sheet_turn_to : FV} {f : Addr} {fd : FuncData} (F : Fun W.K "unite" "Sheet.unite" s_Sheet_unite f fd) (M : Meth W.K (W.cls 13) "unite" f) (T : Txt W mg) (c_Sheet_need_number : Mt P w W mg base 13 "need_number" 2 3 m_Sheet_need_number) (c_is_cell : Fn P w W mg base "is_cell" 2 1 m_is_cell) (c_Sheet_turn_to : Mt P w W mg base 13 "turn_to" 5 3 m_Sheet_turn_to) : Mt P w W mg base 13 "unite" (6) 2 (funD 7 (d_Sheet_unite m_Sheet_need_number m_is_cell m_Sheet_turn_to)) :=
  ⟨⟨f, fd, ["self", "number"], fnE F sc_Sheet_unite rfl rfl fun cdv A outer sh H E hr => db_cons (ds_expr (dmeth c_Sheet_need_number (dv 0) hr passD (da_cons (dv 1) (da_cons (de_op dop_sub (de_callB dc_len (by rfl) T.b_len (by decide +kernel) (da_cons (de_fld rfl (dv 0) T.cl_Sheet T.na_Sheet_rows) (da_nil)) (fun a b => pe_callB a (by rfl) T.b_len (by decide +kernel) b)) (de_int)) (da_nil))))) (db_cons (ds_par rfl sc_Sheet_unite.nd rfl rfl (by decide) rfl rfl (da_cons (de_ix rfl (de_fld rfl (dv 0) T.cl_Sheet T.na_Sheet_rows) (dv 1) (fun _ _ => rfl)) (da_cons (de_ix rfl (de_fld rfl (dv 0) T.cl_Sheet T.na_Sheet_rows) (de_op (dop_add false) (dv 1) (de_int)) (fun _ _ => rfl)) (da_nil))) (by rfl)) (db_cons (ds_set sc_Sheet_unite.nd rfl (by first | exact Or.inl rfl | exact Or.inr rfl) (de_op (dop_add false) (de_ix rfl (dv 2) (de_neg (de_int)) (fun _ _ => rfl)) (de_ix rfl (dv 3) (de_int) (fun _ _ => rfl)))) (db_cons (ds_if (dt_w (dw_or (dt_cmp dop_gt (de_op dop_sub (de_op (dop_add false) (de_callB dc_len (by rfl) T.b_len (by decide +kernel) (da_cons (dv 2) (da_nil)) (fun a b => pe_callB a (by rfl) T.b_len (by decide +kernel) b)) (de_callB dc_len (by rfl) T.b_len (by decide +kernel) (da_cons (dv 3) (da_nil)) (fun a b => pe_callB a (by rfl) T.b_len (by decide +kernel) b))) (de_int)) (de_globI rfl T.k_MOST_CELLS.choose_spec) (nomark _)) (dw_or1 (dt_not (dt_val (dcall c_is_cell hr passD (da_cons (dv 4) (da_nil)))))))) (db_one (ds_raise rfl rfl takesD T.ex_BadCell (by rfl))) (db_nil)) (db_cons (ds_set sc_Sheet_unite.nd rfl (by first | exact Or.inl rfl | exact Or.inr rfl) (de_listRange false rfl (by rfl) T.b_list (by rfl) T.b_range (de_callB dc_len (by rfl) T.b_len (by decide +kernel) (da_cons (de_fld rfl (dv 0) T.cl_Sheet T.na_Sheet_rows) (da_nil)) (fun a b => pe_callB a (by rfl) T.b_len (by decide +kernel) b)))) (db_cons (ds_set sc_Sheet_unite.nd rfl (by first | exact Or.inl rfl | exact Or.inr rfl) (de_op (dop_add false) (de_op (dop_add false) (de_sl false rfl (de_fld rfl (dv 0) T.cl_Sheet T.na_Sheet_rows) (dp_none) (dp_some (dv 1))) (de_lst false (da_cons (de_op (dop_add false) (de_op (dop_add false) (de_sl false rfl (dv 2) (dp_none) (dp_some (de_neg (de_int)))) (de_tup (da_cons (dv 4) (da_nil)))) (de_sl false rfl (dv 3) (dp_some (de_int)) (dp_none))) (da_nil)))) (de_sl false rfl (de_fld rfl (dv 0) T.cl_Sheet T.na_Sheet_rows) (dp_some (de_op (dop_add false) (dv 1) (de_int))) (dp_none)))) (db_one (ds_ret (dmeth c_Sheet_turn_to (dv 0) hr passD (da_cons (dv 6) (da_cons (de_op (dop_add false) (de_op (dop_add false) (de_sl false rfl (dv 5) (dp_none) (dp_some (dv 1))) (de_lst false (da_cons (de_non) (da_nil)))) (de_sl false rfl (dv 5) (dp_some (de_op (dop_add false) (dv 1) (de_int))) (dp_none))) (da_nil))))))))))), M, F.binds (ps := ["self", "number"]) fun _ _ _ _ _ _ us hl => match us, hl with | [_, _], _ => rfl⟩, T.cl_Sheet⟩
theorem sc_Sheet_back : FnScope ["self"] ["self"] (defScope s_Sheet_back) := ⟨rfl, rfl, rfl, by decide +kernel, rfl, by decide +kernel, by decide +kernel⟩
theorem ok_Sheet_back {m_begins_by m_all_stretches : FV} {f : Addr} {fd : FuncData} (F : Fun W.K "back" "Sheet.back" s_Sheet_back f fd) (M : Meth W.K (W.cls 13) "back" f) (T : Txt W mg) (c_begins_by : Fn P w W mg base "begins_by" 3 3 m_begins_by) (c_all_stretches : Fn P w W mg base "all_stretches" 4 1 m_all_stretches) : Mt P w W mg base 13 "back" (5) 1 (funD 1 (d_Sheet_back m_begins_by m_all_stretches)) :=
  ⟨⟨f, fd, ["self"], fnE F sc_Sheet_back rfl rfl fun cdv A outer sh H E hr => db_cons (ds_if (dt_cmp (dop_eq rfl hr.units) (de_fld rfl (dv 0) T.cl_Sheet T.na_Sheet_past) (de_lst false (da_nil)) (nomark _)) (db_one (ds_ret (de_bl))) (db_nil)) (db_cons (ds_fld rfl (dv 0) (de_mt0 PySem.F.plainAttrs_list PySem.F.slot_list_pop PySem.F.type_list_pop (dm_pop) (de_fld rfl (dv 0) T.cl_Sheet T.na_Sheet_past) (fun a b => pe_bm0 PySem.F.plainAttrs_list PySem.F.slot_list_pop PySem.F.type_list_pop a b)) T.cl_Sheet T.na_Sheet_rows) (db_cons (ds_fld rfl (dv 0) (dcall c_begins_by hr passD (da_cons (de_fld rfl (dv 0) T.cl_Sheet T.na_Sheet_rows) (da_cons (de_fld rfl (dv 0) T.cl_Sheet T.na_Sheet_style) (da_cons (dcall c_all_stretches hr passD (da_cons (de_fld rfl (dv 0) T.cl_Sheet T.na_Sheet_rows) (da_nil))) (da_nil))))) T.cl_Sheet T.na_Sheet_lefts) (db_one (ds_ret (de_bl))))), M, F.binds (ps := ["self"]) fun _ _ _ _ _ _ us hl => match us, hl with | [_], _ => rfl⟩, T.cl_Sheet⟩
theorem sc_law_do : FnScope ["_law_sheet", "_law_deed", "_law_word"] ["_law_sheet", "_law_deed"] (defScope s_law_do) := ⟨rfl, rfl, rfl, by decide +kernel, rfl, by decide +kernel, by decide +kernel⟩
theorem ok_law_do {m_Sheet_put m_Sheet_take m_Sheet_change m_Sheet_strike_k10 m_Sheet_erase m_Sheet_part m_Sheet_unite m_Sheet_back : FV} {f : Addr} {fd : FuncData} (F : Fun W.K "_law_do" "_law_do" s_law_do f fd) (m : mg "_law_do" = some (.ref f)) (T : Txt W mg) (c_Sheet_put : Mt P w W mg base 13 "put" 6 3 m_Sheet_put) (c_Sheet_take : Mt P w W mg base 13 "take" 6 2 m_Sheet_take) (c_Sheet_change : Mt P w W mg base 13 "change" 6 3 m_Sheet_change) (c_Sheet_strike : Mt P w W mg base 13 "strike" 7 5 m_Sheet_strike_k10) (c_Sheet_erase : Mt P w W mg base 13 "erase" 7 4 m_Sheet_erase) (c_Sheet_part : Mt P w W mg base 13 "part" 6 4 m_Sheet_part) (c_Sheet_unite : Mt P w W mg base 13 "unite" 6 2 m_Sheet_unite) (c_Sheet_back : Mt P w W mg base 13 "back" 5 1 m_Sheet_back) : Fn P w W mg base "_law_do" (8) 2 (funD 3 (d_law_do m_Sheet_put m_Sheet_take m_Sheet_change m_Sheet_strike_k10 m_Sheet_erase m_Sheet_part m_Sheet_unite m_Sheet_back)) :=
  ⟨f, fd, ["_law_sheet", "_law_deed"], fnE F sc_law_do rfl rfl fun cdv A outer sh H E hr => db_cons (ds_set sc_law_do.nd rfl (by first | exact Or.inl rfl | exact Or.inr rfl) (de_ix rfl (dv 1) (de_int) (fun _ _ => rfl))) (db_cons (ds_if (dt_cmp (dop_eq rfl hr.units) (dv 2) (de_str (by decide +kernel) (by decide +kernel)) (nomark _)) (db_one (ds_ret (dmeth c_Sheet_put (dv 0) hr passD (da_cons (de_ix rfl (dv 1) (de_int) (fun _ _ => rfl)) (da_cons (de_ix rfl (dv 1) (de_int) (fun _ _ => rfl)) (da_nil)))))) (db_nil)) (db_cons (ds_if (dt_cmp (dop_eq rfl hr.units) (dv 2) (de_str (by decide +kernel) (by decide +kernel)) (nomark _)) (db_one (ds_ret (dmeth c_Sheet_take (dv 0) hr passD (da_cons (de_ix rfl (dv 1) (de_int) (fun _ _ => rfl)) (da_nil))))) (db_nil)) (db_cons (ds_if (dt_cmp (dop_eq rfl hr.units) (dv 2) (de_str (by decide +kernel) (by decide +kernel)) (nomark _)) (db_one (ds_ret (dmeth c_Sheet_change (dv 0) hr passD (da_cons (de_ix rfl (dv 1) (de_int) (fun _ _ => rfl)) (da_cons (de_ix rfl (dv 1) (de_int) (fun _ _ => rfl)) (da_nil)))))) (db_nil)) (db_cons (ds_if (dt_cmp (dop_eq rfl hr.units) (dv 2) (de_str (by decide +kernel) (by decide +kernel)) (nomark _)) (db_one (ds_ret (dmeth c_Sheet_strike (dv 0) hr passD (da_cons (de_ix rfl (dv 1) (de_int) (fun _ _ => rfl)) (da_cons (de_ix rfl (dv 1) (de_int) (fun _ _ => rfl)) (da_cons (de_ix rfl (dv 1) (de_int) (fun _ _ => rfl)) (da_cons (de_ix rfl (dv 1) (de_int) (fun _ _ => rfl)) (da_nil)))))))) (db_nil)) (db_cons (ds_if (dt_cmp (dop_eq rfl hr.units) (dv 2) (de_str (by decide +kernel) (by decide +kernel)) (nomark _)) (db_one (ds_ret (dmeth c_Sheet_erase (dv 0) hr passD (da_cons (de_ix rfl (dv 1) (de_int) (fun _ _ => rfl)) (da_cons (de_ix rfl (dv 1) (de_int) (fun _ _ => rfl)) (da_cons (de_ix rfl (dv 1) (de_int) (fun _ _ => rfl)) (da_nil))))))) (db_nil)) (db_cons (ds_if (dt_cmp (dop_eq rfl hr.units) (dv 2) (de_str (by decide +kernel) (by decide +kernel)) (nomark _)) (db_one (ds_ret (dmeth c_Sheet_part (dv 0) hr passD (da_cons (de_ix rfl (dv 1) (de_int) (fun _ _ => rfl)) (da_cons (de_ix rfl (dv 1) (de_int) (fun _ _ => rfl)) (da_cons (de_ix rfl (dv 1) (de_int) (fun _ _ => rfl)) (da_nil))))))) (db_nil)) (db_one (ds_ret (de_if (dt_cmp (dop_eq rfl hr.units) (dv 2) (de_str (by decide +kernel) (by decide +kernel)) (nomark _)) (dmeth c_Sheet_unite (dv 0) hr passD (da_cons (de_ix rfl (dv 1) (de_int) (fun _ _ => rfl)) (da_nil))) (dmeth0 c_Sheet_back (dv 0) hr passD)))))))))), m, F.kp, F.binds (ps := ["_law_sheet", "_law_deed"]) fun _ _ _ _ _ _ us hl => match us, hl with | [_, _], _ => rfl⟩
theorem sc_law_told : FnScope ["_law_sheet", "_law_deed", "_law_found"] ["_law_sheet", "_law_deed"] (defScope s_law_told) := ⟨rfl, rfl, rfl, by decide +kernel, rfl, by decide +kernel, by decide +kernel⟩
theorem ok_law_told {m_law_do : FV} {f : Addr} {fd : FuncData} (F : Fun W.K "_law_told" "_law_told" s_law_told f fd) (m : mg "_law_told" = some (.ref f)) (T : Txt W mg) (c_law_do : Fn P w W mg base "_law_do" 8 2 m_law_do) : Fn P w W mg base "_law_told" (9) 2 (funD 3 (d_law_told m_law_do)) :=
  ⟨f, fd, ["_law_sheet", "_law_deed"], fnE F sc_law_told rfl rfl fun cdv A outer sh H E hr => db_cons (ds_set sc_law_told.nd rfl (by first | exact Or.inl rfl | exact Or.inr rfl) (de_non)) (db_cons (ds_try rfl rfl rfl rfl ⟨by rfl, by decide, .inl T.g_GrowError⟩ T.ct_law_told (fun E1 pn xe hx po => db_one (ds_set sc_law_told.nd rfl (by first | exact Or.inl rfl | exact Or.inr rfl) (dcall c_law_do hr hx (da_cons (dv 0) (da_cons (dv 1) (da_nil)))))) (fun a oe pn => db_one (ds_set sc_law_told.nd rfl (by first | exact Or.inl rfl | exact Or.inr rfl) (de_str (by decide +kernel) (by decide +kernel))))) (db_one (ds_ret (dv 2)))), m, F.kp, F.binds (ps := ["_law_sheet", "_law_deed"]) fun _ _ _ _ _ _ us hl => match us, hl with | [_, _], _ => rfl⟩
theorem sc_Sheet_init : FnScope ["self", "page", "style"] ["self", "page", "style"] (defScope s_Sheet_init) := ⟨rfl, rfl, rfl, by decide +kernel, rfl, by decide +kernel, by decide +kernel⟩
theorem ok_Sheet_init {m_need_page m_need_style m_begins_by m_all_stretches : FV} {f : Addr} {fd : FuncData} (F : Fun W.K "__init__" "Sheet.__init__" s_Sheet_init f fd) (M : Mk W.K (W.cls 13) f) (m : mg "Sheet" = some (.ref (W.cls 13))) (T : Txt W mg) (c_need_page : Fn P w W mg base "need_page" 4 1 m_need_page) (c_need_style : Fn P w W mg base "need_style" 2 1 m_need_style) (c_begins_by : Fn P w W mg base "begins_by" 3 3 m_begins_by) (c_all_stretches : Fn P w W mg base "all_stretches" 4 1 m_all_stretches) : Nw P w W mg base "Sheet" 13 (5) 3 (funD 3 (d_Sheet_init m_need_page m_need_style m_begins_by m_all_stretches)) :=
  ⟨f, fd, ["self", "page", "style"], fnE F sc_Sheet_init rfl rfl fun cdv A outer sh H E hr => db_cons (ds_expr (dcall c_need_page hr passD (da_cons (dv 1) (da_nil)))) (db_cons (ds_expr (dcall c_need_style hr passD (da_cons (dv 2) (da_nil)))) (db_cons (ds_fld rfl (dv 0) (de_callTy (dc_list false) (by rfl) T.b_list (by decide +kernel) (da_cons (dv 1) (da_nil)) (fun a b => pe_callTy a (by rfl) T.b_list (by decide +kernel) b)) T.cl_Sheet T.na_Sheet_rows) (db_cons (ds_fld rfl (dv 0) (dv 2) T.cl_Sheet T.na_Sheet_style) (db_cons (ds_fld rfl (dv 0) (dcall c_begins_by hr passD (da_cons (de_fld rfl (dv 0) T.cl_Sheet T.na_Sheet_rows) (da_cons (dv 2) (da_cons (dcall c_all_stretches hr passD (da_cons (de_fld rfl (dv 0) T.cl_Sheet T.na_Sheet_rows) (da_nil))) (da_nil))))) T.cl_Sheet T.na_Sheet_lefts) (db_one (ds_fld rfl (dv 0) (de_lst true (da_nil)) T.cl_Sheet T.na_Sheet_past)))))), M, m, F.binds (ps := ["self", "page", "style"]) fun _ _ _ _ _ _ us hl => match us, hl with | [_, _, _], _ => rfl⟩
theorem sc_law : FnScope ["_law_script", "_law_box", "_law_turn", "_law_one", "_law_other", "_law_page_here", "_law_style_here", "_law_sheet", "_law_before", "_law_rows", "_law_deed", "_law_found", "_law_later", "_law_moved", "_law_row_here"] ["_law_script"] (defScope s_law) := ⟨rfl, rfl, rfl, by decide +kernel, rfl, by decide +kernel, by decide +kernel⟩
theorem ok_law {m_law_begun m_law_lines_two m_law_fits m_law_page m_law_take m_law_style m_shown m_Sheet_page m_law_drawn m_law_told m_strokes m_Sheet_init : FV} {f : Addr} {fd : FuncData} (F : Fun W.K "law" "law" s_law f fd) (T : Txt W mg) (c_law_begun : Fn P w W mg base "_law_begun" 1 1 m_law_begun) (c_law_lines_two : Fn P w W mg base "_law_lines_two" 4 1 m_law_lines_two) (c_law_fits : Fn P w W mg base "_law_fits" 5 2 m_law_fits) (c_law_page : Fn P w W mg base "_law_page" 5 2 m_law_page) (c_law_take : Fn P w W mg base "_law_take" 1 2 m_law_take) (c_law_style : Fn P w W mg base "_law_style" 2 1 m_law_style) (c_shown : Fn P w W mg base "shown" 6 2 m_shown) (c_Sheet_page : Mt P w W mg base 13 "page" 1 1 m_Sheet_page) (c_law_drawn : Fn P w W mg base "_law_drawn" 5 2 m_law_drawn) (c_law_told : Fn P w W mg base "_law_told" 9 2 m_law_told) (c_strokes : Fn P w W mg base "strokes" 4 2 m_strokes) (n_Sheet : Nw P w W mg base "Sheet" 13 5 3 m_Sheet_init) : FnOk P w W.K mg base (L2.CX P w) 10 f fd ["_law_script"] (spD W 1 (funD 15 (d_law_k22 m_law_begun m_law_lines_two m_law_fits m_law_page m_law_take m_law_style m_shown m_Sheet_page m_law_drawn m_law_told m_strokes m_Sheet_init))) :=
  fnE F sc_law rfl rfl fun cdv A outer sh H E hr => db_cons (ds_set sc_law.nd rfl (by first | exact Or.inl rfl | exact Or.inr rfl) (dcall c_law_begun hr passD (da_cons (dv 0) (da_nil)))) (db_cons (ds_for passF rfl (di_r1 (by rfl) T.b_range (da_cons (de_int) (da_nil))) (dg_name sc_law.nd rfl (by first | exact Or.inl rfl | exact Or.inr rfl)) (db_cons (ds_asg (dcall c_law_lines_two hr passD (da_cons (dv 1) (da_nil))) (dg_tup rfl (dgs_cons (dg_name sc_law.nd rfl (by first | exact Or.inl rfl | exact Or.inr rfl)) (dgs_cons (dg_name sc_law.nd rfl (by first | exact Or.inl rfl | exact Or.inr rfl)) (dgs_nil))))) (db_one (ds_if (dt_w (dw_or (dt_not (dt_val (dcall c_law_fits hr passD (da_cons (dv 3) (da_cons (dv 4) (da_nil)))))) (dw_or1 (dt_not (dt_val (dcall c_law_fits hr passD (da_cons (dv 4) (da_cons (dv 3) (da_nil))))))))) (db_one (ds_ret (de_bl))) (db_nil))))) (db_cons (ds_par rfl sc_law.nd rfl rfl (by decide) rfl rfl (da_cons (dcall c_law_page hr passD (da_cons (dv 1) (da_cons (de_ix rfl (de_lst false (da_cons (de_int) (da_cons (de_int) (da_cons (de_int) (da_nil))))) (dcall c_law_take hr passD (da_cons (dv 1) (da_cons (de_int) (da_nil)))) (fun _ _ => rfl)) (da_nil)))) (da_cons (dcall c_law_style hr passD (da_cons (dv 1) (da_nil))) (da_nil))) (by rfl)) (db_cons (ds_set sc_law.nd rfl (by first | exact Or.inl rfl | exact Or.inr rfl) (dmake n_Sheet hr passD (da_cons (dv 5) (da_cons (dv 6) (da_nil))))) (db_cons (ds_for passF rfl (di_r1 (by rfl) T.b_range (da_cons (dcall c_law_take hr passD (da_cons (dv 1) (da_cons (de_int) (da_nil)))) (da_nil))) (dg_name sc_law.nd rfl (by first | exact Or.inl rfl | exact Or.inr rfl)) (db_cons (ds_par rfl sc_law.nd rfl rfl (by decide) rfl rfl (da_cons (dcall c_shown hr passD (da_cons (dmeth0 c_Sheet_page (dv 7) hr passD) (da_cons (dv 6) (da_nil)))) (da_cons (dmeth0 c_Sheet_page (dv 7) hr passD) (da_nil))) (by rfl)) (db_cons (ds_set sc_law.nd rfl (by first | exact Or.inl rfl | exact Or.inr rfl) (dcall c_law_drawn hr passD (da_cons (dv 1) (da_cons (dv 9) (da_nil))))) (db_cons (ds_set sc_law.nd rfl (by first | exact Or.inl rfl | exact Or.inr rfl) (dcall c_law_told hr passD (da_cons (dv 7) (da_cons (dv 10) (da_nil))))) (db_cons (ds_set sc_law.nd rfl (by first | exact Or.inl rfl | exact Or.inr rfl) (dcall c_shown hr passD (da_cons (dmeth0 c_Sheet_page (dv 7) hr passD) (da_cons (dv 6) (da_nil))))) (db_cons (ds_if (dt_not (dt_val (dcall c_law_fits hr passD (da_cons (dv 8) (da_cons (dv 12) (da_nil)))))) (db_one (ds_ret (de_bl))) (db_nil)) (db_one (ds_if (dt_w (dw_and (dt_cmp (dop_in rfl) (de_ix rfl (dv 10) (de_int) (fun _ _ => rfl)) (de_tup (da_cons (de_str (by decide +kernel) (by decide +kernel)) (da_cons (de_str (by decide +kernel) (by decide +kernel)) (da_cons (de_str (by decide +kernel) (by decide +kernel)) (da_nil))))) (by rfl)) (dw_and1 (dt_val (de_isinst (by simp) (dv 11) (pe_bltn (by rfl) T.b_list (by decide +kernel) rfl) (fun a b => pe_callB a (by rfl) T.b_isinstance (by decide +kernel) b) (fun p => pa_cons p (pa_cons (pe_bltn (by rfl) T.b_list (by decide +kernel) rfl) pa_nil))))))) (db_cons (ds_set sc_law.nd rfl (by first | exact Or.inl rfl | exact Or.inr rfl) (de_op (dop_add false) (de_lc false rfl sc_law.nd (di_seq (dv 11)) (by exact blkOk_by (N := ["_law_script", "_law_box", "_law_turn", "_law_one", "_law_other", "_law_page_here", "_law_style_here", "_law_sheet", "_law_before", "_law_rows", "_law_deed", "_law_found", "_law_later", "_law_moved", "_law_row_here"]) (sc := defScope s_law) (own := [("_law_row_here", 14)]) (by decide +kernel)) rfl (by decide) (fun _ _ _ _ _ => tg_one sc_law.nd rfl (by first | exact Or.inl rfl | exact Or.inr rfl)) (fun _ _ _ _ _ => dts_nil) (fun _ _ _ _ _ => de_ix rfl (dv 14) (de_int) (fun _ _ => rfl))) (de_lst false (da_cons (de_ix rfl (dv 10) (de_int) (fun _ _ => rfl)) (da_nil))))) (db_one (ds_if (dt_cmp (dop_ne rfl hr.units) (de_lc false rfl sc_law.nd (di_seq (dcall c_strokes hr passD (da_cons (dv 8) (da_cons (dv 12) (da_nil))))) (by exact blkOk_by (N := ["_law_script", "_law_box", "_law_turn", "_law_one", "_law_other", "_law_page_here", "_law_style_here", "_law_sheet", "_law_before", "_law_rows", "_law_deed", "_law_found", "_law_later", "_law_moved", "_law_row_here"]) (sc := defScope s_law) (own := [("_law_row_here", 14)]) (by decide +kernel)) rfl (by decide) (fun _ _ _ _ _ => tg_one sc_law.nd rfl (by first | exact Or.inl rfl | exact Or.inr rfl)) (fun _ _ _ _ _ => dts_one (dt_cmp (dop_notin rfl) (de_ix rfl (dv 14) (de_int) (fun _ _ => rfl)) (dv 13) (by rfl))) (fun _ _ _ _ _ => dv 14)) (de_lst false (da_nil)) (nomark _)) (db_one (ds_ret (de_bl))) (db_nil)))) (db_nil))))))))) (db_one (ds_ret (de_bl)))))))
theorem sc_BadLines_init : FnScope ["self", "line"] ["self", "line"] (defScope s_BadLines_init) := ⟨rfl, rfl, rfl, by decide +kernel, rfl, by decide +kernel, by decide +kernel⟩
theorem ini_BadLines {fI GC : Addr} {fd : FuncData} (F : Fun W.K "__init__" "BadLines.__init__" s_BadLines_init fI fd) (b : BaseEx W.K mg "GrowError" GC) (px : PayEx W.K mg "BadLines" (W.cls 8) fI "line") (pay : W.pay 8 = some "line") : IniX P w W mg base "BadLines" 8 "line" :=
  ⟨fI, fd, px, init_fn F sc_BadLines_init b px rfl rfl (.inl rfl) (.inl rfl), F.binds (ps := ["self", "line"]) fun _ _ _ _ _ _ us hl => match us, hl with | [_, _], _ => rfl, pay⟩
theorem sc_BadStroke_init : FnScope ["self", "number"] ["self", "number"] (defScope s_BadStroke_init) := ⟨rfl, rfl, rfl, by decide +kernel, rfl, by decide +kernel, by decide +kernel⟩
theorem ini_BadStroke {fI GC : Addr} {fd : FuncData} (F : Fun W.K "__init__" "BadStroke.__init__" s_BadStroke_init fI fd) (b : BaseEx W.K mg "GrowError" GC) (px : PayEx W.K mg "BadStroke" (W.cls 10) fI "number") (pay : W.pay 10 = some "number") : IniX P w W mg base "BadStroke" 10 "number" :=
  ⟨fI, fd, px, init_fn F sc_BadStroke_init b px rfl rfl (.inl rfl) (.inl rfl), F.binds (ps := ["self", "number"]) fun _ _ _ _ _ _ us hl => match us, hl with | [_, _], _ => rfl, pay⟩
end
theorem all_mk {l : PySem.W.OpenLaw} {w : World} {K : PySem.W.Frag} {h : Heap} {mg : Str → Option Value} {fa C1 C2 C3 C4 C5 C6 C7 f1 f2 f3 f4 f5 f6 f7 f8 f9 f10 f11 f12 f13 f14 f15 f16 f17 f18 f19 f20 f21 f22 f23 f24 f25 f26 f27 f28 f29 f30 f31 f32 f33 f34 f35 f36 f37 f38 f39 f40 f41 f42 f43 f44 f45 f46 f47 f48 f49 f50 f51 f52 f53 : Addr} (HT : ∀ ns : List Int, ns.length ≤ 63 → ∃ st, m_law_k22 [.scr ns] [] = .ok (.bl true, st)) (X : K.In h) (G : h.Ns mainGlobals mg) (hfa : mg "law" = some (.ref fa))
    {nm_BadLines q_BadLines : Str} {N_BadLines fi_BadLines : Addr} {bs_BadLines bm_BadLines sub_BadLines : List Value} {sn_BadLines : List Str} {ab_BadLines : Bool} {col_BadLines : Option Bool} {dd_BadLines od_BadLines an_BadLines : Option Addr} {k0_BadLines k1_BadLines k2_BadLines k3_BadLines k5_BadLines : Option Value} {sl_BadLines : Array (Option Value)} {oc_BadLines kV_BadLines dc_BadLines pm_BadLines cd_BadLines ct_BadLines : Value}
    {nm_BadStroke q_BadStroke : Str} {N_BadStroke fi_BadStroke : Addr} {bs_BadStroke bm_BadStroke sub_BadStroke : List Value} {sn_BadStroke : List Str} {ab_BadStroke : Bool} {col_BadStroke : Option Bool} {dd_BadStroke od_BadStroke an_BadStroke : Option Addr} {k0_BadStroke k1_BadStroke k2_BadStroke k3_BadStroke k5_BadStroke : Option Value} {sl_BadStroke : Array (Option Value)} {oc_BadStroke kV_BadStroke dc_BadStroke pm_BadStroke cd_BadStroke ct_BadStroke : Value}
    {od1 od2 od3 od4 od5 od6 od7 od8 od9 od10 od11 od12 od13 od14 od15 od16 od17 od18 od19 od20 od21 od22 od23 od24 od25 od26 od27 od28 od29 od30 od31 od32 od33 od34 od35 od36 od37 od38 od39 od40 od41 od42 od43 od44 od45 od46 od47 od48 od49 od50 od51 od52 od53 an1 an2 an3 an4 an5 an6 an7 an8 an9 an10 an11 an12 an13 an14 an15 an16 an17 an18 an19 an20 an21 an22 an23 an24 an25 an26 an27 an28 an29 an30 an31 an32 an33 an34 an35 an36 an37 an38 an39 an40 an41 an42 an43 an44 an45 an46 an47 an48 an49 an50 an51 an52 an53 : Option Addr} {sl1 sl2 sl3 sl4 sl5 sl6 sl7 sl8 sl9 sl10 sl11 sl12 sl13 sl14 sl15 sl16 sl17 sl18 sl19 sl20 sl21 sl22 sl23 sl24 sl25 sl26 sl27 sl28 sl29 sl30 sl31 sl32 sl33 sl34 sl35 sl36 sl37 sl38 sl39 sl40 sl41 sl42 sl43 sl44 sl45 sl46 sl47 sl48 sl49 sl50 sl51 sl52 sl53 : Array (Option Value)} {oc1 oc2 oc3 oc4 oc5 oc6 oc7 oc8 oc9 oc10 oc11 oc12 oc13 oc14 oc15 oc16 oc17 oc18 oc19 oc20 oc21 oc22 oc23 oc24 oc25 oc26 oc27 oc28 oc29 oc30 oc31 oc32 oc33 oc34 oc35 oc36 oc37 oc38 oc39 oc40 oc41 oc42 oc43 oc44 oc45 oc46 oc47 oc48 oc49 oc50 oc51 oc52 oc53 kV1 kV2 kV3 kV4 kV5 kV6 kV7 kV8 kV9 kV10 kV11 kV12 kV13 kV14 kV15 kV16 kV17 kV18 kV19 kV20 kV21 kV22 kV23 kV24 kV25 kV26 kV27 kV28 kV29 kV30 kV31 kV32 kV33 kV34 kV35 kV36 kV37 kV38 kV39 kV40 kV41 kV42 kV43 kV44 kV45 kV46 kV47 kV48 kV49 kV50 kV51 kV52 kV53 dc1 dc2 dc3 dc4 dc5 dc6 dc7 dc8 dc9 dc10 dc11 dc12 dc13 dc14 dc15 dc16 dc17 dc18 dc19 dc20 dc21 dc22 dc23 dc24 dc25 dc26 dc27 dc28 dc29 dc30 dc31 dc32 dc33 dc34 dc35 dc36 dc37 dc38 dc39 dc40 dc41 dc42 dc43 dc44 dc45 dc46 dc47 dc48 dc49 dc50 dc51 dc52 dc53 pm1 pm2 pm3 pm4 pm5 pm6 pm7 pm8 pm9 pm10 pm11 pm12 pm13 pm14 pm15 pm16 pm17 pm18 pm19 pm20 pm21 pm22 pm23 pm24 pm25 pm26 pm27 pm28 pm29 pm30 pm31 pm32 pm33 pm34 pm35 pm36 pm37 pm38 pm39 pm40 pm41 pm42 pm43 pm44 pm45 pm46 pm47 pm48 pm49 pm50 pm51 pm52 pm53 cd1 cd2 cd3 cd4 cd5 cd6 cd7 cd8 cd9 cd10 cd11 cd12 cd13 cd14 cd15 cd16 cd17 cd18 cd19 cd20 cd21 cd22 cd23 cd24 cd25 cd26 cd27 cd28 cd29 cd30 cd31 cd32 cd33 cd34 cd35 cd36 cd37 cd38 cd39 cd40 cd41 cd42 cd43 cd44 cd45 cd46 cd47 cd48 cd49 cd50 cd51 cd52 cd53 ct1 ct2 ct3 ct4 ct5 ct6 ct7 ct8 ct9 ct10 ct11 ct12 ct13 ct14 ct15 ct16 ct17 ct18 ct19 ct20 ct21 ct22 ct23 ct24 ct25 ct26 ct27 ct28 ct29 ct30 ct31 ct32 ct33 ct34 ct35 ct36 ct37 ct38 ct39 ct40 ct41 ct42 ct43 ct44 ct45 ct46 ct47 ct48 ct49 ct50 ct51 ct52 ct53 : Value} {t_FIRST_SIGN t_LAST_SIGN t_BARRED t_MOST_WIDE t_MOST_ROWS t_NEAR t_MOST_SIGNS t_MOST_CELLS t_MOST_GAP t_MOST_LEAST t_FIGURES t_TAB : Tok}
    (zb_len : PySem.W.nsIn K mainGlobals "len" = some none)
    (zb_int : PySem.W.nsIn K mainGlobals "int" = some none)
    (zb_list : PySem.W.nsIn K mainGlobals "list" = some none)
    (zb_range : PySem.W.nsIn K mainGlobals "range" = some none)
    (zb_min : PySem.W.nsIn K mainGlobals "min" = some none)
    (zb_ord : PySem.W.nsIn K mainGlobals "ord" = some none)
    (zb_str : PySem.W.nsIn K mainGlobals "str" = some none)
    (zb_isinstance : PySem.W.nsIn K mainGlobals "isinstance" = some none)
    (zb_enumerate : PySem.W.nsIn K mainGlobals "enumerate" = some none)
    (zb_max : PySem.W.nsIn K mainGlobals "max" = some none)
    (zb_bool : PySem.W.nsIn K mainGlobals "bool" = some none)
    (zb_tuple : PySem.W.nsIn K mainGlobals "tuple" = some none)
    (zb_zip : PySem.W.nsIn K mainGlobals "zip" = some none)
    (zk_FIRST_SIGN : PySem.W.nsIn K mainGlobals "FIRST_SIGN" = some (some (.str " " t_FIRST_SIGN)))
    (zk_LAST_SIGN : PySem.W.nsIn K mainGlobals "LAST_SIGN" = some (some (.str "~" t_LAST_SIGN)))
    (zk_BARRED : PySem.W.nsIn K mainGlobals "BARRED" = some (some (.int (37) t_BARRED)))
    (zk_MOST_WIDE : PySem.W.nsIn K mainGlobals "MOST_WIDE" = some (some (.int (200) t_MOST_WIDE)))
    (zk_MOST_ROWS : PySem.W.nsIn K mainGlobals "MOST_ROWS" = some (some (.int (30) t_MOST_ROWS)))
    (zk_NEAR : PySem.W.nsIn K mainGlobals "NEAR" = some (some (.int (3) t_NEAR)))
    (zk_MOST_SIGNS : PySem.W.nsIn K mainGlobals "MOST_SIGNS" = some (some (.int (10) t_MOST_SIGNS)))
    (zk_MOST_CELLS : PySem.W.nsIn K mainGlobals "MOST_CELLS" = some (some (.int (6) t_MOST_CELLS)))
    (zk_MOST_GAP : PySem.W.nsIn K mainGlobals "MOST_GAP" = some (some (.int (4) t_MOST_GAP)))
    (zk_MOST_LEAST : PySem.W.nsIn K mainGlobals "MOST_LEAST" = some (some (.int (12) t_MOST_LEAST)))
    (zk_FIGURES : PySem.W.nsIn K mainGlobals "FIGURES" = some (some (.str "0123456789" t_FIGURES)))
    (zk_TAB : PySem.W.nsIn K mainGlobals "TAB" = some (some (.str "\t" t_TAB)))
    (aC_Stretch : PySem.W.nsIn K mainGlobals "Stretch" = some (some (.ref C1)))
    (pg_Stretch : PySem.W.plainGet K C1 Str.empty = true)
    (hd_Stretch : PySem.W.hasDictIn K C1 = true)
    (po_Stretch : PySem.W.plainOver K C1 = true)
    (sa_Stretch : PySem.W.findIn K (.ref C1) "__setattr__" = some (some (.builtin "object.__setattr__")))
    (mk_Stretch : PySem.W.makesIn K C1 = true)
    (kc_Stretch : PySem.W.keepIn K (.ref C1) = true)
    (aC_Sheet : PySem.W.nsIn K mainGlobals "Sheet" = some (some (.ref C2)))
    (pg_Sheet : PySem.W.plainGet K C2 Str.empty = true)
    (hd_Sheet : PySem.W.hasDictIn K C2 = true)
    (po_Sheet : PySem.W.plainOver K C2 = true)
    (sa_Sheet : PySem.W.findIn K (.ref C2) "__setattr__" = some (some (.builtin "object.__setattr__")))
    (mk_Sheet : PySem.W.makesIn K C2 = true)
    (kc_Sheet : PySem.W.keepIn K (.ref C2) = true)
    (aC_BadRow : PySem.W.nsIn K mainGlobals "BadRow" = some (some (.ref C3)))
    (aC_BadCell : PySem.W.nsIn K mainGlobals "BadCell" = some (some (.ref C4)))
    (aC_GrowError : PySem.W.nsIn K mainGlobals "GrowError" = some (some (.ref C5)))
    (aC_BadLines : PySem.W.nsIn K mainGlobals "BadLines" = some (some (.ref C6)))
    (aC_BadStroke : PySem.W.nsIn K mainGlobals "BadStroke" = some (some (.ref C7)))
    (xe_BadRow : PySem.W.excIn K C3 [.type "ValueError", .type "Exception", .type "BaseException", .type "object"] "ValueError.__new__" = true)
    (xk_BadRow : PySem.W.keepIn K (.ref C3) = true)
    (xs_BadRow : PySem.W.subIn K (.ref C3) (.type "BaseException") = some true)
    (xt_BadRow : PySem.W.typeIn K (.ref C3) = some (.type "type"))
    (xe_BadCell : PySem.W.excIn K C4 [.type "ValueError", .type "Exception", .type "BaseException", .type "object"] "ValueError.__new__" = true)
    (xk_BadCell : PySem.W.keepIn K (.ref C4) = true)
    (xs_BadCell : PySem.W.subIn K (.ref C4) (.type "BaseException") = some true)
    (xt_BadCell : PySem.W.typeIn K (.ref C4) = some (.type "type"))
    (zb_GrowError : PySem.W.subIn K (.ref C5) (.type "BaseException") = some true)
    (zh_GrowError : PySem.W.hasDictIn K C5 = true)
    (zt_GrowError : PySem.W.typeIn K (.ref C5) = some (.type "type"))
    (zc_BadRow_GrowError : PySem.W.subIn K (.ref C3) (.ref C5) = some true)
    (zc_BadCell_GrowError : PySem.W.subIn K (.ref C4) (.ref C5) = some true)
    (xo_BadLines : K.lookup C6 = some (excClassObj nm_BadLines q_BadLines C6 N_BadLines bs_BadLines bm_BadLines true sn_BadLines sub_BadLines ab_BadLines col_BadLines dd_BadLines k0_BadLines k1_BadLines k2_BadLines k3_BadLines k5_BadLines "ValueError.__new__"))
    (xv_BadLines : PySem.HandSPX.refsVE bm_BadLines = true)
    (sx_BadLines : PySem.W.findIn K (.ref C6) "__setattr__" = some (some (.builtin "object.__setattr__")))
    (xs_BadLines : PySem.W.subIn K (.ref C6) (.type "BaseException") = some true)
    (xt_BadLines : PySem.W.typeIn K (.ref C6) = some (.type "type"))
    (xk_BadLines : PySem.W.keepIn K (.ref C6) = true)
    (xi_BadLines : PySem.W.findIn K (.ref C6) "__init__" = some (some (.ref fi_BadLines)))
    (xf_BadLines : PySem.W.typeIn K (.ref fi_BadLines) = some (.type "function"))
    (xn_BadLines : PySem.W.findIn K (.ref C6) "line" = some none)
    (li_BadLines : K.lookup fi_BadLines = some ⟨oc_BadLines, od_BadLines, .func (PySem.W.fnOf "__init__" "BadLines.__init__" (defArgs s_BadLines_init) (defBody s_BadLines_init) (defScope s_BadLines_init) .none kV_BadLines dc_BadLines pm_BadLines an_BadLines cd_BadLines ct_BadLines), sl_BadLines⟩)
    (ci_BadLines : PySem.W.codeIn K cd_BadLines "BadLines.__init__" = true)
    (ki_BadLines : PySem.W.keepIn K (.ref fi_BadLines) = true)
    (xo_BadStroke : K.lookup C7 = some (excClassObj nm_BadStroke q_BadStroke C7 N_BadStroke bs_BadStroke bm_BadStroke true sn_BadStroke sub_BadStroke ab_BadStroke col_BadStroke dd_BadStroke k0_BadStroke k1_BadStroke k2_BadStroke k3_BadStroke k5_BadStroke "ValueError.__new__"))
    (xv_BadStroke : PySem.HandSPX.refsVE bm_BadStroke = true)
    (sx_BadStroke : PySem.W.findIn K (.ref C7) "__setattr__" = some (some (.builtin "object.__setattr__")))
    (xs_BadStroke : PySem.W.subIn K (.ref C7) (.type "BaseException") = some true)
    (xt_BadStroke : PySem.W.typeIn K (.ref C7) = some (.type "type"))
    (xk_BadStroke : PySem.W.keepIn K (.ref C7) = true)
    (xi_BadStroke : PySem.W.findIn K (.ref C7) "__init__" = some (some (.ref fi_BadStroke)))
    (xf_BadStroke : PySem.W.typeIn K (.ref fi_BadStroke) = some (.type "function"))
    (xn_BadStroke : PySem.W.findIn K (.ref C7) "number" = some none)
    (li_BadStroke : K.lookup fi_BadStroke = some ⟨oc_BadStroke, od_BadStroke, .func (PySem.W.fnOf "__init__" "BadStroke.__init__" (defArgs s_BadStroke_init) (defBody s_BadStroke_init) (defScope s_BadStroke_init) .none kV_BadStroke dc_BadStroke pm_BadStroke an_BadStroke cd_BadStroke ct_BadStroke), sl_BadStroke⟩)
    (ci_BadStroke : PySem.W.codeIn K cd_BadStroke "BadStroke.__init__" = true)
    (ki_BadStroke : PySem.W.keepIn K (.ref fi_BadStroke) = true)
    (gsp : PySem.W.specialIn K (.ref C5) "__getattribute__" = some (some (.builtin "type.__getattribute__")))
    (grd : PySem.W.readsIn K C5 (.type "type") = true)
    (gfc : PySem.W.findCls K (.ref C5) (.type "type") "__init__" = some (.val (.builtin "ValueError.__init__")))
    (nf_Stretch_cells : PySem.W.findIn K (.ref C1) "cells" = some none)
    (nf_Stretch_end : PySem.W.findIn K (.ref C1) "end" = some none)
    (nf_Stretch_begin : PySem.W.findIn K (.ref C1) "begin" = some none)
    (nf_Stretch_column : PySem.W.findIn K (.ref C1) "column" = some none)
    (nf_Sheet_rows : PySem.W.findIn K (.ref C2) "rows" = some none)
    (nf_Sheet_lefts : PySem.W.findIn K (.ref C2) "lefts" = some none)
    (nf_Sheet_past : PySem.W.findIn K (.ref C2) "past" = some none)
    (nf_Sheet_style : PySem.W.findIn K (.ref C2) "style" = some none)
    (a1 : PySem.W.nsIn K mainGlobals "_law_begun" = some (some (.ref f1)))
    (l1 : K.lookup f1 = some ⟨oc1, od1, .func (PySem.W.fnOf "_law_begun" "_law_begun" (defArgs s_law_begun) (defBody s_law_begun) (defScope s_law_begun) .none kV1 dc1 pm1 an1 cd1 ct1), sl1⟩)
    (c1 : PySem.W.codeIn K cd1 "_law_begun" = true)
    (k1 : PySem.W.keepIn K (.ref f1) = true)
    (a2 : PySem.W.nsIn K mainGlobals "_law_take" = some (some (.ref f2)))
    (l2 : K.lookup f2 = some ⟨oc2, od2, .func (PySem.W.fnOf "_law_take" "_law_take" (defArgs s_law_take) (defBody s_law_take) (defScope s_law_take) .none kV2 dc2 pm2 an2 cd2 ct2), sl2⟩)
    (c2 : PySem.W.codeIn K cd2 "_law_take" = true)
    (k2 : PySem.W.keepIn K (.ref f2) = true)
    (a3 : PySem.W.nsIn K mainGlobals "_law_sign" = some (some (.ref f3)))
    (l3 : K.lookup f3 = some ⟨oc3, od3, .func (PySem.W.fnOf "_law_sign" "_law_sign" (defArgs s_law_sign) (defBody s_law_sign) (defScope s_law_sign) .none kV3 dc3 pm3 an3 cd3 ct3), sl3⟩)
    (c3 : PySem.W.codeIn K cd3 "_law_sign" = true)
    (k3 : PySem.W.keepIn K (.ref f3) = true)
    (a4 : PySem.W.nsIn K mainGlobals "_law_line" = some (some (.ref f4)))
    (l4 : K.lookup f4 = some ⟨oc4, od4, .func (PySem.W.fnOf "_law_line" "_law_line" (defArgs s_law_line) (defBody s_law_line) (defScope s_law_line) .none kV4 dc4 pm4 an4 cd4 ct4), sl4⟩)
    (c4 : PySem.W.codeIn K cd4 "_law_line" = true)
    (k4 : PySem.W.keepIn K (.ref f4) = true)
    (a5 : PySem.W.nsIn K mainGlobals "_law_line_near" = some (some (.ref f5)))
    (l5 : K.lookup f5 = some ⟨oc5, od5, .func (PySem.W.fnOf "_law_line_near" "_law_line_near" (defArgs s_law_line_near) (defBody s_law_line_near) (defScope s_law_line_near) .none kV5 dc5 pm5 an5 cd5 ct5), sl5⟩)
    (c5 : PySem.W.codeIn K cd5 "_law_line_near" = true)
    (k5 : PySem.W.keepIn K (.ref f5) = true)
    (a6 : PySem.W.nsIn K mainGlobals "_law_lines_two" = some (some (.ref f6)))
    (l6 : K.lookup f6 = some ⟨oc6, od6, .func (PySem.W.fnOf "_law_lines_two" "_law_lines_two" (defArgs s_law_lines_two) (defBody s_law_lines_two) (defScope s_law_lines_two) .none kV6 dc6 pm6 an6 cd6 ct6), sl6⟩)
    (c6 : PySem.W.codeIn K cd6 "_law_lines_two" = true)
    (k6 : PySem.W.keepIn K (.ref f6) = true)
    (a7 : PySem.W.nsIn K mainGlobals "is_sign" = some (some (.ref f7)))
    (l7 : K.lookup f7 = some ⟨oc7, od7, .func (PySem.W.fnOf "is_sign" "is_sign" (defArgs s_is_sign) (defBody s_is_sign) (defScope s_is_sign) .none kV7 dc7 pm7 an7 cd7 ct7), sl7⟩)
    (c7 : PySem.W.codeIn K cd7 "is_sign" = true)
    (k7 : PySem.W.keepIn K (.ref f7) = true)
    (a8 : PySem.W.nsIn K mainGlobals "is_line" = some (some (.ref f8)))
    (l8 : K.lookup f8 = some ⟨oc8, od8, .func (PySem.W.fnOf "is_line" "is_line" (defArgs s_is_line) (defBody s_is_line) (defScope s_is_line) .none kV8 dc8 pm8 an8 cd8 ct8), sl8⟩)
    (c8 : PySem.W.codeIn K cd8 "is_line" = true)
    (k8 : PySem.W.keepIn K (.ref f8) = true)
    (a9 : PySem.W.nsIn K mainGlobals "need_lines" = some (some (.ref f9)))
    (l9 : K.lookup f9 = some ⟨oc9, od9, .func (PySem.W.fnOf "need_lines" "need_lines" (defArgs s_need_lines) (defBody s_need_lines) (defScope s_need_lines) .none kV9 dc9 pm9 an9 cd9 ct9), sl9⟩)
    (c9 : PySem.W.codeIn K cd9 "need_lines" = true)
    (k9 : PySem.W.keepIn K (.ref f9) = true)
    (a10 : PySem.W.nsIn K mainGlobals "strokes_of" = some (some (.ref f10)))
    (l10 : K.lookup f10 = some ⟨oc10, od10, .func (PySem.W.fnOf "strokes_of" "strokes_of" (defArgs s_strokes_of) (defBody s_strokes_of) (defScope s_strokes_of) .none kV10 dc10 pm10 an10 cd10 ct10), sl10⟩)
    (c10 : PySem.W.codeIn K cd10 "strokes_of" = true)
    (k10 : PySem.W.keepIn K (.ref f10) = true)
    (a11 : PySem.W.nsIn K mainGlobals "strokes" = some (some (.ref f11)))
    (l11 : K.lookup f11 = some ⟨oc11, od11, .func (PySem.W.fnOf "strokes" "strokes" (defArgs s_strokes) (defBody s_strokes) (defScope s_strokes) .none kV11 dc11 pm11 an11 cd11 ct11), sl11⟩)
    (c11 : PySem.W.codeIn K cd11 "strokes" = true)
    (k11 : PySem.W.keepIn K (.ref f11) = true)
    (a12 : PySem.W.nsIn K mainGlobals "_law_bare" = some (some (.ref f12)))
    (l12 : K.lookup f12 = some ⟨oc12, od12, .func (PySem.W.fnOf "_law_bare" "_law_bare" (defArgs s_law_bare) (defBody s_law_bare) (defScope s_law_bare) .none kV12 dc12 pm12 an12 cd12 ct12), sl12⟩)
    (c12 : PySem.W.codeIn K cd12 "_law_bare" = true)
    (k12 : PySem.W.keepIn K (.ref f12) = true)
    (a13 : PySem.W.nsIn K mainGlobals "is_number" = some (some (.ref f13)))
    (l13 : K.lookup f13 = some ⟨oc13, od13, .func (PySem.W.fnOf "is_number" "is_number" (defArgs s_is_number) (defBody s_is_number) (defScope s_is_number) .none kV13 dc13 pm13 an13 cd13 ct13), sl13⟩)
    (c13 : PySem.W.codeIn K cd13 "is_number" = true)
    (k13 : PySem.W.keepIn K (.ref f13) = true)
    (a14 : PySem.W.nsIn K mainGlobals "is_stroke" = some (some (.ref f14)))
    (l14 : K.lookup f14 = some ⟨oc14, od14, .func (PySem.W.fnOf "is_stroke" "is_stroke" (defArgs s_is_stroke) (defBody s_is_stroke) (defScope s_is_stroke) .none kV14 dc14 pm14 an14 cd14 ct14), sl14⟩)
    (c14 : PySem.W.codeIn K cd14 "is_stroke" = true)
    (k14 : PySem.W.keepIn K (.ref f14) = true)
    (a15 : PySem.W.nsIn K mainGlobals "painted" = some (some (.ref f15)))
    (l15 : K.lookup f15 = some ⟨oc15, od15, .func (PySem.W.fnOf "painted" "painted" (defArgs s_painted) (defBody s_painted) (defScope s_painted) .none kV15 dc15 pm15 an15 cd15 ct15), sl15⟩)
    (c15 : PySem.W.codeIn K cd15 "painted" = true)
    (k15 : PySem.W.keepIn K (.ref f15) = true)
    (a16 : PySem.W.nsIn K mainGlobals "_law_fits" = some (some (.ref f16)))
    (l16 : K.lookup f16 = some ⟨oc16, od16, .func (PySem.W.fnOf "_law_fits" "_law_fits" (defArgs s_law_fits) (defBody s_law_fits) (defScope s_law_fits) .none kV16 dc16 pm16 an16 cd16 ct16), sl16⟩)
    (c16 : PySem.W.codeIn K cd16 "_law_fits" = true)
    (k16 : PySem.W.keepIn K (.ref f16) = true)
    (a17 : PySem.W.nsIn K mainGlobals "_law_cell" = some (some (.ref f17)))
    (l17 : K.lookup f17 = some ⟨oc17, od17, .func (PySem.W.fnOf "_law_cell" "_law_cell" (defArgs s_law_cell) (defBody s_law_cell) (defScope s_law_cell) .none kV17 dc17 pm17 an17 cd17 ct17), sl17⟩)
    (c17 : PySem.W.codeIn K cd17 "_law_cell" = true)
    (k17 : PySem.W.keepIn K (.ref f17) = true)
    (a18 : PySem.W.nsIn K mainGlobals "_law_row" = some (some (.ref f18)))
    (l18 : K.lookup f18 = some ⟨oc18, od18, .func (PySem.W.fnOf "_law_row" "_law_row" (defArgs s_law_row) (defBody s_law_row) (defScope s_law_row) .none kV18 dc18 pm18 an18 cd18 ct18), sl18⟩)
    (c18 : PySem.W.codeIn K cd18 "_law_row" = true)
    (k18 : PySem.W.keepIn K (.ref f18) = true)
    (a19 : PySem.W.nsIn K mainGlobals "_law_page" = some (some (.ref f19)))
    (l19 : K.lookup f19 = some ⟨oc19, od19, .func (PySem.W.fnOf "_law_page" "_law_page" (defArgs s_law_page) (defBody s_law_page) (defScope s_law_page) .none kV19 dc19 pm19 an19 cd19 ct19), sl19⟩)
    (c19 : PySem.W.codeIn K cd19 "_law_page" = true)
    (k19 : PySem.W.keepIn K (.ref f19) = true)
    (a20 : PySem.W.nsIn K mainGlobals "_law_style" = some (some (.ref f20)))
    (l20 : K.lookup f20 = some ⟨oc20, od20, .func (PySem.W.fnOf "_law_style" "_law_style" (defArgs s_law_style) (defBody s_law_style) (defScope s_law_style) .none kV20 dc20 pm20 an20 cd20 ct20), sl20⟩)
    (c20 : PySem.W.codeIn K cd20 "_law_style" = true)
    (k20 : PySem.W.keepIn K (.ref f20) = true)
    (a21 : PySem.W.nsIn K mainGlobals "is_cell" = some (some (.ref f21)))
    (l21 : K.lookup f21 = some ⟨oc21, od21, .func (PySem.W.fnOf "is_cell" "is_cell" (defArgs s_is_cell) (defBody s_is_cell) (defScope s_is_cell) .none kV21 dc21 pm21 an21 cd21 ct21), sl21⟩)
    (c21 : PySem.W.codeIn K cd21 "is_cell" = true)
    (k21 : PySem.W.keepIn K (.ref f21) = true)
    (a22 : PySem.W.nsIn K mainGlobals "is_row" = some (some (.ref f22)))
    (l22 : K.lookup f22 = some ⟨oc22, od22, .func (PySem.W.fnOf "is_row" "is_row" (defArgs s_is_row) (defBody s_is_row) (defScope s_is_row) .none kV22 dc22 pm22 an22 cd22 ct22), sl22⟩)
    (c22 : PySem.W.codeIn K cd22 "is_row" = true)
    (k22 : PySem.W.keepIn K (.ref f22) = true)
    (a23 : PySem.W.nsIn K mainGlobals "need_page" = some (some (.ref f23)))
    (l23 : K.lookup f23 = some ⟨oc23, od23, .func (PySem.W.fnOf "need_page" "need_page" (defArgs s_need_page) (defBody s_need_page) (defScope s_need_page) .none kV23 dc23 pm23 an23 cd23 ct23), sl23⟩)
    (c23 : PySem.W.codeIn K cd23 "need_page" = true)
    (k23 : PySem.W.keepIn K (.ref f23) = true)
    (a24 : PySem.W.nsIn K mainGlobals "need_style" = some (some (.ref f24)))
    (l24 : K.lookup f24 = some ⟨oc24, od24, .func (PySem.W.fnOf "need_style" "need_style" (defArgs s_need_style) (defBody s_need_style) (defScope s_need_style) .none kV24 dc24 pm24 an24 cd24 ct24), sl24⟩)
    (c24 : PySem.W.codeIn K cd24 "need_style" = true)
    (k24 : PySem.W.keepIn K (.ref f24) = true)
    (a25 : PySem.W.findIn K (.ref C1) "width" = some (some (.ref f25)))
    (i25 : PySem.W.isFn K (.ref f25) = true)
    (l25 : K.lookup f25 = some ⟨oc25, od25, .func (PySem.W.fnOf "width" "Stretch.width" (defArgs s_Stretch_width) (defBody s_Stretch_width) (defScope s_Stretch_width) .none kV25 dc25 pm25 an25 cd25 ct25), sl25⟩)
    (c25 : PySem.W.codeIn K cd25 "Stretch.width" = true)
    (k25 : PySem.W.keepIn K (.ref f25) = true)
    (a26 : PySem.W.nsIn K mainGlobals "stops_by" = some (some (.ref f26)))
    (l26 : K.lookup f26 = some ⟨oc26, od26, .func (PySem.W.fnOf "stops_by" "stops_by" (defArgs s_stops_by) (defBody s_stops_by) (defScope s_stops_by) .none kV26 dc26 pm26 an26 cd26 ct26), sl26⟩)
    (c26 : PySem.W.codeIn K cd26 "stops_by" = true)
    (k26 : PySem.W.keepIn K (.ref f26) = true)
    (a27 : PySem.W.nsIn K mainGlobals "is_figures" = some (some (.ref f27)))
    (l27 : K.lookup f27 = some ⟨oc27, od27, .func (PySem.W.fnOf "is_figures" "is_figures" (defArgs s_is_figures) (defBody s_is_figures) (defScope s_is_figures) .none kV27 dc27 pm27 an27 cd27 ct27), sl27⟩)
    (c27 : PySem.W.codeIn K cd27 "is_figures" = true)
    (k27 : PySem.W.keepIn K (.ref f27) = true)
    (a28 : PySem.W.findIn K (.ref C1) "is_right" = some (some (.ref f28)))
    (i28 : PySem.W.isFn K (.ref f28) = true)
    (l28 : K.lookup f28 = some ⟨oc28, od28, .func (PySem.W.fnOf "is_right" "Stretch.is_right" (defArgs s_Stretch_is_right) (defBody s_Stretch_is_right) (defScope s_Stretch_is_right) .none kV28 dc28 pm28 an28 cd28 ct28), sl28⟩)
    (c28 : PySem.W.codeIn K cd28 "Stretch.is_right" = true)
    (k28 : PySem.W.keepIn K (.ref f28) = true)
    (a29 : PySem.W.nsIn K mainGlobals "begins_by" = some (some (.ref f29)))
    (l29 : K.lookup f29 = some ⟨oc29, od29, .func (PySem.W.fnOf "begins_by" "begins_by" (defArgs s_begins_by) (defBody s_begins_by) (defScope s_begins_by) .none kV29 dc29 pm29 an29 cd29 ct29), sl29⟩)
    (c29 : PySem.W.codeIn K cd29 "begins_by" = true)
    (k29 : PySem.W.keepIn K (.ref f29) = true)
    (a30 : PySem.W.findIn K (.ref C1) "__init__" = some (some (.ref f30)))
    (i30 : PySem.W.isFn K (.ref f30) = true)
    (l30 : K.lookup f30 = some ⟨oc30, od30, .func (PySem.W.fnOf "__init__" "Stretch.__init__" (defArgs s_Stretch_init) (defBody s_Stretch_init) (defScope s_Stretch_init) .none kV30 dc30 pm30 an30 cd30 ct30), sl30⟩)
    (c30 : PySem.W.codeIn K cd30 "Stretch.__init__" = true)
    (k30 : PySem.W.keepIn K (.ref f30) = true)
    (a31 : PySem.W.nsIn K mainGlobals "stretches_of" = some (some (.ref f31)))
    (l31 : K.lookup f31 = some ⟨oc31, od31, .func (PySem.W.fnOf "stretches_of" "stretches_of" (defArgs s_stretches_of) (defBody s_stretches_of) (defScope s_stretches_of) .none kV31 dc31 pm31 an31 cd31 ct31), sl31⟩)
    (c31 : PySem.W.codeIn K cd31 "stretches_of" = true)
    (k31 : PySem.W.keepIn K (.ref f31) = true)
    (a32 : PySem.W.nsIn K mainGlobals "all_stretches" = some (some (.ref f32)))
    (l32 : K.lookup f32 = some ⟨oc32, od32, .func (PySem.W.fnOf "all_stretches" "all_stretches" (defArgs s_all_stretches) (defBody s_all_stretches) (defScope s_all_stretches) .none kV32 dc32 pm32 an32 cd32 ct32), sl32⟩)
    (c32 : PySem.W.codeIn K cd32 "all_stretches" = true)
    (k32 : PySem.W.keepIn K (.ref f32) = true)
    (a33 : PySem.W.nsIn K mainGlobals "laid" = some (some (.ref f33)))
    (l33 : K.lookup f33 = some ⟨oc33, od33, .func (PySem.W.fnOf "laid" "laid" (defArgs s_laid) (defBody s_laid) (defScope s_laid) .none kV33 dc33 pm33 an33 cd33 ct33), sl33⟩)
    (c33 : PySem.W.codeIn K cd33 "laid" = true)
    (k33 : PySem.W.keepIn K (.ref f33) = true)
    (a34 : PySem.W.nsIn K mainGlobals "line_of" = some (some (.ref f34)))
    (l34 : K.lookup f34 = some ⟨oc34, od34, .func (PySem.W.fnOf "line_of" "line_of" (defArgs s_line_of) (defBody s_line_of) (defScope s_line_of) .none kV34 dc34 pm34 an34 cd34 ct34), sl34⟩)
    (c34 : PySem.W.codeIn K cd34 "line_of" = true)
    (k34 : PySem.W.keepIn K (.ref f34) = true)
    (a35 : PySem.W.nsIn K mainGlobals "shown" = some (some (.ref f35)))
    (l35 : K.lookup f35 = some ⟨oc35, od35, .func (PySem.W.fnOf "shown" "shown" (defArgs s_shown) (defBody s_shown) (defScope s_shown) .none kV35 dc35 pm35 an35 cd35 ct35), sl35⟩)
    (c35 : PySem.W.codeIn K cd35 "shown" = true)
    (k35 : PySem.W.keepIn K (.ref f35) = true)
    (a36 : PySem.W.findIn K (.ref C2) "page" = some (some (.ref f36)))
    (i36 : PySem.W.isFn K (.ref f36) = true)
    (l36 : K.lookup f36 = some ⟨oc36, od36, .func (PySem.W.fnOf "page" "Sheet.page" (defArgs s_Sheet_page) (defBody s_Sheet_page) (defScope s_Sheet_page) .none kV36 dc36 pm36 an36 cd36 ct36), sl36⟩)
    (c36 : PySem.W.codeIn K cd36 "Sheet.page" = true)
    (k36 : PySem.W.keepIn K (.ref f36) = true)
    (a37 : PySem.W.nsIn K mainGlobals "_law_drawn" = some (some (.ref f37)))
    (l37 : K.lookup f37 = some ⟨oc37, od37, .func (PySem.W.fnOf "_law_drawn" "_law_drawn" (defArgs s_law_drawn) (defBody s_law_drawn) (defScope s_law_drawn) .none kV37 dc37 pm37 an37 cd37 ct37), sl37⟩)
    (c37 : PySem.W.codeIn K cd37 "_law_drawn" = true)
    (k37 : PySem.W.keepIn K (.ref f37) = true)
    (a38 : PySem.W.findIn K (.ref C2) "need_number" = some (some (.ref f38)))
    (i38 : PySem.W.isFn K (.ref f38) = true)
    (l38 : K.lookup f38 = some ⟨oc38, od38, .func (PySem.W.fnOf "need_number" "Sheet.need_number" (defArgs s_Sheet_need_number) (defBody s_Sheet_need_number) (defScope s_Sheet_need_number) .none kV38 dc38 pm38 an38 cd38 ct38), sl38⟩)
    (c38 : PySem.W.codeIn K cd38 "Sheet.need_number" = true)
    (k38 : PySem.W.keepIn K (.ref f38) = true)
    (a39 : PySem.W.nsIn K mainGlobals "need_row" = some (some (.ref f39)))
    (l39 : K.lookup f39 = some ⟨oc39, od39, .func (PySem.W.fnOf "need_row" "need_row" (defArgs s_need_row) (defBody s_need_row) (defScope s_need_row) .none kV39 dc39 pm39 an39 cd39 ct39), sl39⟩)
    (c39 : PySem.W.codeIn K cd39 "need_row" = true)
    (k39 : PySem.W.keepIn K (.ref f39) = true)
    (a40 : PySem.W.findIn K (.ref C2) "turn_to" = some (some (.ref f40)))
    (i40 : PySem.W.isFn K (.ref f40) = true)
    (l40 : K.lookup f40 = some ⟨oc40, od40, .func (PySem.W.fnOf "turn_to" "Sheet.turn_to" (defArgs s_Sheet_turn_to) (defBody s_Sheet_turn_to) (defScope s_Sheet_turn_to) .none kV40 dc40 pm40 an40 cd40 ct40), sl40⟩)
    (c40 : PySem.W.codeIn K cd40 "Sheet.turn_to" = true)
    (k40 : PySem.W.keepIn K (.ref f40) = true)
    (a41 : PySem.W.findIn K (.ref C2) "put" = some (some (.ref f41)))
    (i41 : PySem.W.isFn K (.ref f41) = true)
    (l41 : K.lookup f41 = some ⟨oc41, od41, .func (PySem.W.fnOf "put" "Sheet.put" (defArgs s_Sheet_put) (defBody s_Sheet_put) (defScope s_Sheet_put) .none kV41 dc41 pm41 an41 cd41 ct41), sl41⟩)
    (c41 : PySem.W.codeIn K cd41 "Sheet.put" = true)
    (k41 : PySem.W.keepIn K (.ref f41) = true)
    (a42 : PySem.W.findIn K (.ref C2) "take" = some (some (.ref f42)))
    (i42 : PySem.W.isFn K (.ref f42) = true)
    (l42 : K.lookup f42 = some ⟨oc42, od42, .func (PySem.W.fnOf "take" "Sheet.take" (defArgs s_Sheet_take) (defBody s_Sheet_take) (defScope s_Sheet_take) .none kV42 dc42 pm42 an42 cd42 ct42), sl42⟩)
    (c42 : PySem.W.codeIn K cd42 "Sheet.take" = true)
    (k42 : PySem.W.keepIn K (.ref f42) = true)
    (a43 : PySem.W.findIn K (.ref C2) "change" = some (some (.ref f43)))
    (i43 : PySem.W.isFn K (.ref f43) = true)
    (l43 : K.lookup f43 = some ⟨oc43, od43, .func (PySem.W.fnOf "change" "Sheet.change" (defArgs s_Sheet_change) (defBody s_Sheet_change) (defScope s_Sheet_change) .none kV43 dc43 pm43 an43 cd43 ct43), sl43⟩)
    (c43 : PySem.W.codeIn K cd43 "Sheet.change" = true)
    (k43 : PySem.W.keepIn K (.ref f43) = true)
    (a44 : PySem.W.findIn K (.ref C2) "need_place" = some (some (.ref f44)))
    (i44 : PySem.W.isFn K (.ref f44) = true)
    (l44 : K.lookup f44 = some ⟨oc44, od44, .func (PySem.W.fnOf "need_place" "Sheet.need_place" (defArgs s_Sheet_need_place) (defBody s_Sheet_need_place) (defScope s_Sheet_need_place) .none kV44 dc44 pm44 an44 cd44 ct44), sl44⟩)
    (c44 : PySem.W.codeIn K cd44 "Sheet.need_place" = true)
    (k44 : PySem.W.keepIn K (.ref f44) = true)
    (a45 : PySem.W.findIn K (.ref C2) "strike" = some (some (.ref f45)))
    (i45 : PySem.W.isFn K (.ref f45) = true)
    (l45 : K.lookup f45 = some ⟨oc45, od45, .func (PySem.W.fnOf "strike" "Sheet.strike" (defArgs s_Sheet_strike) (defBody s_Sheet_strike) (defScope s_Sheet_strike) .none kV45 dc45 pm45 an45 cd45 ct45), sl45⟩)
    (c45 : PySem.W.codeIn K cd45 "Sheet.strike" = true)
    (k45 : PySem.W.keepIn K (.ref f45) = true)
    (a46 : PySem.W.findIn K (.ref C2) "erase" = some (some (.ref f46)))
    (i46 : PySem.W.isFn K (.ref f46) = true)
    (l46 : K.lookup f46 = some ⟨oc46, od46, .func (PySem.W.fnOf "erase" "Sheet.erase" (defArgs s_Sheet_erase) (defBody s_Sheet_erase) (defScope s_Sheet_erase) .none kV46 dc46 pm46 an46 cd46 ct46), sl46⟩)
    (c46 : PySem.W.codeIn K cd46 "Sheet.erase" = true)
    (k46 : PySem.W.keepIn K (.ref f46) = true)
    (a47 : PySem.W.findIn K (.ref C2) "part" = some (some (.ref f47)))
    (i47 : PySem.W.isFn K (.ref f47) = true)
    (l47 : K.lookup f47 = some ⟨oc47, od47, .func (PySem.W.fnOf "part" "Sheet.part" (defArgs s_Sheet_part) (defBody s_Sheet_part) (defScope s_Sheet_part) .none kV47 dc47 pm47 an47 cd47 ct47), sl47⟩)
    (c47 : PySem.W.codeIn K cd47 "Sheet.part" = true)
    (k47 : PySem.W.keepIn K (.ref f47) = true)
    (a48 : PySem.W.findIn K (.ref C2) "unite" = some (some (.ref f48)))
    (i48 : PySem.W.isFn K (.ref f48) = true)
    (l48 : K.lookup f48 = some ⟨oc48, od48, .func (PySem.W.fnOf "unite" "Sheet.unite" (defArgs s_Sheet_unite) (defBody s_Sheet_unite) (defScope s_Sheet_unite) .none kV48 dc48 pm48 an48 cd48 ct48), sl48⟩)
    (c48 : PySem.W.codeIn K cd48 "Sheet.unite" = true)
    (k48 : PySem.W.keepIn K (.ref f48) = true)
    (a49 : PySem.W.findIn K (.ref C2) "back" = some (some (.ref f49)))
    (i49 : PySem.W.isFn K (.ref f49) = true)
    (l49 : K.lookup f49 = some ⟨oc49, od49, .func (PySem.W.fnOf "back" "Sheet.back" (defArgs s_Sheet_back) (defBody s_Sheet_back) (defScope s_Sheet_back) .none kV49 dc49 pm49 an49 cd49 ct49), sl49⟩)
    (c49 : PySem.W.codeIn K cd49 "Sheet.back" = true)
    (k49 : PySem.W.keepIn K (.ref f49) = true)
    (a50 : PySem.W.nsIn K mainGlobals "_law_do" = some (some (.ref f50)))
    (l50 : K.lookup f50 = some ⟨oc50, od50, .func (PySem.W.fnOf "_law_do" "_law_do" (defArgs s_law_do) (defBody s_law_do) (defScope s_law_do) .none kV50 dc50 pm50 an50 cd50 ct50), sl50⟩)
    (c50 : PySem.W.codeIn K cd50 "_law_do" = true)
    (k50 : PySem.W.keepIn K (.ref f50) = true)
    (a51 : PySem.W.nsIn K mainGlobals "_law_told" = some (some (.ref f51)))
    (l51 : K.lookup f51 = some ⟨oc51, od51, .func (PySem.W.fnOf "_law_told" "_law_told" (defArgs s_law_told) (defBody s_law_told) (defScope s_law_told) .none kV51 dc51 pm51 an51 cd51 ct51), sl51⟩)
    (c51 : PySem.W.codeIn K cd51 "_law_told" = true)
    (k51 : PySem.W.keepIn K (.ref f51) = true)
    (a52 : PySem.W.findIn K (.ref C2) "__init__" = some (some (.ref f52)))
    (i52 : PySem.W.isFn K (.ref f52) = true)
    (l52 : K.lookup f52 = some ⟨oc52, od52, .func (PySem.W.fnOf "__init__" "Sheet.__init__" (defArgs s_Sheet_init) (defBody s_Sheet_init) (defScope s_Sheet_init) .none kV52 dc52 pm52 an52 cd52 ct52), sl52⟩)
    (c52 : PySem.W.codeIn K cd52 "Sheet.__init__" = true)
    (k52 : PySem.W.keepIn K (.ref f52) = true)
    (a53 : PySem.W.nsIn K mainGlobals "law" = some (some (.ref f53)))
    (l53 : K.lookup f53 = some ⟨oc53, od53, .func (PySem.W.fnOf "law" "law" (defArgs s_law) (defBody s_law) (defScope s_law) .none kV53 dc53 pm53 an53 cd53 ct53), sl53⟩)
    (c53 : PySem.W.codeIn K cd53 "law" = true)
    (k53 : PySem.W.keepIn K (.ref f53) = true)
    : ∃ fd : FuncData, (∀ (s : Shared) (u : Value), BindsTo s fd ⟨[u], []⟩ [("_law_script", u)]) ∧ ∀ base : Heap, K.In base → base.Ns mainGlobals mg → FnOk l.prog w K mg base (L2.CX l.prog w) 10 fa fd ["_law_script"] (spLaw 63) := by
  have e := hfa.symm.trans (PySem.W.mg_of X G a53)
  cases e
  let W : Wd := ⟨K, fun n => match n with | 12 => C1 | 13 => C2 | 3 => C3 | 4 => C4 | 0 => C5 | 8 => C6 | 10 => C7 | _ => 0, payOf, []⟩
  have T : Txt W mg := ⟨PySem.W.mg_none_of X G zb_len, PySem.W.mg_none_of X G zb_int, PySem.W.mg_none_of X G zb_list, PySem.W.mg_none_of X G zb_range, PySem.W.mg_none_of X G zb_min, PySem.W.mg_none_of X G zb_ord, PySem.W.mg_none_of X G zb_str, PySem.W.mg_none_of X G zb_isinstance, PySem.W.mg_none_of X G zb_enumerate, PySem.W.mg_none_of X G zb_max, PySem.W.mg_none_of X G zb_bool, PySem.W.mg_none_of X G zb_tuple, PySem.W.mg_none_of X G zb_zip, ⟨_, PySem.W.mg_of X G zk_FIRST_SIGN⟩, ⟨_, PySem.W.mg_of X G zk_LAST_SIGN⟩, ⟨_, PySem.W.mg_of X G zk_BARRED⟩, ⟨_, PySem.W.mg_of X G zk_MOST_WIDE⟩, ⟨_, PySem.W.mg_of X G zk_MOST_ROWS⟩, ⟨_, PySem.W.mg_of X G zk_NEAR⟩, ⟨_, PySem.W.mg_of X G zk_MOST_SIGNS⟩, ⟨_, PySem.W.mg_of X G zk_MOST_CELLS⟩, ⟨_, PySem.W.mg_of X G zk_MOST_GAP⟩, ⟨_, PySem.W.mg_of X G zk_MOST_LEAST⟩, ⟨_, PySem.W.mg_of X G zk_FIGURES⟩, ⟨_, PySem.W.mg_of X G zk_TAB⟩, ⟨pg_Stretch, hd_Stretch, po_Stretch, sa_Stretch⟩, ⟨pg_Sheet, hd_Sheet, po_Sheet, sa_Sheet⟩, nf_Stretch_cells, nf_Stretch_end, nf_Stretch_begin, nf_Stretch_column, nf_Sheet_rows, nf_Sheet_lefts, nf_Sheet_past, nf_Sheet_style, ⟨xe_BadRow, PySem.W.mg_of X G aC_BadRow, xk_BadRow, xs_BadRow, xt_BadRow⟩, ⟨xe_BadCell, PySem.W.mg_of X G aC_BadCell, xk_BadCell, xs_BadCell, xt_BadCell⟩, PySem.W.mg_of X G aC_GrowError, (fun c hc => by rcases List.mem_cons.mp hc with rfl | hc; exact PySem.W.exm_ref zb_GrowError zh_GrowError zt_GrowError zc_BadRow_GrowError; rcases List.mem_cons.mp hc with rfl | hc; exact PySem.W.exm_ref zb_GrowError zh_GrowError zt_GrowError zc_BadCell_GrowError; cases hc)⟩
  refine ⟨PySem.W.fnOf "law" "law" (defArgs s_law) (defBody s_law) (defScope s_law) .none kV53 dc53 pm53 an53 cd53 ct53, fun s v => .of_eq rfl, fun base _ _ => ?_⟩
  have FI_BadLines : Fun W.K "__init__" "BadLines.__init__" s_BadLines_init fi_BadLines _ := fun_mk (st := s_BadLines_init) li_BadLines ci_BadLines ki_BadLines
  have i_BadLines := ini_BadLines (P := l.prog) (w := w) (base := base) FI_BadLines ⟨PySem.W.mg_of X G aC_GrowError, gsp, grd, gfc⟩ ⟨⟨⟨_, _, _, _, _, _, _, _, _, _, _, _, _, _, _, xo_BadLines, xv_BadLines⟩, sx_BadLines, xs_BadLines, xt_BadLines, xk_BadLines⟩, xi_BadLines, xf_BadLines, xn_BadLines, PySem.W.mg_of X G aC_BadLines⟩ rfl
  have FI_BadStroke : Fun W.K "__init__" "BadStroke.__init__" s_BadStroke_init fi_BadStroke _ := fun_mk (st := s_BadStroke_init) li_BadStroke ci_BadStroke ki_BadStroke
  have i_BadStroke := ini_BadStroke (P := l.prog) (w := w) (base := base) FI_BadStroke ⟨PySem.W.mg_of X G aC_GrowError, gsp, grd, gfc⟩ ⟨⟨⟨_, _, _, _, _, _, _, _, _, _, _, _, _, _, _, xo_BadStroke, xv_BadStroke⟩, sx_BadStroke, xs_BadStroke, xt_BadStroke, xk_BadStroke⟩, xi_BadStroke, xf_BadStroke, xn_BadStroke, PySem.W.mg_of X G aC_BadStroke⟩ rfl
  have F1 : Fun W.K "_law_begun" "_law_begun" s_law_begun f1 _ := fun_mk (st := s_law_begun) l1 c1 k1
  have c_law_begun := (ok_law_begun (P := l.prog) (w := w) (base := base) F1 (PySem.W.mg_of X G a1) T )
  have F2 : Fun W.K "_law_take" "_law_take" s_law_take f2 _ := fun_mk (st := s_law_take) l2 c2 k2
  have c_law_take := (ok_law_take (P := l.prog) (w := w) (base := base) F2 (PySem.W.mg_of X G a2) T )
  have F3 : Fun W.K "_law_sign" "_law_sign" s_law_sign f3 _ := fun_mk (st := s_law_sign) l3 c3 k3
  have c_law_sign := (ok_law_sign (P := l.prog) (w := w) (base := base) F3 (PySem.W.mg_of X G a3) T c_law_take)
  have F4 : Fun W.K "_law_line" "_law_line" s_law_line f4 _ := fun_mk (st := s_law_line) l4 c4 k4
  have c_law_line := (ok_law_line (P := l.prog) (w := w) (base := base) F4 (PySem.W.mg_of X G a4) T c_law_take c_law_sign)
  have F5 : Fun W.K "_law_line_near" "_law_line_near" s_law_line_near f5 _ := fun_mk (st := s_law_line_near) l5 c5 k5
  have c_law_line_near := (ok_law_line_near (P := l.prog) (w := w) (base := base) F5 (PySem.W.mg_of X G a5) T c_law_take c_law_sign)
  have F6 : Fun W.K "_law_lines_two" "_law_lines_two" s_law_lines_two f6 _ := fun_mk (st := s_law_lines_two) l6 c6 k6
  have c_law_lines_two := (ok_law_lines_two (P := l.prog) (w := w) (base := base) F6 (PySem.W.mg_of X G a6) T c_law_take c_law_line c_law_line_near)
  have F7 : Fun W.K "is_sign" "is_sign" s_is_sign f7 _ := fun_mk (st := s_is_sign) l7 c7 k7
  have c_is_sign := (ok_is_sign (P := l.prog) (w := w) (base := base) F7 (PySem.W.mg_of X G a7) T )
  have F8 : Fun W.K "is_line" "is_line" s_is_line f8 _ := fun_mk (st := s_is_line) l8 c8 k8
  have c_is_line := (ok_is_line (P := l.prog) (w := w) (base := base) F8 (PySem.W.mg_of X G a8) T c_is_sign)
  have F9 : Fun W.K "need_lines" "need_lines" s_need_lines f9 _ := fun_mk (st := s_need_lines) l9 c9 k9
  have c_need_lines := (ok_need_lines (P := l.prog) (w := w) (base := base) F9 (PySem.W.mg_of X G a9) T c_is_line i_BadLines)
  have F10 : Fun W.K "strokes_of" "strokes_of" s_strokes_of f10 _ := fun_mk (st := s_strokes_of) l10 c10 k10
  have c_strokes_of := (ok_strokes_of (P := l.prog) (w := w) (base := base) F10 (PySem.W.mg_of X G a10) T )
  have F11 : Fun W.K "strokes" "strokes" s_strokes f11 _ := fun_mk (st := s_strokes) l11 c11 k11
  have c_strokes := (ok_strokes (P := l.prog) (w := w) (base := base) F11 (PySem.W.mg_of X G a11) T c_need_lines c_strokes_of)
  have F12 : Fun W.K "_law_bare" "_law_bare" s_law_bare f12 _ := fun_mk (st := s_law_bare) l12 c12 k12
  have c_law_bare := (ok_law_bare (P := l.prog) (w := w) (base := base) F12 (PySem.W.mg_of X G a12) T )
  have F13 : Fun W.K "is_number" "is_number" s_is_number f13 _ := fun_mk (st := s_is_number) l13 c13 k13
  have c_is_number := (ok_is_number (P := l.prog) (w := w) (base := base) F13 (PySem.W.mg_of X G a13) T )
  have F14 : Fun W.K "is_stroke" "is_stroke" s_is_stroke f14 _ := fun_mk (st := s_is_stroke) l14 c14 k14
  have c_is_stroke := (ok_is_stroke (P := l.prog) (w := w) (base := base) F14 (PySem.W.mg_of X G a14) T c_is_line c_is_number)
  have F15 : Fun W.K "painted" "painted" s_painted f15 _ := fun_mk (st := s_painted) l15 c15 k15
  have c_painted := (ok_painted (P := l.prog) (w := w) (base := base) F15 (PySem.W.mg_of X G a15) T c_need_lines c_is_stroke i_BadStroke)
  have F16 : Fun W.K "_law_fits" "_law_fits" s_law_fits f16 _ := fun_mk (st := s_law_fits) l16 c16 k16
  have c_law_fits := (ok_law_fits (P := l.prog) (w := w) (base := base) F16 (PySem.W.mg_of X G a16) T c_strokes c_law_bare c_painted)
  have F17 : Fun W.K "_law_cell" "_law_cell" s_law_cell f17 _ := fun_mk (st := s_law_cell) l17 c17 k17
  have c_law_cell := (ok_law_cell (P := l.prog) (w := w) (base := base) F17 (PySem.W.mg_of X G a17) T c_law_take c_law_sign)
  have F18 : Fun W.K "_law_row" "_law_row" s_law_row f18 _ := fun_mk (st := s_law_row) l18 c18 k18
  have c_law_row := (ok_law_row (P := l.prog) (w := w) (base := base) F18 (PySem.W.mg_of X G a18) T c_law_cell)
  have F19 : Fun W.K "_law_page" "_law_page" s_law_page f19 _ := fun_mk (st := s_law_page) l19 c19 k19
  have c_law_page := (ok_law_page (P := l.prog) (w := w) (base := base) F19 (PySem.W.mg_of X G a19) T c_law_take c_law_row)
  have F20 : Fun W.K "_law_style" "_law_style" s_law_style f20 _ := fun_mk (st := s_law_style) l20 c20 k20
  have c_law_style := (ok_law_style (P := l.prog) (w := w) (base := base) F20 (PySem.W.mg_of X G a20) T c_law_take)
  have F21 : Fun W.K "is_cell" "is_cell" s_is_cell f21 _ := fun_mk (st := s_is_cell) l21 c21 k21
  have c_is_cell := (ok_is_cell (P := l.prog) (w := w) (base := base) F21 (PySem.W.mg_of X G a21) T c_is_sign)
  have F22 : Fun W.K "is_row" "is_row" s_is_row f22 _ := fun_mk (st := s_is_row) l22 c22 k22
  have c_is_row := (ok_is_row (P := l.prog) (w := w) (base := base) F22 (PySem.W.mg_of X G a22) T c_is_cell)
  have F23 : Fun W.K "need_page" "need_page" s_need_page f23 _ := fun_mk (st := s_need_page) l23 c23 k23
  have c_need_page := (ok_need_page (P := l.prog) (w := w) (base := base) F23 (PySem.W.mg_of X G a23) T c_is_row)
  have F24 : Fun W.K "need_style" "need_style" s_need_style f24 _ := fun_mk (st := s_need_style) l24 c24 k24
  have c_need_style := (ok_need_style (P := l.prog) (w := w) (base := base) F24 (PySem.W.mg_of X G a24) T c_is_number)
  have F25 : Fun W.K "width" "Stretch.width" s_Stretch_width f25 _ := fun_mk (st := s_Stretch_width) l25 c25 k25
  have c_Stretch_width := (ok_Stretch_width (P := l.prog) (w := w) (base := base) F25 ⟨a25, i25, k25⟩ T )
  have F26 : Fun W.K "stops_by" "stops_by" s_stops_by f26 _ := fun_mk (st := s_stops_by) l26 c26 k26
  have c_stops_by := (ok_stops_by (P := l.prog) (w := w) (base := base) F26 (PySem.W.mg_of X G a26) T c_Stretch_width)
  have F27 : Fun W.K "is_figures" "is_figures" s_is_figures f27 _ := fun_mk (st := s_is_figures) l27 c27 k27
  have c_is_figures := (ok_is_figures (P := l.prog) (w := w) (base := base) F27 (PySem.W.mg_of X G a27) T )
  have F28 : Fun W.K "is_right" "Stretch.is_right" s_Stretch_is_right f28 _ := fun_mk (st := s_Stretch_is_right) l28 c28 k28
  have c_Stretch_is_right := (ok_Stretch_is_right (P := l.prog) (w := w) (base := base) F28 ⟨a28, i28, k28⟩ T c_is_figures)
  have F29 : Fun W.K "begins_by" "begins_by" s_begins_by f29 _ := fun_mk (st := s_begins_by) l29 c29 k29
  have c_begins_by := (ok_begins_by (P := l.prog) (w := w) (base := base) F29 (PySem.W.mg_of X G a29) T c_stops_by c_Stretch_is_right c_Stretch_width)
  have F30 : Fun W.K "__init__" "Stretch.__init__" s_Stretch_init f30 _ := fun_mk (st := s_Stretch_init) l30 c30 k30
  have n_Stretch := (ok_Stretch_init (P := l.prog) (w := w) (base := base) F30 ⟨mk_Stretch, a30, i30, kc_Stretch⟩ (PySem.W.mg_of X G aC_Stretch) T )
  have F31 : Fun W.K "stretches_of" "stretches_of" s_stretches_of f31 _ := fun_mk (st := s_stretches_of) l31 c31 k31
  have c_stretches_of := (ok_stretches_of (P := l.prog) (w := w) (base := base) F31 (PySem.W.mg_of X G a31) T n_Stretch)
  have F32 : Fun W.K "all_stretches" "all_stretches" s_all_stretches f32 _ := fun_mk (st := s_all_stretches) l32 c32 k32
  have c_all_stretches := (ok_all_stretches (P := l.prog) (w := w) (base := base) F32 (PySem.W.mg_of X G a32) T c_stretches_of)
  have F33 : Fun W.K "laid" "laid" s_laid f33 _ := fun_mk (st := s_laid) l33 c33 k33
  have c_laid := (ok_laid (P := l.prog) (w := w) (base := base) F33 (PySem.W.mg_of X G a33) T c_need_page c_need_style c_begins_by c_all_stretches)
  have F34 : Fun W.K "line_of" "line_of" s_line_of f34 _ := fun_mk (st := s_line_of) l34 c34 k34
  have c_line_of := (ok_line_of (P := l.prog) (w := w) (base := base) F34 (PySem.W.mg_of X G a34) T )
  have F35 : Fun W.K "shown" "shown" s_shown f35 _ := fun_mk (st := s_shown) l35 c35 k35
  have c_shown := (ok_shown (P := l.prog) (w := w) (base := base) F35 (PySem.W.mg_of X G a35) T c_laid c_line_of)
  have F36 : Fun W.K "page" "Sheet.page" s_Sheet_page f36 _ := fun_mk (st := s_Sheet_page) l36 c36 k36
  have c_Sheet_page := (ok_Sheet_page (P := l.prog) (w := w) (base := base) F36 ⟨a36, i36, k36⟩ T )
  have F37 : Fun W.K "_law_drawn" "_law_drawn" s_law_drawn f37 _ := fun_mk (st := s_law_drawn) l37 c37 k37
  have c_law_drawn := (ok_law_drawn (P := l.prog) (w := w) (base := base) F37 (PySem.W.mg_of X G a37) T c_law_take c_law_row c_law_sign)
  have F38 : Fun W.K "need_number" "Sheet.need_number" s_Sheet_need_number f38 _ := fun_mk (st := s_Sheet_need_number) l38 c38 k38
  have c_Sheet_need_number := (ok_Sheet_need_number (P := l.prog) (w := w) (base := base) F38 ⟨a38, i38, k38⟩ T c_is_number)
  have F39 : Fun W.K "need_row" "need_row" s_need_row f39 _ := fun_mk (st := s_need_row) l39 c39 k39
  have c_need_row := (ok_need_row (P := l.prog) (w := w) (base := base) F39 (PySem.W.mg_of X G a39) T c_is_row)
  have F40 : Fun W.K "turn_to" "Sheet.turn_to" s_Sheet_turn_to f40 _ := fun_mk (st := s_Sheet_turn_to) l40 c40 k40
  have c_Sheet_turn_to := (ok_Sheet_turn_to (P := l.prog) (w := w) (base := base) F40 ⟨a40, i40, k40⟩ T c_begins_by c_all_stretches)
  have F41 : Fun W.K "put" "Sheet.put" s_Sheet_put f41 _ := fun_mk (st := s_Sheet_put) l41 c41 k41
  have c_Sheet_put := (ok_Sheet_put (P := l.prog) (w := w) (base := base) F41 ⟨a41, i41, k41⟩ T c_Sheet_need_number c_need_row c_Sheet_turn_to)
  have F42 : Fun W.K "take" "Sheet.take" s_Sheet_take f42 _ := fun_mk (st := s_Sheet_take) l42 c42 k42
  have c_Sheet_take := (ok_Sheet_take (P := l.prog) (w := w) (base := base) F42 ⟨a42, i42, k42⟩ T c_Sheet_need_number c_Sheet_turn_to)
  have F43 : Fun W.K "change" "Sheet.change" s_Sheet_change f43 _ := fun_mk (st := s_Sheet_change) l43 c43 k43
  have c_Sheet_change := (ok_Sheet_change (P := l.prog) (w := w) (base := base) F43 ⟨a43, i43, k43⟩ T c_Sheet_need_number c_need_row c_Sheet_turn_to)
  have F44 : Fun W.K "need_place" "Sheet.need_place" s_Sheet_need_place f44 _ := fun_mk (st := s_Sheet_need_place) l44 c44 k44
  have c_Sheet_need_place := (ok_Sheet_need_place (P := l.prog) (w := w) (base := base) F44 ⟨a44, i44, k44⟩ T c_Sheet_need_number c_is_number)
  have F45 : Fun W.K "strike" "Sheet.strike" s_Sheet_strike f45 _ := fun_mk (st := s_Sheet_strike) l45 c45 k45
  have c_Sheet_strike := (ok_Sheet_strike (P := l.prog) (w := w) (base := base) F45 ⟨a45, i45, k45⟩ T c_Sheet_need_place c_is_sign c_is_cell c_Sheet_change)
  have F46 : Fun W.K "erase" "Sheet.erase" s_Sheet_erase f46 _ := fun_mk (st := s_Sheet_erase) l46 c46 k46
  have c_Sheet_erase := (ok_Sheet_erase (P := l.prog) (w := w) (base := base) F46 ⟨a46, i46, k46⟩ T c_Sheet_need_place c_is_cell c_Sheet_change)
  have F47 : Fun W.K "part" "Sheet.part" s_Sheet_part f47 _ := fun_mk (st := s_Sheet_part) l47 c47 k47
  have c_Sheet_part := (ok_Sheet_part (P := l.prog) (w := w) (base := base) F47 ⟨a47, i47, k47⟩ T c_Sheet_need_place c_Sheet_turn_to)
  have F48 : Fun W.K "unite" "Sheet.unite" s_Sheet_unite f48 _ := fun_mk (st := s_Sheet_unite) l48 c48 k48
  have c_Sheet_unite := (ok_Sheet_unite (P := l.prog) (w := w) (base := base) F48 ⟨a48, i48, k48⟩ T c_Sheet_need_number c_is_cell c_Sheet_turn_to)
  have F49 : Fun W.K "back" "Sheet.back" s_Sheet_back f49 _ := fun_mk (st := s_Sheet_back) l49 c49 k49
  have c_Sheet_back := (ok_Sheet_back (P := l.prog) (w := w) (base := base) F49 ⟨a49, i49, k49⟩ T c_begins_by c_all_stretches)
  have F50 : Fun W.K "_law_do" "_law_do" s_law_do f50 _ := fun_mk (st := s_law_do) l50 c50 k50
  have c_law_do := (ok_law_do (P := l.prog) (w := w) (base := base) F50 (PySem.W.mg_of X G a50) T c_Sheet_put c_Sheet_take c_Sheet_change c_Sheet_strike c_Sheet_erase c_Sheet_part c_Sheet_unite c_Sheet_back)
  have F51 : Fun W.K "_law_told" "_law_told" s_law_told f51 _ := fun_mk (st := s_law_told) l51 c51 k51
  have c_law_told := (ok_law_told (P := l.prog) (w := w) (base := base) F51 (PySem.W.mg_of X G a51) T c_law_do)
  have F52 : Fun W.K "__init__" "Sheet.__init__" s_Sheet_init f52 _ := fun_mk (st := s_Sheet_init) l52 c52 k52
  have n_Sheet := (ok_Sheet_init (P := l.prog) (w := w) (base := base) F52 ⟨mk_Sheet, a52, i52, kc_Sheet⟩ (PySem.W.mg_of X G aC_Sheet) T c_need_page c_need_style c_begins_by c_all_stretches)
  have F53 : Fun W.K "law" "law" s_law fa _ := fun_mk (st := s_law) l53 c53 k53
  exact law_of (ok_law (P := l.prog) (w := w) (base := base) F53 T c_law_begun c_law_lines_two c_law_fits c_law_page c_law_take c_law_style c_shown c_Sheet_page c_law_drawn c_law_told c_strokes n_Sheet) HT rfl
theorem walk {l : PySem.W.OpenLaw} {q : Program} {loose : List Str} {XP : (Str → Option Value) → Heap → Prop} {YP : World → Heap → Prop} {d : DefRec} {K : Params → PySem.W.Frag} (hn : l.most = some 63) (hdf : d.params.defaults = []) (hL : ∀ w : World, noList (K w.params))
    (hY : ∀ (w : World) (h : Heap), YP w h → (K w.params).In h)
    (F : ∀ (w : World) (mg : Str → Option Value) (fa : Addr) (h : Heap), (K w.params).In h → h.Ns mainGlobals mg → mg d.name = some (.ref fa) →
      ∃ fd : FuncData, (∀ (s : Shared) (u : Value), BindsTo s fd ⟨[u], []⟩ [("_law_script", u)]) ∧ ∀ base : Heap, (K w.params).In base → base.Ns mainGlobals mg → FnOk l.prog w (K w.params) mg base (L2.CX l.prog w) 10 fa fd ["_law_script"] (spLaw 63)) :
    PySem.W.WalkO q loose XP YP l.row.toRowW d [] (fun f vs => PySem.call f vs) := law_walk (n := 63) (k := 10) (x := "_law_script") hn (by decide) hdf ⟨rfl, by decide, by decide⟩ hL hY F
end W22
open PySem PySem.W PyProof.Rows in
set_option maxRecDepth 100000 in
set_option maxHeartbeats 0 in
theorem PySem.Challenge.cw_tabgrow_k22_whole_drawn_anew_where_it_di_holds : PySem.Challenge.rw_tabgrow_k22_whole_drawn_anew_where_it_di.Holds := by
  w_on; o_law; k_head; (case hw => w_witness2)
  k_fill
  refine W22.walk (l := PySem.Challenge.rw_tabgrow_k22_whole_drawn_anew_where_it_di) rfl rfl ?L (fun w h Y => PySem.W.kIn_of Y) ?F
  case L => exact fun w => Dl.noList_of rfl
  case F =>
    intro w mg fa h KX G hmg
    refine' W22.all_mk Dl.law_k22_true KX G hmg ?zb_len ?zb_int ?zb_list ?zb_range ?zb_min ?zb_ord ?zb_str ?zb_isinstance ?zb_enumerate ?zb_max ?zb_bool ?zb_tuple ?zb_zip ?zk_FIRST_SIGN ?zk_LAST_SIGN ?zk_BARRED ?zk_MOST_WIDE ?zk_MOST_ROWS ?zk_NEAR ?zk_MOST_SIGNS ?zk_MOST_CELLS ?zk_MOST_GAP ?zk_MOST_LEAST ?zk_FIGURES ?zk_TAB ?aC_Stretch ?pg_Stretch ?hd_Stretch ?po_Stretch ?sa_Stretch ?mk_Stretch ?kc_Stretch ?aC_Sheet ?pg_Sheet ?hd_Sheet ?po_Sheet ?sa_Sheet ?mk_Sheet ?kc_Sheet ?aC_BadRow ?aC_BadCell ?aC_GrowError ?aC_BadLines ?aC_BadStroke ?xe_BadRow ?xk_BadRow ?xs_BadRow ?xt_BadRow ?xe_BadCell ?xk_BadCell ?xs_BadCell ?xt_BadCell ?zb_GrowError ?zh_GrowError ?zt_GrowError ?zc_BadRow_GrowError ?zc_BadCell_GrowError ?xo_BadLines ?xv_BadLines ?sx_BadLines ?xs_BadLines ?xt_BadLines ?xk_BadLines ?xi_BadLines ?xf_BadLines ?xn_BadLines ?li_BadLines ?ci_BadLines ?ki_BadLines ?xo_BadStroke ?xv_BadStroke ?sx_BadStroke ?xs_BadStroke ?xt_BadStroke ?xk_BadStroke ?xi_BadStroke ?xf_BadStroke ?xn_BadStroke ?li_BadStroke ?ci_BadStroke ?ki_BadStroke ?gsp ?grd ?gfc ?nf_Stretch_cells ?nf_Stretch_end ?nf_Stretch_begin ?nf_Stretch_column ?nf_Sheet_rows ?nf_Sheet_lefts ?nf_Sheet_past ?nf_Sheet_style ?a1 ?l1 ?c1 ?k1 ?a2 ?l2 ?c2 ?k2 ?a3 ?l3 ?c3 ?k3 ?a4 ?l4 ?c4 ?k4 ?a5 ?l5 ?c5 ?k5 ?a6 ?l6 ?c6 ?k6 ?a7 ?l7 ?c7 ?k7 ?a8 ?l8 ?c8 ?k8 ?a9 ?l9 ?c9 ?k9 ?a10 ?l10 ?c10 ?k10 ?a11 ?l11 ?c11 ?k11 ?a12 ?l12 ?c12 ?k12 ?a13 ?l13 ?c13 ?k13 ?a14 ?l14 ?c14 ?k14 ?a15 ?l15 ?c15 ?k15 ?a16 ?l16 ?c16 ?k16 ?a17 ?l17 ?c17 ?k17 ?a18 ?l18 ?c18 ?k18 ?a19 ?l19 ?c19 ?k19 ?a20 ?l20 ?c20 ?k20 ?a21 ?l21 ?c21 ?k21 ?a22 ?l22 ?c22 ?k22 ?a23 ?l23 ?c23 ?k23 ?a24 ?l24 ?c24 ?k24 ?a25 ?i25 ?l25 ?c25 ?k25 ?a26 ?l26 ?c26 ?k26 ?a27 ?l27 ?c27 ?k27 ?a28 ?i28 ?l28 ?c28 ?k28 ?a29 ?l29 ?c29 ?k29 ?a30 ?i30 ?l30 ?c30 ?k30 ?a31 ?l31 ?c31 ?k31 ?a32 ?l32 ?c32 ?k32 ?a33 ?l33 ?c33 ?k33 ?a34 ?l34 ?c34 ?k34 ?a35 ?l35 ?c35 ?k35 ?a36 ?i36 ?l36 ?c36 ?k36 ?a37 ?l37 ?c37 ?k37 ?a38 ?i38 ?l38 ?c38 ?k38 ?a39 ?l39 ?c39 ?k39 ?a40 ?i40 ?l40 ?c40 ?k40 ?a41 ?i41 ?l41 ?c41 ?k41 ?a42 ?i42 ?l42 ?c42 ?k42 ?a43 ?i43 ?l43 ?c43 ?k43 ?a44 ?i44 ?l44 ?c44 ?k44 ?a45 ?i45 ?l45 ?c45 ?k45 ?a46 ?i46 ?l46 ?c46 ?k46 ?a47 ?i47 ?l47 ?c47 ?k47 ?a48 ?i48 ?l48 ?c48 ?k48 ?a49 ?i49 ?l49 ?c49 ?k49 ?a50 ?l50 ?c50 ?k50 ?a51 ?l51 ?c51 ?k51 ?a52 ?i52 ?l52 ?c52 ?k52 ?a53 ?l53 ?c53 ?k53
    (case zb_len => k_is)
    (case zb_int => k_is)
    (case zb_list => k_is)
    (case zb_range => k_is)
    (case zb_min => k_is)
    (case zb_ord => k_is)
    (case zb_str => k_is)
    (case zb_isinstance => k_is)
    (case zb_enumerate => k_is)
    (case zb_max => k_is)
    (case zb_bool => k_is)
    (case zb_tuple => k_is)
    (case zb_zip => k_is)
    (case zk_FIRST_SIGN => k_is)
    (case zk_LAST_SIGN => k_is)
    (case zk_BARRED => k_is)
    (case zk_MOST_WIDE => k_is)
    (case zk_MOST_ROWS => k_is)
    (case zk_NEAR => k_is)
    (case zk_MOST_SIGNS => k_is)
    (case zk_MOST_CELLS => k_is)
    (case zk_MOST_GAP => k_is)
    (case zk_MOST_LEAST => k_is)
    (case zk_FIGURES => k_is)
    (case zk_TAB => k_is)
    (case aC_Stretch => k_is)
    (case pg_Stretch => k_is)
    (case hd_Stretch => k_is)
    (case po_Stretch => k_is)
    (case sa_Stretch => k_is)
    (case mk_Stretch => k_is)
    (case kc_Stretch => k_is)
    (case aC_Sheet => k_is)
    (case pg_Sheet => k_is)
    (case hd_Sheet => k_is)
    (case po_Sheet => k_is)
    (case sa_Sheet => k_is)
    (case mk_Sheet => k_is)
    (case kc_Sheet => k_is)
    (case aC_BadRow => k_is)
    (case aC_BadCell => k_is)
    (case aC_GrowError => k_is)
    (case aC_BadLines => k_is)
    (case aC_BadStroke => k_is)
    (case xe_BadRow => k_exc)
    (case xk_BadRow => k_is)
    (case xs_BadRow => k_is)
    (case xt_BadRow => k_is)
    (case xe_BadCell => k_exc)
    (case xk_BadCell => k_is)
    (case xs_BadCell => k_is)
    (case xt_BadCell => k_is)
    (case zb_GrowError => k_is)
    (case zh_GrowError => k_is)
    (case zt_GrowError => k_is)
    (case zc_BadRow_GrowError => first | k_is | rfl)
    (case zc_BadCell_GrowError => first | k_is | rfl)
    (case xo_BadLines => k_is)
    (case xv_BadLines => first | rfl | decide +kernel)
    (case sx_BadLines => k_is)
    (case xs_BadLines => k_is)
    (case xt_BadLines => k_is)
    (case xk_BadLines => k_is)
    (case xi_BadLines => k_is)
    (case xf_BadLines => k_is)
    (case xn_BadLines => k_is)
    (case li_BadLines => k_is)
    (case ci_BadLines => k_is)
    (case ki_BadLines => k_is)
    (case xo_BadStroke => k_is)
    (case xv_BadStroke => first | rfl | decide +kernel)
    (case sx_BadStroke => k_is)
    (case xs_BadStroke => k_is)
    (case xt_BadStroke => k_is)
    (case xk_BadStroke => k_is)
    (case xi_BadStroke => k_is)
    (case xf_BadStroke => k_is)
    (case xn_BadStroke => k_is)
    (case li_BadStroke => k_is)
    (case ci_BadStroke => k_is)
    (case ki_BadStroke => k_is)
    (case gsp => k_is)
    (case grd => k_is)
    (case gfc => k_is)
    (case nf_Stretch_cells => k_is)
    (case nf_Stretch_end => k_is)
    (case nf_Stretch_begin => k_is)
    (case nf_Stretch_column => k_is)
    (case nf_Sheet_rows => k_is)
    (case nf_Sheet_lefts => k_is)
    (case nf_Sheet_past => k_is)
    (case nf_Sheet_style => k_is)
    (case a1 => k_is)
    (case l1 => k_is)
    (case c1 => k_is)
    (case k1 => k_is)
    (case a2 => k_is)
    (case l2 => k_is)
    (case c2 => k_is)
    (case k2 => k_is)
    (case a3 => k_is)
    (case l3 => k_is)
    (case c3 => k_is)
    (case k3 => k_is)
    (case a4 => k_is)
    (case l4 => k_is)
    (case c4 => k_is)
    (case k4 => k_is)
    (case a5 => k_is)
    (case l5 => k_is)
    (case c5 => k_is)
    (case k5 => k_is)
    (case a6 => k_is)
    (case l6 => k_is)
    (case c6 => k_is)
    (case k6 => k_is)
    (case a7 => k_is)
    (case l7 => k_is)
    (case c7 => k_is)
    (case k7 => k_is)
    (case a8 => k_is)
    (case l8 => k_is)
    (case c8 => k_is)
    (case k8 => k_is)
    (case a9 => k_is)
    (case l9 => k_is)
    (case c9 => k_is)
    (case k9 => k_is)
    (case a10 => k_is)
    (case l10 => k_is)
    (case c10 => k_is)
    (case k10 => k_is)
    (case a11 => k_is)
    (case l11 => k_is)
    (case c11 => k_is)
    (case k11 => k_is)
    (case a12 => k_is)
    (case l12 => k_is)
    (case c12 => k_is)
    (case k12 => k_is)
    (case a13 => k_is)
    (case l13 => k_is)
    (case c13 => k_is)
    (case k13 => k_is)
    (case a14 => k_is)
    (case l14 => k_is)
    (case c14 => k_is)
    (case k14 => k_is)
    (case a15 => k_is)
    (case l15 => k_is)
    (case c15 => k_is)
    (case k15 => k_is)
    (case a16 => k_is)
    (case l16 => k_is)
    (case c16 => k_is)
    (case k16 => k_is)
    (case a17 => k_is)
    (case l17 => k_is)
    (case c17 => k_is)
    (case k17 => k_is)
    (case a18 => k_is)
    (case l18 => k_is)
    (case c18 => k_is)
    (case k18 => k_is)
    (case a19 => k_is)
    (case l19 => k_is)
    (case c19 => k_is)
    (case k19 => k_is)
    (case a20 => k_is)
    (case l20 => k_is)
    (case c20 => k_is)
    (case k20 => k_is)
    (case a21 => k_is)
    (case l21 => k_is)
    (case c21 => k_is)
    (case k21 => k_is)
    (case a22 => k_is)
    (case l22 => k_is)
    (case c22 => k_is)
    (case k22 => k_is)
    (case a23 => k_is)
    (case l23 => k_is)
    (case c23 => k_is)
    (case k23 => k_is)
    (case a24 => k_is)
    (case l24 => k_is)
    (case c24 => k_is)
    (case k24 => k_is)
    (case a25 => k_is)
    (case i25 => k_is)
    (case l25 => k_is)
    (case c25 => k_is)
    (case k25 => k_is)
    (case a26 => k_is)
    (case l26 => k_is)
    (case c26 => k_is)
    (case k26 => k_is)
    (case a27 => k_is)
    (case l27 => k_is)
    (case c27 => k_is)
    (case k27 => k_is)
    (case a28 => k_is)
    (case i28 => k_is)
    (case l28 => k_is)
    (case c28 => k_is)
    (case k28 => k_is)
    (case a29 => k_is)
    (case l29 => k_is)
    (case c29 => k_is)
    (case k29 => k_is)
    (case a30 => k_is)
    (case i30 => k_is)
    (case l30 => k_is)
    (case c30 => k_is)
    (case k30 => k_is)
    (case a31 => k_is)
    (case l31 => k_is)
    (case c31 => k_is)
    (case k31 => k_is)
    (case a32 => k_is)
    (case l32 => k_is)
    (case c32 => k_is)
    (case k32 => k_is)
    (case a33 => k_is)
    (case l33 => k_is)
    (case c33 => k_is)
    (case k33 => k_is)
    (case a34 => k_is)
    (case l34 => k_is)
    (case c34 => k_is)
    (case k34 => k_is)
    (case a35 => k_is)
    (case l35 => k_is)
    (case c35 => k_is)
    (case k35 => k_is)
    (case a36 => k_is)
    (case i36 => k_is)
    (case l36 => k_is)
    (case c36 => k_is)
    (case k36 => k_is)
    (case a37 => k_is)
    (case l37 => k_is)
    (case c37 => k_is)
    (case k37 => k_is)
    (case a38 => k_is)
    (case i38 => k_is)
    (case l38 => k_is)
    (case c38 => k_is)
    (case k38 => k_is)
    (case a39 => k_is)
    (case l39 => k_is)
    (case c39 => k_is)
    (case k39 => k_is)
    (case a40 => k_is)
    (case i40 => k_is)
    (case l40 => k_is)
    (case c40 => k_is)
    (case k40 => k_is)
    (case a41 => k_is)
    (case i41 => k_is)
    (case l41 => k_is)
    (case c41 => k_is)
    (case k41 => k_is)
    (case a42 => k_is)
    (case i42 => k_is)
    (case l42 => k_is)
    (case c42 => k_is)
    (case k42 => k_is)
    (case a43 => k_is)
    (case i43 => k_is)
    (case l43 => k_is)
    (case c43 => k_is)
    (case k43 => k_is)
    (case a44 => k_is)
    (case i44 => k_is)
    (case l44 => k_is)
    (case c44 => k_is)
    (case k44 => k_is)
    (case a45 => k_is)
    (case i45 => k_is)
    (case l45 => k_is)
    (case c45 => k_is)
    (case k45 => k_is)
    (case a46 => k_is)
    (case i46 => k_is)
    (case l46 => k_is)
    (case c46 => k_is)
    (case k46 => k_is)
    (case a47 => k_is)
    (case i47 => k_is)
    (case l47 => k_is)
    (case c47 => k_is)
    (case k47 => k_is)
    (case a48 => k_is)
    (case i48 => k_is)
    (case l48 => k_is)
    (case c48 => k_is)
    (case k48 => k_is)
    (case a49 => k_is)
    (case i49 => k_is)
    (case l49 => k_is)
    (case c49 => k_is)
    (case k49 => k_is)
    (case a50 => k_is)
    (case l50 => k_is)
    (case c50 => k_is)
    (case k50 => k_is)
    (case a51 => k_is)
    (case l51 => k_is)
    (case c51 => k_is)
    (case k51 => k_is)
    (case a52 => k_is)
    (case i52 => k_is)
    (case l52 => k_is)
    (case c52 => k_is)
    (case k52 => k_is)
    (case a53 => k_is)
    (case l53 => k_is)
    (case c53 => k_is)
    (case k53 => k_is)
#print axioms PySem.Challenge.cw_tabgrow_k22_whole_drawn_anew_where_it_di_holds
