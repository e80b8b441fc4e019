import PyProof.Rows.All
import Wide.All
import OpenK.AllK
import Wide.FinOn
import HandS.ForMost
import HandS.ForExc
import HandS.TupAny
import HandS.TupMul
import HandS.Style
import HandS.Wide
import HandS.IsInst
import HandS.Zip
import KE.GoesZip
import KE.GoesMore
import HandS.StrMore
import HandS.Deep
import KE.GoesEnum
import PySem.Challenge.RW_tabgrow_k14_cursors_go
set_option Elab.async false
set_option linter.all false
set_option maxRecDepth 100000
/-! ## DlBase -/
/-! Plain data over the abstract heap, and what code does to it. -/
namespace Dl
open PySem L2

/-- data: plain values, frozen tuples and lists, and references into the store -/
inductive D where
  | non | bl (b : Bool) | int (i : Int) | str (s : List Nat) | tup (ds : List D) | lst (ds : List D) | ref (n : Nat) | scr (ns : List Int)
  deriving Inhabited

mutual
def D.beq : D → D → Bool
  | .non, .non => true
  | .bl a, .bl b => a == b
  | .int a, .int b => a == b
  | .str a, .str b => a == b
  | .tup a, .tup b => D.beqs a b
  | .lst a, .lst b => D.beqs a b
  | .ref a, .ref b => a == b
  | .scr a, .scr b => a == b
  | _, _ => false
def D.beqs : List D → List D → Bool
  | [], [] => true
  | x :: xs, y :: ys => D.beq x y && D.beqs xs ys
  | _, _ => false
end
mutual
theorem D.beq_refl : ∀ d : D, D.beq d d = true
  | .non => rfl
  | .bl a => by simp [D.beq]
  | .int a => by simp [D.beq]
  | .str a => by simp [D.beq]
  | .tup a => by unfold D.beq; exact D.beqs_refl a
  | .lst a => by unfold D.beq; exact D.beqs_refl a
  | .ref a => by simp [D.beq]
  | .scr a => by simp [D.beq]
theorem D.beqs_refl : ∀ ds : List D, D.beqs ds ds = true
  | [] => rfl
  | x :: xs => by unfold D.beqs; rw [D.beq_refl x, D.beqs_refl xs]; rfl
end
mutual
theorem D.eq_of_beq : ∀ (d e : D), D.beq d e = true → d = e
  | .non, e, h => by cases e <;> simp_all [D.beq]
  | .bl a, e, h => by cases e <;> simp_all [D.beq]
  | .int a, e, h => by cases e <;> simp_all [D.beq]
  | .str a, e, h => by cases e <;> simp_all [D.beq]
  | .ref a, e, h => by cases e <;> simp_all [D.beq]
  | .scr a, e, h => by cases e <;> simp_all [D.beq]
  | .tup a, e, h => by
    cases e with
    | tup b => unfold D.beq at h; rw [D.eqs_of_beqs a b h]
    | _ => simp [D.beq] at h
  | .lst a, e, h => by
    cases e with
    | lst b => unfold D.beq at h; rw [D.eqs_of_beqs a b h]
    | _ => simp [D.beq] at h
theorem D.eqs_of_beqs : ∀ (ds es : List D), D.beqs ds es = true → ds = es
  | [], es, h => by cases es <;> simp_all [D.beqs]
  | x :: xs, es, h => by
    cases es with
    | nil => simp [D.beqs] at h
    | cons y ys =>
      unfold D.beqs at h
      rw [Bool.and_eq_true] at h
      rw [D.eq_of_beq x y h.1, D.eqs_of_beqs xs ys h.2]
end

/-- what stands in the store -/
inductive Ob where
  | lst (ds : List D)
  | ins (C : Nat) (fs : List (Str × D))
  | dK (kvs : List (Key × D))
  | dT (kvs : List (List Key × D))
  | dead
abbrev Store := List Ob
abbrev Env := List (Option D)

/-- the longest text, list -/
def LIM : Nat := 1000000

/-- how an end came: a value, an exception (its class, what it bears), or no word is said -/
inductive R (A : Type) where
  | ok (a : A)
  | exc (c : Nat) (p : Option D) (st : Store)
  | bad
def R.bind {A B : Type} (r : R A) (f : A → R B) : R B := match r with
  | .ok a => f a
  | .exc c p st => .exc c p st
  | .bad => .bad
@[simp] theorem R.bind_ok {A B : Type} (a : A) (f : A → R B) : (R.ok a).bind f = f a := rfl
@[simp] theorem R.bind_exc {A B : Type} (c : Nat) (p : Option D) (st : Store) (f : A → R B) : (R.exc c p st).bind f = .exc c p st := rfl
@[simp] theorem R.bind_bad {A B : Type} (f : A → R B) : (R.bad).bind f = R.bad := rfl
/-- a value that may lack -/
def R.of {A : Type} : Option A → R A
  | some a => .ok a
  | none => .bad
@[simp] theorem R.of_some {A : Type} (a : A) : R.of (some a) = .ok a := rfl
@[simp] theorem R.of_none {A : Type} : R.of (none : Option A) = .bad := rfl

/-- the world: the written part, the classes by number, the one field of an exception's class -/
structure Wd where
  K : PySem.W.Frag
  cls : Nat → Addr
  pay : Nat → Option Str

mutual
inductive Rep (F : Hp) (rho : List Addr) : V → D → Prop
  | non : Rep F rho .non .non
  | bl (b : Bool) : Rep F rho (.bl b) (.bl b)
  | int (i : Int) : Rep F rho (.int i) (.int i)
  | str (s : List Nat) : s.all (fun c => decide (c < 128)) = true → s.length ≤ LIM → Rep F rho (.str ⟨s.toArray⟩) (.str s)
  | tup {a : Addr} {vs : List V} {ds : List D} : F a = some (.tup vs) → Reps F rho vs ds → Rep F rho (.ref a) (.tup ds)
  | lst {a : Addr} {vs : List V} {ds : List D} : F a = some (.lst vs) → Reps F rho vs ds → Rep F rho (.ref a) (.lst ds)
  | ref {a : Addr} {n : Nat} : rho[n]? = some a → Rep F rho (.ref a) (.ref n)
  | scr {a : Addr} {o : Obj} {ns : List Int} : F a = some (.frz o (.lst (ns.map V.int))) → Rep F rho (.ref a) (.scr ns)
inductive Reps (F : Hp) (rho : List Addr) : List V → List D → Prop
  | nil : Reps F rho [] []
  | cons {v : V} {vs : List V} {d : D} {ds : List D} : Rep F rho v d → Reps F rho vs ds → Reps F rho (v :: vs) (d :: ds)
end

def Ext (r r' : List Addr) : Prop := ∀ (i : Nat) (a : Addr), r[i]? = some a → r'[i]? = some a
theorem Ext.refl (r : List Addr) : Ext r r := fun _ _ h => h
theorem Ext.trans {a b c : List Addr} (h : Ext a b) (k : Ext b c) : Ext a c := fun i x e => k i x (h i x e)
theorem Ext.snoc (r : List Addr) (a : Addr) : Ext r (r ++ [a]) := fun i x e => by
  have h := (List.getElem?_eq_some_iff.mp e).1
  rw [List.getElem?_append_left h]; exact e

section
variable {F F' : Hp} {r r' : List Addr}
mutual
theorem Rep.mono (s : Same F F') (x : Ext r r') : ∀ {d : D} {v : V}, Rep F r v d → Rep F' r' v d
  | _, _, .non => .non
  | _, _, .bl b => .bl b
  | _, _, .int i => .int i
  | _, _, .str t h1 h2 => .str t h1 h2
  | _, _, .tup h k => .tup (s _ _ h) (Reps.mono s x k)
  | _, _, .lst h k => .lst (s _ _ h) (Reps.mono s x k)
  | _, _, .ref h => .ref (x _ _ h)
  | _, _, .scr h => .scr (s _ _ h)
theorem Reps.mono (s : Same F F') (x : Ext r r') : ∀ {ds : List D} {vs : List V}, Reps F r vs ds → Reps F' r' vs ds
  | _, _, .nil => .nil
  | _, _, .cons h k => .cons (Rep.mono s x h) (Reps.mono s x k)
end
end
section
variable {F : Hp} {r : List Addr}
theorem Reps.length : ∀ {vs : List V} {ds : List D}, Reps F r vs ds → vs.length = ds.length
  | _, _, .nil => rfl
  | _, _, .cons _ k => by simp [Reps.length k]
theorem Reps.get : ∀ {vs : List V} {ds : List D} {i : Nat} {d : D}, Reps F r vs ds → ds[i]? = some d → ∃ v, vs[i]? = some v ∧ Rep F r v d
  | _, _, _, _, .nil, e => by simp at e
  | _, _, 0, _, .cons h _, e => by simp at e; subst e; exact ⟨_, rfl, h⟩
  | _, _, i + 1, d, .cons _ k, e => by
    obtain ⟨v, h1, h2⟩ := Reps.get (i := i) k (by simpa using e)
    exact ⟨v, by simpa using h1, h2⟩
theorem Reps.getV : ∀ {vs : List V} {ds : List D} {i : Nat} {v : V}, Reps F r vs ds → vs[i]? = some v → ∃ d, ds[i]? = some d ∧ Rep F r v d
  | _, _, _, _, .nil, e => by simp at e
  | _, _, 0, _, .cons h _, e => by simp at e; subst e; exact ⟨_, rfl, h⟩
  | _, _, i + 1, d, .cons _ k, e => by
    obtain ⟨v, h1, h2⟩ := Reps.getV (i := i) k (by simpa using e)
    exact ⟨v, by simpa using h1, h2⟩
theorem Reps.append : ∀ {vs ws : List V} {ds es : List D}, Reps F r vs ds → Reps F r ws es → Reps F r (vs ++ ws) (ds ++ es)
  | _, _, _, _, .nil, k => k
  | _, _, _, _, .cons h t, k => .cons h (Reps.append t k)
theorem Reps.take : ∀ {vs : List V} {ds : List D} (n : Nat), Reps F r vs ds → Reps F r (vs.take n) (ds.take n)
  | _, _, 0, _ => .nil
  | _, _, _ + 1, .nil => .nil
  | _, _, n + 1, .cons h t => .cons h (Reps.take n t)
theorem Reps.drop : ∀ {vs : List V} {ds : List D} (n : Nat), Reps F r vs ds → Reps F r (vs.drop n) (ds.drop n)
  | _, _, 0, h => h
  | _, _, _ + 1, .nil => .nil
  | _, _, n + 1, .cons _ t => Reps.drop n t
theorem Reps.set {v : V} {d : D} (h : Rep F r v d) : ∀ {vs : List V} {ds : List D} (i : Nat), Reps F r vs ds → Reps F r (vs.set i v) (ds.set i d)
  | _, _, _, .nil => .nil
  | _, _, 0, .cons _ t => .cons h t
  | _, _, i + 1, .cons q t => .cons q (Reps.set h i t)
theorem Reps.eraseIdx : ∀ {vs : List V} {ds : List D} (i : Nat), Reps F r vs ds → Reps F r (vs.eraseIdx i) (ds.eraseIdx i)
  | _, _, _, .nil => .nil
  | _, _, 0, .cons _ t => t
  | _, _, i + 1, .cons q t => .cons q (Reps.eraseIdx i t)
theorem Reps.reverse : ∀ {vs : List V} {ds : List D}, Reps F r vs ds → Reps F r vs.reverse ds.reverse
  | _, _, .nil => .nil
  | _, _, .cons h t => by rw [List.reverse_cons, List.reverse_cons]; exact Reps.append (Reps.reverse t) (.cons h .nil)
theorem Reps.flat {vs : List V} {ds : List D} (h : Reps F r vs ds) : ∀ k : Nat, Reps F r (List.replicate k vs).flatten (List.replicate k ds).flatten
  | 0 => .nil
  | k + 1 => by rw [List.replicate_succ, List.replicate_succ, List.flatten_cons, List.flatten_cons]; exact Reps.append h (Reps.flat h k)
theorem Reps.snoc {vs : List V} {ds : List D} {v : V} {d : D} (h : Reps F r vs ds) (k : Rep F r v d) : Reps F r (vs ++ [v]) (ds ++ [d]) := Reps.append h (.cons k .nil)
theorem Rep.isNon {v : V} {d : D} (h : Rep F r v d) : decide (v = .non) = (match d with | .non => true | _ => false) := by
  cases h <;> simp
end

/-- the fields of an instance -/
def Flds (F : Hp) (r : List Addr) : List (Str × V) → List (Str × D) → Prop
  | [], [] => True
  | (f, v) :: vs, (g, d) :: ds => f = g ∧ Rep F r v d ∧ Flds F r vs ds
  | _, _ => False
theorem Flds.mono {F F' : Hp} {r r' : List Addr} (s : Same F F') (x : Ext r r') : ∀ {vs : List (Str × V)} {ds : List (Str × D)}, Flds F r vs ds → Flds F' r' vs ds
  | [], [], _ => trivial
  | (f, v) :: vs, (g, d) :: ds, ⟨e, h, k⟩ => ⟨e, h.mono s x, Flds.mono s x k⟩
  | [], _ :: _, h => h.elim
  | _ :: _, [], h => h.elim
theorem Flds.look {F : Hp} {r : List Addr} {f : Str} : ∀ {vs : List (Str × V)} {ds : List (Str × D)} {d : D}, Flds F r vs ds → ds.lookup f = some d → ∃ v, vs.lookup f = some v ∧ Rep F r v d
  | [], [], _, _, e => by simp at e
  | (g, v) :: vs, (g', d') :: ds, d, ⟨e, h, k⟩, q => by
    subst e
    rw [List.lookup_cons] at q ⊢
    cases hb : f == g with
    | true => rw [hb] at q; cases q; exact ⟨v, rfl, h⟩
    | false => rw [hb] at q; exact Flds.look k q
  | [], _ :: _, _, h, _ => h.elim
  | _ :: _, [], _, h, _ => h.elim
theorem Flds.lookN {F : Hp} {r : List Addr} {f : Str} : ∀ {vs : List (Str × V)} {ds : List (Str × D)}, Flds F r vs ds → ds.lookup f = none → vs.lookup f = none
  | [], [], _, _ => rfl
  | (g, v) :: vs, (g', d') :: ds, ⟨e, h, k⟩, q => by
    subst e
    rw [List.lookup_cons] at q ⊢
    cases hb : f == g with
    | true => rw [hb] at q; cases q
    | false => rw [hb] at q; exact Flds.lookN k q
  | [], _ :: _, h, _ => h.elim
  | _ :: _, [], h, _ => h.elim
def putD (f : Str) (v : D) : List (Str × D) → List (Str × D)
  | [] => [(f, v)]
  | (g, u) :: r => if g = f then (g, v) :: r else (g, u) :: putD f v r
theorem Flds.put {F : Hp} {r : List Addr} {f : Str} {v : V} {d : D} (h : Rep F r v d) : ∀ {vs : List (Str × V)} {ds : List (Str × D)}, Flds F r vs ds → Flds F r (putF f v vs) (putD f d ds)
  | [], [], _ => ⟨rfl, h, trivial⟩
  | (g, v') :: vs, (g', d') :: ds, ⟨e, q, k⟩ => by
    subst e
    unfold putF putD
    split
    · exact ⟨rfl, h, k⟩
    · exact ⟨rfl, q, Flds.put h k⟩
  | [], _ :: _, h => h.elim
  | _ :: _, [], h => h.elim
theorem Flds.length {F : Hp} {r : List Addr} : ∀ {vs : List (Str × V)} {ds : List (Str × D)}, Flds F r vs ds → vs.length = ds.length
  | [], [], _ => rfl
  | (g, v) :: vs, (g', d) :: ds, ⟨_, _, k⟩ => by simp [Flds.length k]
  | [], _ :: _, h => h.elim
  | _ :: _, [], h => h.elim

def KVr {k : Type} (F : Hp) (r : List Addr) : List (k × V) → List (k × D) → Prop
  | [], [] => True
  | (f, v) :: vs, (g, d) :: ds => f = g ∧ Rep F r v d ∧ KVr F r vs ds
  | _, _ => False
theorem KVr.mono {k : Type} {F F' : Hp} {r r' : List Addr} (s : Same F F') (x : Ext r r') : ∀ {vs : List (k × V)} {ds : List (k × D)}, KVr F r vs ds → KVr F' r' vs ds
  | [], [], _ => trivial
  | (f, v) :: vs, (g, d) :: ds, ⟨e, h, k⟩ => ⟨e, h.mono s x, KVr.mono s x k⟩
  | [], _ :: _, h => h.elim
  | _ :: _, [], h => h.elim

/-- the object at a is the store's o -/
def ObOk (W : Wd) (F : Hp) (r : List Addr) (H : Hp) (a : Addr) : Ob → Prop
  | .lst ds => ∃ vs, H a = some (.lst vs) ∧ Reps F r vs ds
  | .ins C fs => ∃ dx vfs, H a = some (.ins (W.cls C) dx vfs) ∧ Flds F r vfs fs
  | .dK kvs => ∃ vs, H a = some (.dK vs) ∧ KVr F r vs kvs
  | .dT kvs => ∃ vs, H a = some (.dT vs) ∧ KVr F r vs kvs
  | .dead => H a ≠ none
theorem ObOk.mono {W : Wd} {F F' H H' : Hp} {r r' : List Addr} {a : Addr} (s : Same F F') (x : Ext r r') (h : H' a = H a) : ∀ {o : Ob}, ObOk W F r H a o → ObOk W F' r' H' a o
  | .lst _, ⟨vs, e, k⟩ => ⟨vs, h.trans e, k.mono s x⟩
  | .ins _ _, ⟨dx, vs, e, k⟩ => ⟨dx, vs, h.trans e, k.mono s x⟩
  | .dK _, ⟨vs, e, k⟩ => ⟨vs, h.trans e, k.mono s x⟩
  | .dT _, ⟨vs, e, k⟩ => ⟨vs, h.trans e, k.mono s x⟩
  | .dead, e => by
    show H' a ≠ none
    rw [h]; exact e
theorem ObOk.ne {W : Wd} {F H : Hp} {r : List Addr} {a : Addr} : ∀ {o : Ob}, ObOk W F r H a o → H a ≠ none
  | .lst _, ⟨vs, e, k⟩ => by rw [e]; simp
  | .ins _ _, ⟨dx, vs, e, k⟩ => by rw [e]; simp
  | .dK _, ⟨vs, e, k⟩ => by rw [e]; simp
  | .dT _, ⟨vs, e, k⟩ => by rw [e]; simp
  | .dead, e => e

/-- the heap H is the frozen part F, the store's objects at r, a part Rs that is none of ours, and waste -/
structure Holds (W : Wd) (Rs F H : Hp) (r : List Addr) (st : Store) : Prop where
  sF : Same F H
  sR : Same Rs H
  dj : ∀ a, F a ≠ none → Rs a = none
  len : r.length = st.length
  nd : r.Nodup
  own : ∀ a ∈ r, F a = none ∧ Rs a = none
  ob : ∀ (i : Nat) (a : Addr) (o : Ob), r[i]? = some a → st[i]? = some o → ObOk W F r H a o

section
variable {W : Wd} {Rs F H : Hp} {r : List Addr} {st : Store}
theorem Same.none_of {F H : Hp} (s : Same F H) {a : Addr} (h : H a = none) : F a = none := s.free h
theorem Holds.freeF (h : Holds W Rs F H r st) {p : Addr} (e : H p = none) : F p = none := h.sF.free e
theorem Holds.freeR (h : Holds W Rs F H r st) {p : Addr} (e : H p = none) : Rs p = none := h.sR.free e
theorem Holds.there (h : Holds W Rs F H r st) {a : Addr} (e : a ∈ r) : H a ≠ none := by
  obtain ⟨i, hi, rfl⟩ := List.mem_iff_getElem.mp e
  have hs : i < st.length := by rw [← h.len]; exact hi
  exact (h.ob i r[i] st[i] (by simp [hi]) (by simp [hs])).ne
theorem Holds.notin (h : Holds W Rs F H r st) {p : Addr} (e : H p = none) : p ∉ r := fun m => h.there m e
/-- a new frozen object -/
theorem Holds.frozen (h : Holds W Rs F H r st) {p : Addr} {o : HO} (e : H p = none) : Same F (upd F p o) ∧ Holds W Rs (upd F p o) (upd H p o) r st := by
  have sF : Same F (upd F p o) := fun b u q => by rw [upd_ne (ne_of_none q (h.freeF e))]; exact q
  refine ⟨sF, ⟨fun b u q => ?_, fun b u q => ?_, fun b q => ?_, h.len, h.nd, fun b m => ?_, fun i a o' e1 e2 => ?_⟩⟩
  · by_cases hb : b = p
    · subst hb; rw [upd_same] at q ⊢; exact q
    · rw [upd_ne hb] at q ⊢; exact h.sF _ _ q
  · rw [upd_ne (ne_of_none q (h.freeR e))]; exact h.sR _ _ q
  · by_cases hb : b = p
    · rw [hb]; exact h.freeR e
    · rw [upd_ne hb] at q; exact h.dj b q
  · have hb : b ≠ p := fun z => h.notin e (z ▸ m)
    rw [upd_ne hb]; exact h.own b m
  · have hb : a ≠ p := fun z => h.notin e (z ▸ List.mem_of_getElem? e1)
    exact (h.ob i a o' e1 e2).mono sF (Ext.refl _) (upd_ne hb)
/-- a new object of the store -/
theorem Holds.fresh (h : Holds W Rs F H r st) {p : Addr} {o : HO} {b : Ob} (e : H p = none) (k : ObOk W F (r ++ [p]) (upd H p o) p b) : Holds W Rs F (upd H p o) (r ++ [p]) (st ++ [b]) := by
  refine ⟨fun c u q => ?_, fun c u q => ?_, h.dj, by simp [h.len], ?_, fun c m => ?_, fun i a o' e1 e2 => ?_⟩
  · rw [upd_ne (ne_of_none q (h.freeF e))]; exact h.sF _ _ q
  · rw [upd_ne (ne_of_none q (h.freeR e))]; exact h.sR _ _ q
  · rw [List.nodup_append]
    refine ⟨h.nd, by simp, fun a ha b hb => ?_⟩
    have : b = p := by simpa using hb
    subst this
    exact fun z => h.notin e (z ▸ ha)
  · rcases List.mem_append.mp m with m | m
    · exact h.own c m
    · have : c = p := by simpa using m
      subst this
      exact ⟨h.freeF e, h.freeR e⟩
  · by_cases hi : i < r.length
    · rw [List.getElem?_append_left hi] at e1
      rw [List.getElem?_append_left (by rw [← h.len]; exact hi)] at e2
      have hb : a ≠ p := fun z => h.notin e (z ▸ List.mem_of_getElem? e1)
      exact (h.ob i a o' e1 e2).mono (Same.refl _) (Ext.snoc _ _) (upd_ne hb)
    · have hl : i = r.length := by
        have := (List.getElem?_eq_some_iff.mp e1).1
        simp at this; omega
      subst hl
      rw [List.getElem?_append_right (Nat.le_refl _)] at e1
      rw [List.getElem?_append_right (by rw [h.len]; exact Nat.le_refl _)] at e2
      simp at e1
      rw [h.len] at e2
      simp at e2
      subst e1; subst e2
      exact k
/-- an object of the store is changed -/
theorem Holds.write (h : Holds W Rs F H r st) {n : Nat} {p : Addr} {o : HO} {b : Ob} (e : r[n]? = some p) (k : ObOk W F r (upd H p o) p b) : Holds W Rs F (upd H p o) r (st.set n b) := by
  have mp : p ∈ r := List.mem_of_getElem? e
  obtain ⟨o1, o2⟩ := h.own p mp
  refine ⟨fun c u q => ?_, fun c u q => ?_, h.dj, by simp [h.len], h.nd, h.own, fun i a o' e1 e2 => ?_⟩
  · rw [upd_ne (fun z => by rw [z, o1] at q; cases q)]; exact h.sF _ _ q
  · rw [upd_ne (fun z => by rw [z, o2] at q; cases q)]; exact h.sR _ _ q
  · by_cases hi : i = n
    · subst hi
      rw [e] at e1; cases e1
      have hl : i < st.length := by rw [← h.len]; exact (List.getElem?_eq_some_iff.mp e).1
      rw [List.getElem?_set_self hl] at e2; cases e2
      exact k
    · rw [List.getElem?_set_ne (Ne.symm hi)] at e2
      have hb : a ≠ p := fun z => by
        subst z
        obtain ⟨h1, q1⟩ := List.getElem?_eq_some_iff.mp e
        obtain ⟨h2, q2⟩ := List.getElem?_eq_some_iff.mp e1
        exact hi ((List.getElem_inj h.nd).mp (q2.trans q1.symm))
      exact (h.ob i a o' e1 e2).mono (Same.refl _) (Ext.refl _) (upd_ne hb)
theorem Holds.get (h : Holds W Rs F H r st) {n : Nat} {o : Ob} (e : st[n]? = some o) : ∃ a, r[n]? = some a ∧ ObOk W F r H a o := by
  have hl : n < r.length := by rw [h.len]; exact (List.getElem?_eq_some_iff.mp e).1
  exact ⟨r[n], by simp [hl], h.ob n _ o (by simp [hl]) e⟩
/-- all else is put aside -/
def aside (F H : Hp) (r : List Addr) : Hp := fun a => if F a ≠ none ∨ a ∈ r then none else H a
theorem Holds.apart (h : Holds W Rs F H r st) : Holds W (aside F H r) F H r st := by
  refine ⟨h.sF, fun a o q => ?_, fun a q => ?_, h.len, h.nd, fun a m => ⟨(h.own a m).1, ?_⟩, h.ob⟩
  · unfold aside at q
    split at q
    · cases q
    · exact q
  · unfold aside; rw [if_pos (.inl q)]
  · unfold aside; rw [if_pos (.inr m)]
end

/-- the slots hold what the environment says -/
structure EnvOk (F : Hp) (r : List Addr) (sg : St) (env : Env) : Prop where
  len : sg.length = env.length
  at_ : ∀ (i : Nat) (d : D), env[i]? = some (some d) → ∃ v, sg[i]? = some (some v) ∧ Rep F r v d
theorem EnvOk.mono {F F' : Hp} {r r' : List Addr} {sg : St} {env : Env} (s : Same F F') (x : Ext r r') (h : EnvOk F r sg env) : EnvOk F' r' sg env :=
  ⟨h.len, fun i d e => let ⟨v, q, k⟩ := h.at_ i d e; ⟨v, q, k.mono s x⟩⟩
theorem EnvOk.set {F : Hp} {r : List Addr} {sg : St} {env : Env} {v : V} {d : D} (h : EnvOk F r sg env) (k : Rep F r v d) (i : Nat) : EnvOk F r (sg.set i (some v)) (env.set i (some d)) := by
  refine ⟨by simp [h.len], fun j e q => ?_⟩
  by_cases hj : i = j
  · subst hj
    by_cases hl : i < env.length
    · rw [List.getElem?_set_self hl] at q; cases q
      exact ⟨v, by rw [List.getElem?_set_self (by rw [h.len]; exact hl)], k⟩
    · rw [List.getElem?_eq_none (by simp; omega)] at q; cases q
  · rw [List.getElem?_set_ne hj] at q ⊢
    exact h.at_ j e q
theorem EnvOk.start {F : Hp} {r : List Addr} {vs : List V} {ds : List D} {n : Nat} (h : Reps F r vs ds) : EnvOk F r (vs.map some ++ List.replicate (n - vs.length) none) (ds.map some ++ List.replicate (n - ds.length) none) := by
  have hl := h.length
  refine ⟨by simp [hl], fun i d e => ?_⟩
  by_cases hi : i < ds.length
  · rw [List.getElem?_append_left (by simpa using hi), List.getElem?_map] at e
    cases q : ds[i]? with
    | none => rw [q] at e; simp at e
    | some d' =>
      rw [q] at e; simp at e; subst e
      obtain ⟨v, h1, h2⟩ := h.get q
      exact ⟨v, by rw [List.getElem?_append_left (by simp; omega), List.getElem?_map, h1]; rfl, h2⟩
  · rw [List.getElem?_append_right (by simpa using hi), List.getElem?_replicate] at e
    split at e <;> simp at e

/-! ### what is wanted behind code -/
def PayOk (W : Wd) (F : Hp) (r : List Addr) (H : Hp) (c : Nat) (od : Option Addr) : Option D → Prop
  | none => True
  | some d => ∃ f a v, W.pay c = some f ∧ od = some a ∧ H a = some (.xd [(f, v)]) ∧ Rep F r v d
def ExcPost (W : Wd) (Rs F : Hp) (r : List Addr) (c : Nat) (p : Option D) (st' : Store) (E : XK) : Prop :=
  ∀ F' H' r' od, Same F F' → Ext r r' → Holds W Rs F' H' r' st' → PayOk W F' r' H' c od p → E (.ref (W.cls c)) od H'
def PostX {A : Type} (W : Wd) (Rs F : Hp) (r : List Addr) (res : R A) (K : A → Prop) (E : XK) : Prop := match res with
  | .ok a => K a
  | .exc c p st' => ExcPost W Rs F r c p st' E
  | .bad => False
def onE (W : Wd) (Rs F : Hp) (r : List Addr) (Q : VK) : D × Store → Prop := fun a => ∀ F' H' r' v, Same F F' → Ext r r' → Holds W Rs F' H' r' a.2 → Rep F' r' v a.1 → Q v H'
def onA (W : Wd) (Rs F : Hp) (r : List Addr) (Q : List V → Hp → Prop) : List D × Store → Prop := fun a => ∀ F' H' r' vs, Same F F' → Ext r r' → Holds W Rs F' H' r' a.2 → Reps F' r' vs a.1 → Q vs H'
def onT (W : Wd) (Rs F : Hp) (r : List Addr) (Q : Bool → Hp → Prop) : Bool × Store → Prop := fun a => ∀ F' H' r', Same F F' → Ext r r' → Holds W Rs F' H' r' a.2 → Q a.1 H'
abbrev Post (W : Wd) (Rs F : Hp) (r : List Addr) (res : R (D × Store)) (Q : VK) (E : XK) : Prop := PostX W Rs F r res (onE W Rs F r Q) E
abbrev PostA (W : Wd) (Rs F : Hp) (r : List Addr) (res : R (List D × Store)) (Q : List V → Hp → Prop) (E : XK) : Prop := PostX W Rs F r res (onA W Rs F r Q) E
abbrev PostT (W : Wd) (Rs F : Hp) (r : List Addr) (res : R (Bool × Store)) (Q : Bool → Hp → Prop) (E : XK) : Prop := PostX W Rs F r res (onT W Rs F r Q) E
theorem ExcPost.later {W : Wd} {Rs F F1 : Hp} {r r1 : List Addr} {c : Nat} {p : Option D} {st' : Store} {E : XK} (s : Same F F1) (x : Ext r r1) (h : ExcPost W Rs F r c p st' E) : ExcPost W Rs F1 r1 c p st' E :=
  fun F' H' r' od s' x' => h F' H' r' od (s.trans s') (x.trans x')
section
variable {W : Wd} {Rs F F1 : Hp} {r r1 : List Addr} {E : XK}
theorem bindX {A B : Type} {res : R A} {f : A → R B} {K : B → Prop} {K' : A → Prop} (h : PostX W Rs F r (res.bind f) K E) (k : ∀ a, res = .ok a → PostX W Rs F r (f a) K E → K' a) : PostX W Rs F r res K' E := by
  cases res with
  | ok a => exact k a rfl h
  | exc c p st' => exact h
  | bad => exact h
theorem PostX.imp {A : Type} {res : R A} {K K' : A → Prop} (s : Same F F1) (x : Ext r r1) (h : PostX W Rs F r res K E) (k : ∀ a, K a → K' a) : PostX W Rs F1 r1 res K' E := by
  cases res with
  | ok a => exact k a h
  | exc c p st' => exact ExcPost.later s x h
  | bad => exact h
theorem Post.later {res : R (D × Store)} {Q : VK} (s : Same F F1) (x : Ext r r1) (h : Post W Rs F r res Q E) : Post W Rs F1 r1 res Q E :=
  PostX.imp s x h fun _ q F' H' r' v s' x' => q F' H' r' v (s.trans s') (x.trans x')
theorem PostA.later {res : R (List D × Store)} {Q : List V → Hp → Prop} (s : Same F F1) (x : Ext r r1) (h : PostA W Rs F r res Q E) : PostA W Rs F1 r1 res Q E :=
  PostX.imp s x h fun _ q F' H' r' v s' x' => q F' H' r' v (s.trans s') (x.trans x')
theorem PostT.later {res : R (Bool × Store)} {Q : Bool → Hp → Prop} (s : Same F F1) (x : Ext r r1) (h : PostT W Rs F r res Q E) : PostT W Rs F1 r1 res Q E :=
  PostX.imp s x h fun _ q F' H' r' s' x' => q F' H' r' (s.trans s') (x.trans x')
end

/-! ### the judgements -/
abbrev EV := Env → Store → R (D × Store)
abbrev TV := Env → Store → R (Bool × Store)
abbrev AV := Env → Store → R (List D × Store)
/-- e means f -/
def tDE (W : Wd) (E : XK) (f : EV) : TE := fun sg H Q => ∃ Rs F r env st, Holds W Rs F H r st ∧ EnvOk F r sg env ∧ Post W Rs F r (f env st) Q E
def DE (W : Wd) (X : Cx) (E : XK) (e : Expr) (f : EV) : Prop := PE X e (tDE W E f)
theorem DE.mk {W : Wd} {X : Cx} {E : XK} {e : Expr} {f : EV} {t : TE} (p : PE X e t) (q : ∀ Rs F H r sg env st Q, Holds W Rs F H r st → EnvOk F r sg env → Post W Rs F r (f env st) Q E → t sg H Q) : DE W X E e f :=
  ⟨fun pins s sg H Q I ⟨Rs, F, r, env, st, a, b, c⟩ => p.run pins s sg H Q I (q Rs F H r sg env st Q a b c)⟩
theorem DE.ex {W : Wd} {X : Cx} {E : XK} {e : Expr} {f : EV} (h : DE W X E e f) : ∃ t, PE X e t ∧ ∀ Rs F H r sg env st Q, Holds W Rs F H r st → EnvOk F r sg env → Post W Rs F r (f env st) Q E → t sg H Q :=
  ⟨_, h, fun Rs F H r sg env st Q a b c => ⟨Rs, F, r, env, st, a, b, c⟩⟩
def tDT (W : Wd) (E : XK) (f : TV) : TT := fun sg H Q => ∃ Rs F r env st, Holds W Rs F H r st ∧ EnvOk F r sg env ∧ PostT W Rs F r (f env st) Q E
def DT (W : Wd) (X : Cx) (E : XK) (e : Expr) (f : TV) : Prop := PT X e (tDT W E f)
theorem DT.mk {W : Wd} {X : Cx} {E : XK} {e : Expr} {f : TV} {t : TT} (p : PT X e t) (q : ∀ Rs F H r sg env st Q, Holds W Rs F H r st → EnvOk F r sg env → PostT W Rs F r (f env st) Q E → t sg H Q) : DT W X E e f :=
  ⟨fun pins s sg H Q I ⟨Rs, F, r, env, st, a, b, c⟩ => p.run pins s sg H Q I (q Rs F H r sg env st Q a b c)⟩
theorem DT.ex {W : Wd} {X : Cx} {E : XK} {e : Expr} {f : TV} (h : DT W X E e f) : ∃ t, PT X e t ∧ ∀ Rs F H r sg env st Q, Holds W Rs F H r st → EnvOk F r sg env → PostT W Rs F r (f env st) Q E → t sg H Q :=
  ⟨_, h, fun Rs F H r sg env st Q a b c => ⟨Rs, F, r, env, st, a, b, c⟩⟩
def tDW (W : Wd) (E : XK) (f : TV) : TT := fun sg H Q => ∃ Rs F r env st, Holds W Rs F H r st ∧ EnvOk F r sg env ∧ PostT W Rs F r (f env st) Q E
def DW (W : Wd) (X : Cx) (E : XK) (e : Expr) (f : TV) : Prop := PW X e (tDW W E f)
theorem DW.mk {W : Wd} {X : Cx} {E : XK} {e : Expr} {f : TV} {t : TT} (p : PW X e t) (q : ∀ Rs F H r sg env st Q, Holds W Rs F H r st → EnvOk F r sg env → PostT W Rs F r (f env st) Q E → t sg H Q) : DW W X E e f :=
  ⟨fun wh pins s sg H Q I ⟨Rs, F, r, env, st, a, b, c⟩ => p.run wh pins s sg H Q I (q Rs F H r sg env st Q a b c)⟩
theorem DW.ex {W : Wd} {X : Cx} {E : XK} {e : Expr} {f : TV} (h : DW W X E e f) : ∃ t, PW X e t ∧ ∀ Rs F H r sg env st Q, Holds W Rs F H r st → EnvOk F r sg env → PostT W Rs F r (f env st) Q E → t sg H Q :=
  ⟨_, h, fun Rs F H r sg env st Q a b c => ⟨Rs, F, r, env, st, a, b, c⟩⟩
def tDA (W : Wd) (E : XK) (f : AV) : TA := fun sg H Q => ∃ Rs F r env st, Holds W Rs F H r st ∧ EnvOk F r sg env ∧ PostA W Rs F r (f env st) Q E
def DA (W : Wd) (X : Cx) (E : XK) (e : List Expr) (f : AV) : Prop := PA X e (tDA W E f)
theorem DA.mk {W : Wd} {X : Cx} {E : XK} {e : List Expr} {f : AV} {t : TA} (p : PA X e t) (q : ∀ Rs F H r sg env st Q, Holds W Rs F H r st → EnvOk F r sg env → PostA W Rs F r (f env st) Q E → t sg H Q) : DA W X E e f :=
  ⟨fun pos pins s sg H Q I ⟨Rs, F, r, env, st, a, b, c⟩ => p.run pos pins s sg H Q I (q Rs F H r sg env st Q a b c)⟩
theorem DA.ex {W : Wd} {X : Cx} {E : XK} {e : List Expr} {f : AV} (h : DA W X E e f) : ∃ t, PA X e t ∧ ∀ Rs F H r sg env st Q, Holds W Rs F H r st → EnvOk F r sg env → PostA W Rs F r (f env st) Q E → t sg H Q :=
  ⟨_, h, fun Rs F H r sg env st Q a b c => ⟨Rs, F, r, env, st, a, b, c⟩⟩

/-- the ends of a statement -/
inductive SR where
  | nx (env : Env) (st : Store)
  | rt (d : D) (st : Store)
  | bk (env : Env) (st : Store)
  | ct (env : Env) (st : Store)
  | exc (c : Nat) (p : Option D) (st : Store)
  | bad
abbrev SV := Env → Store → SR
def PostF (W : Wd) (Rs F : Hp) (r : List Addr) (env' : Env) (st' : Store) (N : St → Hp → Prop) : Prop :=
  ∀ F' H' r' sg', Same F F' → Ext r r' → Holds W Rs F' H' r' st' → EnvOk F' r' sg' env' → N sg' H'
theorem PostF.later {W : Wd} {Rs F F1 : Hp} {r r1 : List Addr} {env' : Env} {st' : Store} {N : St → Hp → Prop} (s : Same F F1) (x : Ext r r1) (h : PostF W Rs F r env' st' N) : PostF W Rs F1 r1 env' st' N :=
  fun F' H' r' sg' s' x' => h F' H' r' sg' (s.trans s') (x.trans x')
def PostS (W : Wd) (Rs F : Hp) (r : List Addr) (res : SR) (D : Ends) (E : XK) : Prop := match res with
  | .nx env' st' => PostF W Rs F r env' st' D.nx
  | .rt d st' => ∀ F' H' r' v, Same F F' → Ext r r' → Holds W Rs F' H' r' st' → Rep F' r' v d → D.rt v H'
  | .bk env' st' => PostF W Rs F r env' st' D.bk
  | .ct env' st' => PostF W Rs F r env' st' D.ct
  | .exc c p st' => ExcPost W Rs F r c p st' E
  | .bad => False
theorem PostS.later {W : Wd} {Rs F F1 : Hp} {r r1 : List Addr} {res : SR} {D : Ends} {E : XK} (s : Same F F1) (x : Ext r r1) (h : PostS W Rs F r res D E) : PostS W Rs F1 r1 res D E := by
  cases res with
  | nx e t => exact PostF.later s x h
  | rt d t => exact fun F' H' r' v s' x' => h F' H' r' v (s.trans s') (x.trans x')
  | bk e t => exact PostF.later s x h
  | ct e t => exact PostF.later s x h
  | exc c p st' => exact ExcPost.later s x h
  | bad => exact h
def tDS (W : Wd) (E : XK) (f : SV) : TS := fun D sg H => ∃ Rs F r env st, Holds W Rs F H r st ∧ EnvOk F r sg env ∧ PostS W Rs F r (f env st) D E
def DS (W : Wd) (X : Cx) (E : XK) (e : Stmt) (f : SV) : Prop := PS X e (tDS W E f)
theorem DS.mk {W : Wd} {X : Cx} {E : XK} {e : Stmt} {f : SV} {t : TS} (p : PS X e t) (q : ∀ Rs F H r sg env st D, Holds W Rs F H r st → EnvOk F r sg env → PostS W Rs F r (f env st) D E → t D sg H) : DS W X E e f :=
  ⟨fun pins s sg H D I ⟨Rs, F, r, env, st, a, b, c⟩ => p.run pins s sg H D I (q Rs F H r sg env st D a b c)⟩
theorem DS.ex {W : Wd} {X : Cx} {E : XK} {e : Stmt} {f : SV} (h : DS W X E e f) : ∃ t, PS X e t ∧ ∀ Rs F H r sg env st D, Holds W Rs F H r st → EnvOk F r sg env → PostS W Rs F r (f env st) D E → t D sg H :=
  ⟨_, h, fun Rs F H r sg env st D a b c => ⟨Rs, F, r, env, st, a, b, c⟩⟩
def tDB (W : Wd) (E : XK) (f : SV) : TS := fun D sg H => ∃ Rs F r env st, Holds W Rs F H r st ∧ EnvOk F r sg env ∧ PostS W Rs F r (f env st) D E
def DB (W : Wd) (X : Cx) (E : XK) (e : List Stmt) (f : SV) : Prop := PSs X e (tDB W E f)
theorem DB.mk {W : Wd} {X : Cx} {E : XK} {e : List Stmt} {f : SV} {t : TS} (p : PSs X e t) (q : ∀ Rs F H r sg env st D, Holds W Rs F H r st → EnvOk F r sg env → PostS W Rs F r (f env st) D E → t D sg H) : DB W X E e f :=
  ⟨fun pins s sg H D I ⟨Rs, F, r, env, st, a, b, c⟩ => p.run pins s sg H D I (q Rs F H r sg env st D a b c)⟩
theorem DB.ex {W : Wd} {X : Cx} {E : XK} {e : List Stmt} {f : SV} (h : DB W X E e f) : ∃ t, PSs X e t ∧ ∀ Rs F H r sg env st D, Holds W Rs F H r st → EnvOk F r sg env → PostS W Rs F r (f env st) D E → t D sg H :=
  ⟨_, h, fun Rs F H r sg env st D a b c => ⟨Rs, F, r, env, st, a, b, c⟩⟩
/-- a def's meaning -/
abbrev FV := List D → Store → R (D × Store)
/-- a def's promise: it means g, for n arguments -/
def spD (W : Wd) (n : Nat) (g : FV) : Sp := fun vs H Q E => ∃ Rs F r st ds, Holds W Rs F H r st ∧ Reps F r vs ds ∧ ds.length = n ∧ Post W Rs F r (g ds st) Q E
def funD (n : Nat) (b : SV) : FV := fun ds st => match b (ds.map some ++ List.replicate (n - ds.length) none) st with
  | .nx _ st' => .ok (.non, st')
  | .rt d st' => .ok (d, st')
  | .exc c p st' => .exc c p st'
  | _ => .bad
end Dl
/-! ## DlExpr -/
/-! Expressions. -/
namespace Dl
open PySem L2

section
variable {W : Wd} {X : Cx} {E : XK}
/-! ### names and constants -/
def eV (i : Nat) : EV := fun env st => match env[i]? with
  | some (some d) => .ok (d, st)
  | _ => .bad
def eC (d : D) : EV := fun _ st => .ok (d, st)
theorem onE_here {Rs F H : Hp} {r : List Addr} {st : Store} {Q : VK} {v : V} {d : D} (h : Holds W Rs F H r st) (k : Rep F r v d) (q : onE W Rs F r Q (d, st)) : Q v H := q F H r v (Same.refl _) (Ext.refl _) h k
theorem de_var {i : Nat} {x : Str} {pos : Pos} (hN : X.N[i]? = some x) (hv : Vis X.env.scope x) (hd : (x == ("__debug__" : Str)) = false := by decide) (hcd : (x == ("__classdict__" : Str)) = false := by decide) : DE W X E (.Name x pos) (eV i) := by
  refine .mk (pe_var hN hv hd hcd) fun Rs F H r sg env st Q hH hE hP => ?_
  unfold eV at hP
  split at hP
  · rename_i d e
    obtain ⟨v, h1, h2⟩ := hE.at_ i d e
    exact ⟨v, h1, onE_here hH h2 hP⟩
  · exact hP.elim
theorem de_c {e : Expr} {v : V} {d : D} (h : PE X e (tC v)) (k : ∀ F r, Rep F r v d) : DE W X E e (eC d) :=
  .mk h fun Rs F H r sg env st Q hH hE hP => onE_here hH (k F r) hP
theorem de_int {i j pos} : DE W X E (.Constant (.int i) j pos) (eC (.int i)) := de_c pe_int fun _ _ => .int i
theorem de_bl {b j pos} : DE W X E (.Constant (.bool b) j pos) (eC (.bl b)) := de_c pe_bl fun _ _ => .bl b
theorem de_non {j pos} : DE W X E (.Constant .none j pos) (eC .non) := de_c pe_non fun _ _ => .non
theorem rep_str {x : Str} {s : List Nat} (h : x.cps.toList = s) (a : (s.all (fun c => decide (c < 128)) && decide (s.length ≤ LIM)) = true) (F : Hp) (r : List Addr) : Rep F r (.str x) (.str s) := by
  have e : x = ⟨s.toArray⟩ := by subst h; cases x; rfl
  rw [Bool.and_eq_true] at a
  rw [e]
  exact .str s a.1 (of_decide_eq_true a.2)
theorem de_str {x : Str} {s : List Nat} {j pos} (h : x.cps.toList = s) (a : (s.all (fun c => decide (c < 128)) && decide (s.length ≤ LIM)) = true) : DE W X E (.Constant (.str x) j pos) (eC (.str s)) := de_c pe_str (rep_str h a)
/-- a constant of the module -/
theorem de_globI {x : Str} {i : Int} {t : Tok} {pos : Pos} (hg : Gl X x) (hm : X.mg x = some (.int i t)) (hd : (x == ("__debug__" : Str)) = false := by decide) : DE W X E (.Name x pos) (eC (.int i)) := de_c (pe_glob hg hm (v := .int i) ⟨_, rfl⟩ hd) fun _ _ => .int i
theorem de_globS {x y : Str} {s : List Nat} {t : Tok} {pos : Pos} (hg : Gl X x) (hm : X.mg x = some (.str y t)) (h : y.cps.toList = s) (a : (s.all (fun c => decide (c < 128)) && decide (s.length ≤ LIM)) = true) (hd : (x == ("__debug__" : Str)) = false := by decide) : DE W X E (.Name x pos) (eC (.str s)) :=
  de_c (pe_glob hg hm (v := .str y) ⟨_, rfl⟩ hd) (rep_str h a)

/-! ### two values -/
abbrev G2 := Store → D → D → R (D × Store)
def eOp (g : G2) (fa fb : EV) : EV := fun env st => (fa env st).bind fun a => (fb env a.2).bind fun b => g b.2 a.1 b.1
/-- an operation of two values means g -/
def DOp (W : Wd) (X : Cx) (f : Value → Value → Sem Value) (g : G2) : Prop :=
  ∃ r, OpR X f r ∧ ∀ Rs F H rr st x y dx dy Q E, Holds W Rs F H rr st → Rep F rr x dx → Rep F rr y dy → Post W Rs F rr (g st dx dy) Q E → r x y H Q
theorem eOp_post {ta tb : TE} {rd : R2} {fa fb : EV} {g : G2}
    (qa : ∀ Rs F H r sg env st Q, Holds W Rs F H r st → EnvOk F r sg env → Post W Rs F r (fa env st) Q E → ta sg H Q)
    (qb : ∀ Rs F H r sg env st Q, Holds W Rs F H r st → EnvOk F r sg env → Post W Rs F r (fb env st) Q E → tb sg H Q)
    (qr : ∀ Rs F H rr st x y dx dy Q E, Holds W Rs F H rr st → Rep F rr x dx → Rep F rr y dy → Post W Rs F rr (g st dx dy) Q E → rd x y H Q)
    {Rs F H r sg env st Q} (hH : Holds W Rs F H r st) (hE : EnvOk F r sg env) (hP : Post W Rs F r (eOp g fa fb env st) Q E) : tOp rd ta tb sg H Q := by
  refine qa Rs F H r sg env st _ hH hE (bindX hP fun a ea q F1 H1 r1 v1 s1 x1 h1 k1 => ?_)
  refine qb Rs F1 H1 r1 sg env a.2 _ h1 (hE.mono s1 x1) (bindX (Post.later s1 x1 (res := (fb env a.2).bind _) q) fun b eb q2 F2 H2 r2 v2 s2 x2 h2 k2 => ?_)
  exact qr Rs F2 H2 r2 b.2 v1 v2 a.1 b.1 Q E h2 (k1.mono s2 x2) k2 (Post.later s2 x2 q2)
variable {a b : Expr} {fa fb : EV} {pos : Pos}
theorem de_op {op : Operator} {g : G2} (ho : DOp W X (binaryOp op) g) (ha : DE W X E a fa) (hb : DE W X E b fb) : DE W X E (.BinOp a op b pos) (eOp g fa fb) := by
  obtain ⟨r, hr, qr⟩ := ho
  obtain ⟨ta, pa, qa⟩ := ha.ex
  obtain ⟨tb, pb, qb⟩ := hb.ex
  exact .mk (pe_op hr pa pb) fun Rs F H rr sg env st Q hH hE hP => eOp_post qa qb qr hH hE hP
theorem de_cmp {op : CmpOp} {g : G2} (ho : DOp W X (compareOp op) g) (ha : DE W X E a fa) (hb : DE W X E b fb) (hm : behindInMarks op b = false) : DE W X E (.Compare a [op] [b] pos) (eOp g fa fb) := by
  obtain ⟨r, hr, qr⟩ := ho
  obtain ⟨ta, pa, qa⟩ := ha.ex
  obtain ⟨tb, pb, qb⟩ := hb.ex
  exact .mk (pe_cmpR hr pa pb hm) fun Rs F H rr sg env st Q hH hE hP => eOp_post qa qb qr hH hE hP
/-- a value that is a bool, as a test -/
def tv (f : EV) : TV := fun env st => (f env st).bind fun a => match a.1 with
  | .bl b => .ok (b, a.2)
  | _ => .bad
theorem tv_post {ta : TE} {f : EV} (qa : ∀ Rs F H r sg env st Q, Holds W Rs F H r st → EnvOk F r sg env → Post W Rs F r (f env st) Q E → ta sg H Q)
    {Rs F H r sg env st} {Q : Bool → Hp → Prop} (hH : Holds W Rs F H r st) (hE : EnvOk F r sg env) (hP : PostT W Rs F r (tv f env st) Q E) : ta sg H fun x H1 => ∃ k, x = .bl k ∧ Q k H1 := by
  refine qa Rs F H r sg env st _ hH hE (bindX hP fun a ea q F1 H1 r1 v1 s1 x1 h1 k1 => ?_)
  obtain ⟨d, st1⟩ := a
  cases d with
  | bl c => cases k1; exact ⟨c, rfl, q F1 H1 r1 s1 x1 h1⟩
  | _ => exact q.elim
theorem dt_cmp {op : CmpOp} {g : G2} (ho : DOp W X (compareOp op) g) (ha : DE W X E a fa) (hb : DE W X E b fb) (hm : behindInMarks op b = false) : DT W X E (.Compare a [op] [b] pos) (tv (eOp g fa fb)) := by
  obtain ⟨r, hr, qr⟩ := ho
  obtain ⟨ta, pa, qa⟩ := ha.ex
  obtain ⟨tb, pb, qb⟩ := hb.ex
  exact .mk (pt_cmpR hr pa pb hm) fun Rs F H rr sg env st Q hH hE hP => tv_post (fun Rs F H r sg env st Q hH hE hP => eOp_post qa qb qr hH hE hP) hH hE hP
theorem dt_val {e : Expr} {f : EV} (h : DE W X E e f) (he : ∀ whole, isTrue e X.env whole = (do let v ← whole; standAt e.pos; holding [v] (truthy v)) := by intro _; rfl) : DT W X E e (tv f) := by
  obtain ⟨t, p, q⟩ := h.ex
  exact .mk (pt_val p he) fun Rs F H rr sg env st Q hH hE hP => tv_post q hH hE hP
/-- a < b < c -/
def eChain (g g' : G2) (fa fb fc : EV) : EV := fun env st => (fa env st).bind fun a => (fb env a.2).bind fun b => (g b.2 a.1 b.1).bind fun z => match z.1 with
  | .bl true => (fc env z.2).bind fun c => g' c.2 b.1 c.1
  | .bl false => .ok (.bl false, z.2)
  | _ => .bad
theorem chain_post {c : Expr} {ta tb tc : TE} {rd rd' : R2} {fa fb fc : EV} {g g' : G2}
    (qa : ∀ Rs F H r sg env st Q, Holds W Rs F H r st → EnvOk F r sg env → Post W Rs F r (fa env st) Q E → ta sg H Q)
    (qb : ∀ Rs F H r sg env st Q, Holds W Rs F H r st → EnvOk F r sg env → Post W Rs F r (fb env st) Q E → tb sg H Q)
    (qc : ∀ Rs F H r sg env st Q, Holds W Rs F H r st → EnvOk F r sg env → Post W Rs F r (fc env st) Q E → tc sg H Q)
    (qr : ∀ Rs F H rr st x y dx dy Q E, Holds W Rs F H rr st → Rep F rr x dx → Rep F rr y dy → Post W Rs F rr (g st dx dy) Q E → rd x y H Q)
    (qr' : ∀ Rs F H rr st x y dx dy Q E, Holds W Rs F H rr st → Rep F rr x dx → Rep F rr y dy → Post W Rs F rr (g' st dx dy) Q E → rd' x y H Q)
    {Rs F H r sg env st Q} (hH : Holds W Rs F H r st) (hE : EnvOk F r sg env) (hP : Post W Rs F r (eChain g g' fa fb fc env st) Q E) : tChain rd rd' ta tb tc sg H Q := by
  refine qa Rs F H r sg env st _ hH hE (bindX hP fun a ea q F1 H1 r1 v1 s1 x1 h1 k1 => ?_)
  refine qb Rs F1 H1 r1 sg env a.2 _ h1 (hE.mono s1 x1) (bindX (Post.later s1 x1 (res := (fb env a.2).bind _) q) fun b eb q2 F2 H2 r2 v2 s2 x2 h2 k2 => ?_)
  refine qr Rs F2 H2 r2 b.2 v1 v2 a.1 b.1 _ E h2 (k1.mono s2 x2) k2 (bindX (Post.later s2 x2 (res := (g b.2 a.1 b.1).bind _) q2) fun z ez q3 F3 H3 r3 v3 s3 x3 h3 k3 => ?_)
  obtain ⟨dz, st3⟩ := z
  cases dz with
  | bl k =>
    cases k3
    refine ⟨k, rfl, ?_⟩
    cases k with
    | true =>
      show tc sg H3 fun u H4 => rd' v2 u H4 Q
      refine qc Rs F3 H3 r3 sg env st3 _ h3 (hE.mono ((s1.trans s2).trans s3) ((x1.trans x2).trans x3)) (bindX (Post.later s3 x3 (res := (fc env st3).bind _) q3) fun c ec q4 F4 H4 r4 v4 s4 x4 h4 k4 => ?_)
      exact qr' Rs F4 H4 r4 c.2 v2 v4 b.1 c.1 Q E h4 (k2.mono (s3.trans s4) (x3.trans x4)) k4 (Post.later s4 x4 q4)
    | false => exact q3 F3 H3 r3 (.bl false) s3 x3 h3 (.bl false)
  | _ => exact q3.elim
theorem de_chain {c : Expr} {fc : EV} {op op' : CmpOp} {g g' : G2} (ho : DOp W X (compareOp op) g) (ho' : DOp W X (compareOp op') g') (ha : DE W X E a fa) (hb : DE W X E b fb) (hc : DE W X E c fc)
    (hm : lastMarks [op, op'] [b, c] = false) : DE W X E (.Compare a [op, op'] [b, c] pos) (eChain g g' fa fb fc) := by
  obtain ⟨r, hr, qr⟩ := ho
  obtain ⟨r', hr', qr'⟩ := ho'
  obtain ⟨ta, pa, qa⟩ := ha.ex
  obtain ⟨tb, pb, qb⟩ := hb.ex
  obtain ⟨tc, pc, qc⟩ := hc.ex
  exact .mk (pe_chain hr hr' pa pb pc hm) fun Rs F H rr sg env st Q hH hE hP => chain_post (c := c) qa qb qc qr qr' hH hE hP
theorem dt_chain {c : Expr} {fc : EV} {op op' : CmpOp} {g g' : G2} (ho : DOp W X (compareOp op) g) (ho' : DOp W X (compareOp op') g') (ha : DE W X E a fa) (hb : DE W X E b fb) (hc : DE W X E c fc)
    (hm : lastMarks [op, op'] [b, c] = false) : DT W X E (.Compare a [op, op'] [b, c] pos) (tv (eChain g g' fa fb fc)) := by
  obtain ⟨r, hr, qr⟩ := ho
  obtain ⟨r', hr', qr'⟩ := ho'
  obtain ⟨ta, pa, qa⟩ := ha.ex
  obtain ⟨tb, pb, qb⟩ := hb.ex
  obtain ⟨tc, pc, qc⟩ := hc.ex
  exact .mk (pt_chain hr hr' pa pb pc hm) fun Rs F H rr sg env st Q hH hE hP => tv_post (fun Rs F H r sg env st Q hH hE hP => chain_post (c := c) qa qb qc qr qr' hH hE hP) hH hE hP

/-! ### and, or, not, if -/
def tAndD (f g : TV) : TV := fun env st => (f env st).bind fun a => if a.1 = true then g env a.2 else .ok (false, a.2)
def tOrD (f g : TV) : TV := fun env st => (f env st).bind fun a => if a.1 = true then .ok (true, a.2) else g env a.2
def tNotD (f : TV) : TV := fun env st => (f env st).bind fun a => .ok (!a.1, a.2)
variable {rest : List Expr} {ga gb : TV}
theorem onT_here {Rs F H : Hp} {r : List Addr} {st : Store} {Q : Bool → Hp → Prop} {b : Bool} (h : Holds W Rs F H r st) (q : onT W Rs F r Q (b, st)) : Q b H := q F H r (Same.refl _) (Ext.refl _) h
theorem dw_and1 (h : DT W X E a ga) : DW W X E (.BoolOp .And [a] pos) ga := let ⟨t, p, q⟩ := h.ex; .mk (pw_and1 p) q
theorem dw_or1 (h : DT W X E a ga) : DW W X E (.BoolOp .Or [a] pos) ga := let ⟨t, p, q⟩ := h.ex; .mk (pw_or1 p) q
theorem dw_and (ha : DT W X E a ga) (hb : DW W X E (.BoolOp .And (b :: rest) pos) gb) : DW W X E (.BoolOp .And (a :: b :: rest) pos) (tAndD ga gb) := by
  obtain ⟨ta, pa, qa⟩ := ha.ex
  obtain ⟨tb, pb, qb⟩ := hb.ex
  refine .mk (pw_and pa pb) fun Rs F H rr sg env st Q hH hE hP => ?_
  refine qa Rs F H rr sg env st _ hH hE (bindX hP fun a ea q F1 H1 r1 s1 x1 h1 => ?_)
  obtain ⟨c, st1⟩ := a
  cases c with
  | true => exact qb Rs F1 H1 r1 sg env st1 Q h1 (hE.mono s1 x1) (PostT.later s1 x1 q)
  | false => exact q F1 H1 r1 s1 x1 h1
theorem dw_or (ha : DT W X E a ga) (hb : DW W X E (.BoolOp .Or (b :: rest) pos) gb) : DW W X E (.BoolOp .Or (a :: b :: rest) pos) (tOrD ga gb) := by
  obtain ⟨ta, pa, qa⟩ := ha.ex
  obtain ⟨tb, pb, qb⟩ := hb.ex
  refine .mk (pw_or pa pb) fun Rs F H rr sg env st Q hH hE hP => ?_
  refine qa Rs F H rr sg env st _ hH hE (bindX hP fun a ea q F1 H1 r1 s1 x1 h1 => ?_)
  obtain ⟨c, st1⟩ := a
  cases c with
  | true => exact q F1 H1 r1 s1 x1 h1
  | false => exact qb Rs F1 H1 r1 sg env st1 Q h1 (hE.mono s1 x1) (PostT.later s1 x1 q)
theorem dt_w (h : DW W X E a ga) : DT W X E a ga := let ⟨t, p, q⟩ := h.ex; .mk (p.pt) q
theorem dt_not (h : DT W X E a ga) : DT W X E (.UnaryOp .Not a pos) (tNotD ga) := by
  obtain ⟨ta, pa, qa⟩ := h.ex
  refine .mk (pt_not pa) fun Rs F H rr sg env st Q hH hE hP => ?_
  exact qa Rs F H rr sg env st _ hH hE (bindX hP fun a ea q F1 H1 r1 s1 x1 h1 => q F1 H1 r1 s1 x1 h1)
def eAnd (f g : EV) : EV := fun env st => (f env st).bind fun a => match a.1 with
  | .bl true => g env a.2
  | .bl false => .ok (.bl false, a.2)
  | _ => .bad
def eOr (f g : EV) : EV := fun env st => (f env st).bind fun a => match a.1 with
  | .bl true => .ok (.bl true, a.2)
  | .bl false => g env a.2
  | _ => .bad
def eNot (f : EV) : EV := fun env st => (f env st).bind fun a => match a.1 with
  | .bl b => .ok (.bl (!b), a.2)
  | _ => .bad
theorem de_one {op} {f : EV} (h : DE W X E a f) : DE W X E (.BoolOp op [a] pos) f := let ⟨t, p, q⟩ := h.ex; .mk (pe_one p) q
theorem de_and (ha : DE W X E a fa) (hb : DE W X E (.BoolOp .And (b :: rest) pos) fb) : DE W X E (.BoolOp .And (a :: b :: rest) pos) (eAnd fa fb) := by
  obtain ⟨ta, pa, qa⟩ := ha.ex
  obtain ⟨tb, pb, qb⟩ := hb.ex
  refine .mk (pe_and pa pb) fun Rs F H rr sg env st Q hH hE hP => ?_
  refine qa Rs F H rr sg env st _ hH hE (bindX hP fun a ea q F1 H1 r1 v1 s1 x1 h1 k1 => ?_)
  obtain ⟨d, st1⟩ := a
  cases d with
  | bl c =>
    cases k1
    refine ⟨c, rfl, ?_⟩
    cases c with
    | true => exact qb Rs F1 H1 r1 sg env st1 Q h1 (hE.mono s1 x1) (Post.later s1 x1 q)
    | false => exact q F1 H1 r1 _ s1 x1 h1 (.bl false)
  | _ => exact q.elim
theorem de_or (ha : DE W X E a fa) (hb : DE W X E (.BoolOp .Or (b :: rest) pos) fb) : DE W X E (.BoolOp .Or (a :: b :: rest) pos) (eOr fa fb) := by
  obtain ⟨ta, pa, qa⟩ := ha.ex
  obtain ⟨tb, pb, qb⟩ := hb.ex
  refine .mk (pe_or pa pb) fun Rs F H rr sg env st Q hH hE hP => ?_
  refine qa Rs F H rr sg env st _ hH hE (bindX hP fun a ea q F1 H1 r1 v1 s1 x1 h1 k1 => ?_)
  obtain ⟨d, st1⟩ := a
  cases d with
  | bl c =>
    cases k1
    refine ⟨c, rfl, ?_⟩
    cases c with
    | true => exact q F1 H1 r1 _ s1 x1 h1 (.bl true)
    | false => exact qb Rs F1 H1 r1 sg env st1 Q h1 (hE.mono s1 x1) (Post.later s1 x1 q)
  | _ => exact q.elim
theorem de_not (h : DE W X E a fa) : DE W X E (.UnaryOp .Not a pos) (eNot fa) := by
  obtain ⟨ta, pa, qa⟩ := h.ex
  refine .mk (pe_not pa) fun Rs F H rr sg env st Q hH hE hP => ?_
  refine qa Rs F H rr sg env st _ hH hE (bindX hP fun a ea q F1 H1 r1 v1 s1 x1 h1 k1 => ?_)
  obtain ⟨d, st1⟩ := a
  cases d with
  | bl c => cases k1; exact ⟨c, rfl, q F1 H1 r1 _ s1 x1 h1 (.bl _)⟩
  | _ => exact q.elim
def eIf (t : TV) (f g : EV) : EV := fun env st => (t env st).bind fun a => if a.1 = true then f env a.2 else g env a.2
theorem de_if {c : Expr} (hc : DT W X E c ga) (ha : DE W X E a fa) (hb : DE W X E b fb) : DE W X E (.IfExp c a b pos) (eIf ga fa fb) := by
  obtain ⟨tc, pc, qc⟩ := hc.ex
  obtain ⟨ta, pa, qa⟩ := ha.ex
  obtain ⟨tb, pb, qb⟩ := hb.ex
  refine .mk (pe_ifExp pc pa pb) fun Rs F H rr sg env st Q hH hE hP => ?_
  refine qc Rs F H rr sg env st _ hH hE (bindX hP fun a ea q F1 H1 r1 s1 x1 h1 => ?_)
  obtain ⟨c, st1⟩ := a
  cases c with
  | true => exact qa Rs F1 H1 r1 sg env st1 Q h1 (hE.mono s1 x1) (Post.later s1 x1 q)
  | false => exact qb Rs F1 H1 r1 sg env st1 Q h1 (hE.mono s1 x1) (Post.later s1 x1 q)

/-! ### arguments, displays -/
def aNil : AV := fun _ st => .ok ([], st)
def aCons (f : EV) (g : AV) : AV := fun env st => (f env st).bind fun a => (g env a.2).bind fun b => .ok (a.1 :: b.1, b.2)
theorem da_nil : DA W X E [] aNil := .mk pa_nil fun Rs F H rr sg env st Q hH hE hP => hP F H rr [] (Same.refl _) (Ext.refl _) hH .nil
theorem da_cons {e : Expr} {es : List Expr} {f : EV} {g : AV} (he : DE W X E e f) (hr : DA W X E es g) (hs : starEach (e :: es) X.env = (false, eval e X.env) :: starEach es X.env := by rfl) : DA W X E (e :: es) (aCons f g) := by
  obtain ⟨te, pe, qe⟩ := he.ex
  obtain ⟨tr, pr, qr⟩ := hr.ex
  refine .mk (pa_cons pe pr hs) fun Rs F H rr sg env st Q hH hE hP => ?_
  refine qe Rs F H rr sg env st _ hH hE (bindX hP fun a ea q F1 H1 r1 v1 s1 x1 h1 k1 => ?_)
  refine qr Rs F1 H1 r1 sg env a.2 _ h1 (hE.mono s1 x1) (bindX (PostA.later s1 x1 (res := (g env a.2).bind _) q) fun b eb q2 F2 H2 r2 vs s2 x2 h2 k2 => ?_)
  exact q2 F2 H2 r2 (v1 :: vs) s2 x2 h2 (.cons (k1.mono s2 x2) k2)
/-- a list laid: frozen, or into the store -/
def newL (m : Bool) (ds : List D) (st : Store) : R (D × Store) := if m = true then .ok (.ref st.length, st ++ [.lst ds]) else .ok (.lst ds, st)
theorem newL_post {m : Bool} {Rs F H : Hp} {r : List Addr} {st : Store} {Q : VK} {vs : List V} {ds : List D} {p : Addr} (h : Holds W Rs F H r st) (k : Reps F r vs ds) (q : Post W Rs F r (newL m ds st) Q E) (e : H p = none) : Q (.ref p) (upd H p (.lst vs)) := by
  unfold newL at q
  cases m with
  | true =>
    refine q F (upd H p (.lst vs)) (r ++ [p]) (.ref p) (Same.refl _) (Ext.snoc _ _) (h.fresh e ⟨vs, upd_same, k.mono (Same.refl _) (Ext.snoc _ _)⟩) (.ref ?_)
    show (r ++ [p])[st.length]? = some p
    rw [← h.len, List.getElem?_append_right (Nat.le_refl _)]; simp
  | false =>
    obtain ⟨s, h'⟩ := h.frozen (o := .lst vs) e
    exact q _ _ r (.ref p) s (Ext.refl _) h' (.lst upd_same (k.mono s (Ext.refl _)))
theorem tup_post {Rs F H : Hp} {r : List Addr} {st : Store} {Q : VK} {vs : List V} {ds : List D} {p : Addr} (h : Holds W Rs F H r st) (k : Reps F r vs ds) (q : onE W Rs F r Q (.tup ds, st)) (e : H p = none) : Q (.ref p) (upd H p (.tup vs)) := by
  obtain ⟨s, h'⟩ := h.frozen (o := .tup vs) e
  exact q _ _ r (.ref p) s (Ext.refl _) h' (.tup upd_same (k.mono s (Ext.refl _)))
theorem lim_line {n : Nat} (h : n ≤ LIM) : n ≤ sizeLine := Nat.le_trans h (by decide)
theorem lim_lt {n : Nat} (h : n ≤ LIM) : n < sizeLine := Nat.lt_of_le_of_lt h (by decide)
def eTup (g : AV) : EV := fun env st => (g env st).bind fun a => if a.1.length ≤ LIM then .ok (.tup a.1, a.2) else .bad
def eLst (m : Bool) (g : AV) : EV := fun env st => (g env st).bind fun a => if a.1.length ≤ LIM then newL m a.1 a.2 else .bad
theorem de_tup {es : List Expr} {g : AV} {x1} (h : DA W X E es g) : DE W X E (.Tuple es x1 pos) (eTup g) := by
  obtain ⟨t, p, q⟩ := h.ex
  refine .mk (pe_tup p) fun Rs F H rr sg env st Q hH hE hP => ?_
  refine q Rs F H rr sg env st _ hH hE (bindX hP fun a ea q F1 H1 r1 vs s1 x1 h1 k1 => ?_)
  by_cases hl : a.1.length ≤ LIM
  · rw [if_pos hl] at q
    exact ⟨by rw [k1.length]; exact lim_line hl, fun pp hp => tup_post h1 k1 (Post.later s1 x1 (res := .ok (.tup a.1, a.2)) q) hp⟩
  · rw [if_neg hl] at q; exact q.elim
theorem de_lst (m : Bool) {es : List Expr} {g : AV} (h : DA W X E es g) : DE W X E (.List es pos) (eLst m g) := by
  obtain ⟨t, p, q⟩ := h.ex
  refine .mk (pe_lst p) fun Rs F H rr sg env st Q hH hE hP => ?_
  refine q Rs F H rr sg env st _ hH hE (bindX hP fun a ea q F1 H1 r1 vs s1 x1 h1 k1 => ?_)
  by_cases hl : a.1.length ≤ LIM
  · rw [if_pos hl] at q
    exact ⟨by rw [k1.length]; exact lim_line hl, fun pp hp => newL_post (m := m) h1 k1 (Post.later s1 x1 q) hp⟩
  · rw [if_neg hl] at q; exact q.elim
end

/-! ### lists and tuples by their data -/
def lstOf (st : Store) : D → Option (List D)
  | .lst ds => some ds
  | .ref n => match st[n]? with
    | some (.lst ds) => some ds
    | _ => none
  | _ => none
theorem lstOf_ok {W : Wd} {Rs F H : Hp} {r : List Addr} {st : Store} {v : V} {d : D} {ds : List D} (h : Holds W Rs F H r st) (k : Rep F r v d) (e : lstOf st d = some ds) : ∃ a vs, v = .ref a ∧ H a = some (.lst vs) ∧ Reps F r vs ds := by
  cases k with
  | lst q k => cases e; exact ⟨_, _, rfl, h.sF _ _ q, k⟩
  | @ref a n q =>
    unfold lstOf at e
    simp only at e
    split at e
    · rename_i ds' e'
      cases e
      have hh := h.ob n a _ q e'
      obtain ⟨vs, e1, k⟩ := hh
      exact ⟨a, vs, rfl, e1, k⟩
    · cases e
  | _ => cases e
theorem tup_ok {W : Wd} {Rs F H : Hp} {r : List Addr} {st : Store} {v : V} {ds : List D} (h : Holds W Rs F H r st) (k : Rep F r v (.tup ds)) : ∃ a vs, v = .ref a ∧ H a = some (.tup vs) ∧ Reps F r vs ds := by
  cases k with
  | tup q k => exact ⟨_, _, rfl, h.sF _ _ q, k⟩
end Dl
/-! ## DlOps -/
/-! Operations upon values. -/
namespace Dl
open PySem L2

section
variable {W : Wd} {X : Cx} {E : XK}
theorem DOp.of {f : Value → Value → Sem Value} {r : R2} {g : G2} (h : OpR X f r) (k : ∀ Rs F H rr st x y dx dy Q E, Holds W Rs F H rr st → Rep F rr x dx → Rep F rr y dy → Post W Rs F rr (g st dx dy) Q E → r x y H Q) : DOp W X f g := ⟨r, h, k⟩

/-! ### equality -/
def optAll {A : Type} : List (Option A) → Option (List A)
  | [] => some []
  | none :: _ => none
  | some a :: r => match optAll r with
    | some l => some (a :: l)
    | none => none
def toP (st : Store) : Nat → D → Option PyData
  | 0, _ => none
  | n + 1, d => match d with
    | .non => some .none
    | .bl b => some (.bool b)
    | .int i => some (.int i)
    | .str s => some (.str ⟨s.toArray⟩)
    | .tup ds => match optAll (ds.map (toP st n)) with
      | some ps => some (.tuple ps)
      | none => none
    | .lst ds => match optAll (ds.map (toP st n)) with
      | some ps => some (.list ps)
      | none => none
    | .ref k => match st[k]? with
      | some (.lst ds) => match optAll (ds.map (toP st n)) with
        | some ps => some (.list ps)
        | none => none
      | _ => none
    | .scr _ => none
theorem strOk_of {s : List Nat} (h : s.all (fun c => decide (c < 128)) = true) : PyData.strOk ⟨s.toArray⟩ = true := by
  unfold PyData.strOk
  rw [List.all_eq_true] at h
  simp only [List.size_toArray, List.all_toArray', List.all_eq_true, decide_eq_true_eq]
  intro x hx
  have := of_decide_eq_true (h x hx)
  omega
section
variable {Rs F H : Hp} {r : List Addr} {st : Store}
theorem toP_ok (h : Holds W Rs F H r st) : ∀ (n : Nat) (d : D) (v : V) (p : PyData), Rep F r v d → toP st n d = some p → Dp W.K H v p ∧ p.canLay0 = true ∧ p.depth ≤ n
  | 0, _, _, _, _, e => by cases e
  | n + 1, d, v, p, k, e => by
    have all : ∀ (ds : List D) (vs : List V) (ps : List PyData), Reps F r vs ds → optAll (ds.map (toP st n)) = some ps → DpAll W.K H vs ps ∧ PyData.canLayAll0 ps = true ∧ PyData.depthAll ps ≤ n := by
      intro ds
      induction ds with
      | nil => intro vs ps k e; cases k; cases e; exact ⟨.nil, rfl, Nat.zero_le _⟩
      | cons d ds ih =>
        intro vs ps k e
        cases k with
        | cons k1 k2 =>
          rw [List.map_cons] at e
          cases e1 : toP st n d with
          | none => rw [e1] at e; cases e
          | some p1 =>
            rw [e1] at e
            unfold optAll at e
            cases e2 : optAll (ds.map (toP st n)) with
            | none => rw [e2] at e; cases e
            | some ps2 =>
              rw [e2] at e
              cases e
              obtain ⟨a1, a2, a3⟩ := toP_ok h n d _ _ k1 e1
              obtain ⟨b1, b2, b3⟩ := ih _ _ k2 e2
              refine ⟨.cons a1 b1, ?_, ?_⟩
              · unfold PyData.canLayAll0; rw [a2, b2]; rfl
              · unfold PyData.depthAll; omega
    cases k with
    | non => cases e; exact ⟨.non, rfl, Nat.zero_le _⟩
    | bl b => cases e; exact ⟨.bl b, rfl, Nat.zero_le _⟩
    | int i => cases e; exact ⟨.int i, rfl, Nat.zero_le _⟩
    | str s a l => cases e; exact ⟨.str _, strOk_of a, Nat.zero_le _⟩
    | scr q => cases e
    | tup q k =>
      unfold toP at e
      simp only at e
      split at e
      · rename_i ps e'
        cases e
        obtain ⟨a1, a2, a3⟩ := all _ _ _ k e'
        refine ⟨.tup (.of (h.sF _ _ q)) a1, ?_, ?_⟩
        · unfold PyData.canLay0; exact a2
        · unfold PyData.depth; omega
      · cases e
    | lst q k =>
      unfold toP at e
      simp only at e
      split at e
      · rename_i ps e'
        cases e
        obtain ⟨a1, a2, a3⟩ := all _ _ _ k e'
        refine ⟨.lst (.of (h.sF _ _ q)) a1, ?_, ?_⟩
        · unfold PyData.canLay0; exact a2
        · unfold PyData.depth; omega
      · cases e
    | @ref a m q =>
      unfold toP at e
      simp only at e
      split at e
      · rename_i ds e0
        split at e
        · rename_i ps e'
          cases e
          obtain ⟨vs, q', k⟩ := h.ob m a _ q e0
          obtain ⟨a1, a2, a3⟩ := all _ _ _ k e'
          refine ⟨.lst (.of q') a1, ?_, ?_⟩
          · unfold PyData.canLay0; exact a2
          · unfold PyData.depth; omega
        · cases e
      · cases e
end
def eqG (neg : Bool) : G2 := fun st d e => match toP st 40 d, toP st 40 e with
  | some p, some q => .ok (.bl (if neg = true then !PyData.eqv p q else PyData.eqv p q), st)
  | _, _ => .bad
theorem shaped_of {p : PyData} (a : p.canLay0 = true) (b : p.depth ≤ 40) : SeqAt.shaped p = true := by
  unfold SeqAt.shaped
  rw [a, decide_eq_true (show p.depth ≤ 64 by omega)]; rfl
theorem dop_eq (hK : X.K = W.K) (hu : X.A.units + 64 < cLine) : DOp W X (compareOp .Eq) (eqG false) := .of (op_eqD hu) fun Rs F H rr st x y dx dy Q E h kx ky hP => by
  unfold eqG at hP
  split at hP
  · rename_i p q e1 e2
    obtain ⟨a1, a2, a3⟩ := toP_ok h _ _ _ _ kx e1
    obtain ⟨b1, b2, b3⟩ := toP_ok h _ _ _ _ ky e2
    exact ⟨p, q, by rw [hK]; exact a1, by rw [hK]; exact b1, shaped_of a2 a3, shaped_of b2 b3, onE_here h (.bl _) hP⟩
  · exact hP.elim
theorem dop_ne (hK : X.K = W.K) (hu : X.A.units + 64 < cLine) : DOp W X (compareOp .NotEq) (eqG true) := .of (op_neD hu) fun Rs F H rr st x y dx dy Q E h kx ky hP => by
  unfold eqG at hP
  split at hP
  · rename_i p q e1 e2
    obtain ⟨a1, a2, a3⟩ := toP_ok h _ _ _ _ kx e1
    obtain ⟨b1, b2, b3⟩ := toP_ok h _ _ _ _ ky e2
    exact ⟨p, q, by rw [hK]; exact a1, by rw [hK]; exact b1, shaped_of a2 a3, shaped_of b2 b3, onE_here h (.bl _) hP⟩
  · exact hP.elim

/-! ### order -/
def ltG : G2 := fun st d e => match d, e with
  | .int i, .int j => .ok (.bl (decide (i < j)), st)
  | _, _ => .bad
def gtG : G2 := fun st d e => match d, e with
  | .int i, .int j => .ok (.bl (decide (j < i)), st)
  | _, _ => .bad
def geG : G2 := fun st d e => match d, e with
  | .int i, .int j => .ok (.bl (decide (j ≤ i)), st)
  | _, _ => .bad
def leG : G2 := fun st d e => match d, e with
  | .int i, .int j => .ok (.bl (decide (i ≤ j)), st)
  | .str a, .str b => .ok (.bl (!decide (b < a)), st)
  | _, _ => .bad
theorem dop_lt : DOp W X (compareOp .Lt) ltG := .of op_lt fun Rs F H rr st x y dx dy Q E h kx ky hP => by
  cases kx <;> cases ky <;> first | exact hP.elim | exact ⟨_, _, rfl, rfl, onE_here h (.bl _) hP⟩
theorem dop_gt : DOp W X (compareOp .Gt) gtG := .of op_gt fun Rs F H rr st x y dx dy Q E h kx ky hP => by
  cases kx <;> cases ky <;> first | exact hP.elim | exact ⟨_, _, rfl, rfl, onE_here h (.bl _) hP⟩
theorem dop_ge : DOp W X (compareOp .GtE) geG := .of op_ge fun Rs F H rr st x y dx dy Q E h kx ky hP => by
  cases kx <;> cases ky <;> first | exact hP.elim | exact ⟨_, _, rfl, rfl, onE_here h (.bl _) hP⟩
theorem dop_le : DOp W X (compareOp .LtE) leG := .of (op_le.or op_le_str) fun Rs F H rr st x y dx dy Q E h kx ky hP => by
  cases kx <;> cases ky <;> first | exact hP.elim | exact .inl ⟨_, _, rfl, rfl, onE_here h (.bl _) hP⟩ | exact .inr ⟨_, _, rfl, rfl, onE_here h (.bl _) hP⟩

/-! ### is -/
def isG (neg : Bool) : G2 := fun st d e => match d, e with
  | .bl a, .bl b => .ok (.bl (if neg = true then !decide (a = b) else decide (a = b)), st)
  | .non, .non => .ok (.bl (!neg), st)
  | _, .non => .ok (.bl neg, st)
  | _, _ => .bad
theorem dop_is : DOp W X (compareOp .Is) (isG false) := .of (op_isN.or op_isBl) fun Rs F H rr st x y dx dy Q E h kx ky hP => by
  cases kx <;> cases ky <;> first | exact hP.elim | exact .inl ⟨rfl, onE_here h (.bl _) hP⟩ | exact .inr ⟨_, _, rfl, rfl, onE_here h (.bl _) hP⟩
theorem dop_isnot : DOp W X (compareOp .IsNot) (isG true) := .of (op_notN.or op_notBl) fun Rs F H rr st x y dx dy Q E h kx ky hP => by
  cases kx <;> cases ky <;> first | exact hP.elim | exact .inl ⟨rfl, onE_here h (.bl _) hP⟩ | exact .inr ⟨_, _, rfl, rfl, onE_here h (.bl _) hP⟩

/-! ### arithmetic and joining -/
def addG (m : Bool) : G2 := fun st d e => match d, e with
  | .int i, .int j => .ok (.int (i + j), st)
  | .str a, .str b => if a.length + b.length ≤ LIM then .ok (.str (a ++ b), st) else .bad
  | .tup a, .tup b => if a.length + b.length ≤ LIM then .ok (.tup (a ++ b), st) else .bad
  | d, e => match lstOf st d, lstOf st e with
    | some a, some b => if a.length + b.length ≤ LIM then newL m (a ++ b) st else .bad
    | _, _ => .bad
theorem str_app (a b : List Nat) : ((⟨a.toArray⟩ : Str) ++ ⟨b.toArray⟩) = ⟨(a ++ b).toArray⟩ := TL.ext_tl (by rw [TL.tl_append])
theorem len_mk (a : List Nat) : (⟨a.toArray⟩ : Str).length = a.length := by simp [Str.length]
theorem rep_app {F : Hp} {r : List Addr} {a b : List Nat} (h1 : a.all (fun c => decide (c < 128)) = true) (h2 : b.all (fun c => decide (c < 128)) = true) (h : a.length + b.length ≤ LIM) : Rep F r (.str ((⟨a.toArray⟩ : Str) ++ ⟨b.toArray⟩)) (.str (a ++ b)) := by
  rw [str_app]
  exact .str _ (by rw [List.all_append, h1, h2]; rfl) (by simpa using h)
theorem addL {m : Bool} {st : Store} {d e : D} (h1 : ∀ i, d ≠ .int i) (h2 : ∀ i, d ≠ .str i) (h3 : ∀ i, d ≠ .tup i) : addG m st d e = match lstOf st d, lstOf st e with
    | some a, some b => if a.length + b.length ≤ LIM then newL m (a ++ b) st else .bad
    | _, _ => .bad := by
  cases d <;> first | rfl | exact absurd rfl (h1 _) | exact absurd rfl (h2 _) | exact absurd rfl (h3 _)
theorem dop_add (m : Bool) : DOp W X (binaryOp .Add) (addG m) := .of (op_add.or (op_add_str.or (op_catA.or op_cat))) fun Rs F H rr st x y dx dy Q E h kx ky hP => by
  have lists : (match lstOf st dx, lstOf st dy with
    | some a, some b => if a.length + b.length ≤ LIM then newL m (a ++ b) st else .bad
    | _, _ => (.bad : R (D × Store))) = addG m st dx dy → rCat x y H Q := fun eq => by
    rw [← eq] at hP
    split at hP
    · rename_i a b e1 e2
      by_cases hl : a.length + b.length ≤ LIM
      · rw [if_pos hl] at hP
        obtain ⟨p, vs, rfl, h1, k1⟩ := lstOf_ok h kx e1
        obtain ⟨q, ws, rfl, h2, k2⟩ := lstOf_ok h ky e2
        exact ⟨p, q, vs, ws, rfl, rfl, h1, h2, by rw [k1.length, k2.length]; exact lim_line hl, fun pp hp => newL_post h (Reps.append k1 k2) hP hp⟩
      · rw [if_neg hl] at hP; exact hP.elim
    · exact hP.elim
  cases kx with
  | int i =>
    cases ky with
    | int j => exact .inl ⟨_, _, rfl, rfl, onE_here h (.int _) hP⟩
    | _ => exact hP.elim
  | str a ha hal =>
    cases ky with
    | str b hb hbl =>
      refine .inr (.inl ⟨_, _, rfl, rfl, ?_⟩)
      by_cases hl : a.length + b.length ≤ LIM
      · unfold addG at hP
        simp only at hP
        rw [if_pos hl] at hP
        exact ⟨by rw [len_mk, len_mk]; exact lim_line hl, onE_here h (rep_app ha hb hl) hP⟩
      · unfold addG at hP
        simp only at hP
        rw [if_neg hl] at hP; exact hP.elim
    | _ => exact hP.elim
  | @tup p vs ds q1 k1 =>
    cases ky with
    | @tup p2 ws es q2 k2 =>
      refine .inr (.inr (.inl ?_))
      by_cases hl : ds.length + es.length ≤ LIM
      · unfold addG at hP
        simp only at hP
        rw [if_pos hl] at hP
        refine ⟨_, _, vs, ws, rfl, rfl, .of (h.sF _ _ q1), .of (h.sF _ _ q2), by rw [k1.length, k2.length]; exact lim_line hl, fun e => ?_, fun e1 e2 => ?_, fun e1 e2 pp hp => ?_⟩
        · subst e
          cases k1
          exact onE_here h (.tup q2 k2) hP
        · subst e2
          cases k2
          rw [List.append_nil] at hP
          exact onE_here h (.tup q1 k1) hP
        · exact tup_post h (Reps.append k1 k2) hP hp
      · unfold addG at hP
        simp only at hP
        rw [if_neg hl] at hP; exact hP.elim
    | _ => exact hP.elim
  | non => exact .inr (.inr (.inr (lists rfl)))
  | bl b => exact .inr (.inr (.inr (lists rfl)))
  | lst q k => exact .inr (.inr (.inr (lists rfl)))
  | ref q => exact .inr (.inr (.inr (lists rfl)))
  | scr q => exact .inr (.inr (.inr (lists rfl)))
def subG : G2 := fun st d e => match d, e with
  | .int i, .int j => .ok (.int (i - j), st)
  | _, _ => .bad
theorem dop_sub : DOp W X (binaryOp .Sub) subG := .of op_sub fun Rs F H rr st x y dx dy Q E h kx ky hP => by
  cases kx <;> cases ky <;> first | exact hP.elim | exact ⟨_, _, rfl, rfl, onE_here h (.int _) hP⟩
def divG : G2 := fun st d e => match d, e with
  | .int i, .int j => if 0 < j ∧ j < 2 ^ 64 then .ok (.int (i / j), st) else .bad
  | _, _ => .bad
theorem dop_div : DOp W X (binaryOp .FloorDiv) divG := .of op_fdivW fun Rs F H rr st x y dx dy Q E h kx ky hP => by
  cases kx <;> cases ky <;> first | exact hP.elim | skip
  rename_i i j
  unfold divG at hP
  simp only at hP
  by_cases hl : 0 < j ∧ j < 2 ^ 64
  · rw [if_pos hl] at hP
    exact ⟨_, _, rfl, rfl, wide_div hl.1 (b := 64) (by omega) (by decide) (by decide), onE_here h (.int _) hP⟩
  · rw [if_neg hl] at hP; exact hP.elim
def modG : G2 := fun st d e => match d, e with
  | .int i, .int j => if 0 < j then .ok (.int (i % j), st) else .bad
  | _, _ => .bad
theorem dop_mod : DOp W X (binaryOp .Mod) modG := .of op_mod fun Rs F H rr st x y dx dy Q E h kx ky hP => by
  cases kx <;> cases ky <;> first | exact hP.elim | skip
  rename_i i j
  unfold modG at hP
  simp only at hP
  by_cases hl : 0 < j
  · rw [if_pos hl] at hP
    exact ⟨_, _, rfl, rfl, hl, onE_here h (.int _) hP⟩
  · rw [if_neg hl] at hP; exact hP.elim
def powG : G2 := fun st d e => match d, e with
  | .int i, .int j => if 0 ≤ j ∧ j ≤ 1000 ∧ i.natAbs < 2 ^ 64 then .ok (.int (i ^ j.toNat), st) else .bad
  | _, _ => .bad
theorem dop_pow : DOp W X (binaryOp .Pow) powG := .of op_pow fun Rs F H rr st x y dx dy Q E h kx ky hP => by
  cases kx <;> cases ky <;> first | exact hP.elim | skip
  rename_i i j
  unfold powG at hP
  simp only at hP
  by_cases hl : 0 ≤ j ∧ j ≤ 1000 ∧ i.natAbs < 2 ^ 64
  · rw [if_pos hl] at hP
    exact ⟨_, _, rfl, rfl, ⟨hl.1, by omega, hl.2.2⟩, onE_here h (.int _) hP⟩
  · rw [if_neg hl] at hP; exact hP.elim
/-- a text taken several times -/
def rMulS : R2 := fun x y H Q => ∃ z n, x = .str z ∧ y = .int n ∧ n ≤ 1000000 ∧ -1000000 ≤ n ∧ z.length * n.toNat ≤ 1000000 ∧ Q (.str ⟨(List.replicate n.toNat z.cps.toList).flatten.toArray⟩) H
theorem foldl_arr (a : Array Nat) : ∀ (k : Nat) (acc : Array Nat), (List.replicate k a).foldl (· ++ ·) acc = (acc.toList ++ (List.replicate k a.toList).flatten).toArray
  | 0, acc => by simp
  | k + 1, acc => by
    rw [List.replicate_succ, List.foldl_cons, foldl_arr a k, List.replicate_succ, List.flatten_cons]
    simp
theorem op_mulS : OpR X (binaryOp .Mult) rMulS := by
  intro pins s sg H x y v u Q I rx ry h
  obtain ⟨z, n, rfl, rfl, h1, h2, h3, q⟩ := h
  obtain ⟨t, rfl⟩ := rx
  obtain ⟨t', rfl⟩ := ry
  have fin : ∀ (w : Str) (u : Value) (s' : Shared), RelV (.str w) u → Inv X pins sg H s' → w = ⟨(List.replicate n.toNat z.cps.toList).flatten.toArray⟩ → EP X pins sg Q u s' := fun w u s' r I' e => ⟨.str w, H, I', r, by rw [e]; exact q⟩
  by_cases hn : n < 1
  · refine PySem.P.mul_str_none hn (by omega) (fin Str.empty _ _ ⟨_, rfl⟩ (I.tok _) ?_)
    have e : n.toNat = 0 := by omega
    rw [e]; rfl
  · refine PySem.P.mul_str ?_ ?_ ?_ ?_
    · rw [decide_eq_false (by omega), decide_eq_false (by omega)]; rfl
    · intro _ hb
      have hz : z.length ≤ 1000000 := by
        have : 1 ≤ n.toNat := by omega
        exact Nat.le_trans (Nat.le_mul_of_pos_right _ this) h3
      have : (1000000 : Int) ≤ (2 ^ 63 - 1 : Int) / n := by
        rw [Int.le_ediv_iff_mul_le (by omega)]
        omega
      omega
    · intro _ hb
      unfold Builtin.Str.tooLong
      have hs : (sizeLine : Nat) = 16777216 := sizeLine_eq
      simp only [decide_eq_false_iff_not]
      omega
    · rw [if_neg hn]
      by_cases hb : (n == 1 || z.length == 0) = true
      · rw [if_pos hb]
        refine fin z _ _ ⟨_, rfl⟩ I ?_
        rw [Bool.or_eq_true, beq_iff_eq, beq_iff_eq] at hb
        apply TL.ext_tl
        rw [TL.tl_mk]
        rcases hb with hb | hb
        · subst hb; simp [TL.tl]
        · have : z.cps.toList = [] := by
            have : z.cps.toList.length = 0 := by simpa [Str.length] using hb
            exact List.length_eq_zero_iff.mp this
          rw [this]; simp [TL.tl, this]
      · rw [if_neg hb]
        have e : (List.replicate n.toNat z.cps).foldl (· ++ ·) #[] = (List.replicate n.toNat z.cps.toList).flatten.toArray := by rw [foldl_arr]; simp
        refine ⟨?_, fin _ _ _ ⟨_, rfl⟩ (I.tok _) (by rw [e])⟩
        rw [e]
        show (List.replicate n.toNat z.cps.toList).flatten.toArray.size ≤ sizeLine
        have hs : (sizeLine : Nat) = 16777216 := sizeLine_eq
        rw [List.size_toArray, List.length_flatten, List.map_replicate, List.sum_replicate_nat]
        have : z.cps.toList.length = z.length := by simp [Str.length]
        rw [this, Nat.mul_comm]
        omega
def mulG (m : Bool) : G2 := fun st d e => match d, e with
  | .int i, .int j => if (-(2 ^ 64) < i ∧ i < 2 ^ 64) ∨ (-(2 ^ 64) < j ∧ j < 2 ^ 64) then .ok (.int (i * j), st) else .bad
  | .str s, .int n => if -1000000 ≤ n ∧ n ≤ 1000000 ∧ s.length * n.toNat ≤ LIM then .ok (.str (List.replicate n.toNat s).flatten, st) else .bad
  | .tup ds, .int n => if ds ≠ [] ∧ 2 ≤ n ∧ n ≤ 1000 ∧ ds.length ≤ 1000 then .ok (.tup (List.replicate n.toNat ds).flatten, st) else .bad
  | d, .int n => match lstOf st d with
    | some ds => if -1000000 ≤ n ∧ n ≤ 1000000 ∧ ds.length * n.toNat ≤ LIM then newL m (List.replicate n.toNat ds).flatten st else .bad
    | none => .bad
  | _, _ => .bad
theorem mulL {m : Bool} {st : Store} {d : D} {n : Int} (h1 : ∀ i, d ≠ .int i) (h2 : ∀ i, d ≠ .str i) (h3 : ∀ i, d ≠ .tup i) : mulG m st d (.int n) = match lstOf st d with
    | some ds => if -1000000 ≤ n ∧ n ≤ 1000000 ∧ ds.length * n.toNat ≤ LIM then newL m (List.replicate n.toNat ds).flatten st else .bad
    | none => .bad := by
  cases d <;> first | rfl | exact absurd rfl (h1 _) | exact absurd rfl (h2 _) | exact absurd rfl (h3 _)
theorem all_rep {s : List Nat} {p : Nat → Bool} (h : s.all p = true) : ∀ k : Nat, (List.replicate k s).flatten.all p = true
  | 0 => rfl
  | k + 1 => by rw [List.replicate_succ, List.flatten_cons, List.all_append, h, all_rep h k]; rfl
theorem len_rep {A : Type} (s : List A) (k : Nat) : (List.replicate k s).flatten.length = s.length * k := by
  rw [List.length_flatten, List.map_replicate, List.sum_replicate_nat, Nat.mul_comm]
theorem dop_mul (m : Bool) : DOp W X (binaryOp .Mult) (mulG m) := .of (op_mul.or (op_mulS.or (op_repT.or op_rep))) fun Rs F H rr st x y dx dy Q E h kx ky hP => by
  have lists : ∀ n, y = .int n → (match lstOf st dx with
    | some ds => if -1000000 ≤ n ∧ n ≤ 1000000 ∧ ds.length * n.toNat ≤ LIM then newL m (List.replicate n.toNat ds).flatten st else .bad
    | none => (.bad : R (D × Store))) = mulG m st dx dy → rRep x y H Q := fun n ey eq => by
    rw [← eq] at hP
    split at hP
    · rename_i a e1
      by_cases hl : -1000000 ≤ n ∧ n ≤ 1000000 ∧ a.length * n.toNat ≤ LIM
      · rw [if_pos hl] at hP
        obtain ⟨p, vs, rfl, h1, k1⟩ := lstOf_ok h kx e1
        exact ⟨p, n, vs, rfl, ey, h1, by omega, by omega, by rw [k1.length]; exact lim_line hl.2.2, fun pp hp => newL_post h (Reps.flat k1 _) hP hp⟩
      · rw [if_neg hl] at hP; exact hP.elim
    · exact hP.elim
  cases ky with
  | int n =>
    cases kx with
    | int i =>
      unfold mulG at hP
      simp only at hP
      split at hP
      · rename_i hc
        exact .inl ⟨_, _, rfl, rfl, hc, onE_here h (.int _) hP⟩
      · exact hP.elim
    | str a ha hal =>
      unfold mulG at hP
      simp only at hP
      split at hP
      · rename_i hc
        refine .inr (.inl ⟨_, _, rfl, rfl, hc.2.1, hc.1, by rw [len_mk]; exact hc.2.2, ?_⟩)
        refine onE_here h ?_ hP
        exact .str _ (all_rep ha _) (by rw [len_rep]; exact hc.2.2)
      · exact hP.elim
    | @tup p vs ds q1 k1 =>
      unfold mulG at hP
      simp only at hP
      split at hP
      · rename_i hc
        refine .inr (.inr (.inl ⟨_, _, vs, rfl, rfl, .of (h.sF _ _ q1), fun e => hc.1 ?_, hc.2.1, hc.2.2.1, by rw [k1.length]; exact hc.2.2.2, fun pp hp => tup_post h (Reps.flat k1 _) hP hp⟩))
        subst e; cases k1; rfl
      · exact hP.elim
    | non => exact .inr (.inr (.inr (lists _ rfl rfl)))
    | bl b => exact .inr (.inr (.inr (lists _ rfl rfl)))
    | lst q k => exact .inr (.inr (.inr (lists _ rfl rfl)))
    | ref q => exact .inr (.inr (.inr (lists _ rfl rfl)))
    | scr q => exact .inr (.inr (.inr (lists _ rfl rfl)))
  | _ => cases kx <;> exact hP.elim

/-! ### in -/
def flatD : D → Bool
  | .non => true
  | .bl _ => true
  | .int _ => true
  | .str _ => true
  | _ => false
def eqFl : D → D → Bool
  | .non, .non => true
  | .bl a, .bl b => a == b
  | .bl a, .int b => (if a then 1 else 0) == b
  | .int a, .bl b => a == (if b then 1 else 0)
  | .int a, .int b => a == b
  | .str a, .str b => a == b
  | _, _ => false
theorem flatD_ok {F : Hp} {r : List Addr} {v : V} {d : D} (k : Rep F r v d) (h : flatD d = true) : flatV v = true := by cases k <;> first | rfl | cases h
theorem str_beq (a b : List Nat) : ((⟨a.toArray⟩ : Str) == ⟨b.toArray⟩) = (a == b) := by
  by_cases e : a = b
  · subst e; simp
  · rw [beq_eq_false_iff_ne.mpr e, beq_eq_false_iff_ne]
    intro q
    apply e
    have := congrArg (fun (x : Str) => x.cps.toList) q
    simpa using this
theorem eqFl_ok {F : Hp} {r : List Addr} {v w : V} {d e : D} (k : Rep F r v d) (l : Rep F r w e) (h : flatD d = true) (h' : flatD e = true) : eqV v w = eqFl d e := by
  cases k <;> first | (exact absurd h Bool.false_ne_true) | skip
  all_goals (cases l <;> first | rfl | exact str_beq _ _ | (exact absurd h' Bool.false_ne_true))
def seqOf (st : Store) : D → Option (List D)
  | .tup ds => some ds
  | d => lstOf st d
theorem inSeq_ok {F : Hp} {r : List Addr} {v : V} {d : D} (k : Rep F r v d) (h : flatD d = true) : ∀ {vs : List V} {ds : List D}, Reps F r vs ds → ds.all flatD = true → vs.all flatV = true ∧ inV v vs = ds.any fun e => eqFl e d
  | _, _, .nil, _ => ⟨rfl, rfl⟩
  | _, _, .cons k1 k2, e => by
    rw [List.all_cons, Bool.and_eq_true] at e
    obtain ⟨a, b⟩ := inSeq_ok k h k2 e.2
    refine ⟨by rw [List.all_cons, flatD_ok k1 e.1, a]; rfl, ?_⟩
    unfold inV at b ⊢
    rw [List.any_cons, List.any_cons, eqFl_ok k1 k e.1 h, b]
/-- a place at which x stands in y -/
def inS (x y : List Nat) : Bool := !(Builtin.Str.occurrences ⟨y.toArray⟩ ⟨x.toArray⟩ 0 y.length 1).isEmpty
def inG (neg : Bool) : G2 := fun st d e => match d, e with
  | .str [c], .str b => .ok (.bl (if neg = true then !decide (c ∈ b) else decide (c ∈ b)), st)
  | .str _, .str _ => .bad
  | d, e => match seqOf st e with
    | some ds => if flatD d = true ∧ ds.all flatD = true then .ok (.bl (if neg = true then !(ds.any fun z => eqFl z d) else ds.any fun z => eqFl z d), st) else .bad
    | none => .bad
theorem inG_seq {neg : Bool} {st : Store} {d e : D} (h : ∀ s, e ≠ .str s) : inG neg st d e = match seqOf st e with
    | some ds => if flatD d = true ∧ ds.all flatD = true then .ok (.bl (if neg = true then !(ds.any fun z => eqFl z d) else ds.any fun z => eqFl z d), st) else .bad
    | none => .bad := by
  cases e <;> first | exact absurd rfl (h _) | (cases d <;> first | rfl | (rename_i s; cases s <;> first | rfl | (rename_i t; cases t <;> rfl)))
theorem in_seq_ok {neg : Bool} (hK : X.K = W.K) {Rs F H : Hp} {rr : List Addr} {st : Store} {x y : V} {dx dy : D} {Q : VK} (h : Holds W Rs F H rr st) (kx : Rep F rr x dx) (ky : Rep F rr y dy) (hP : Post W Rs F rr (match seqOf st dy with
    | some ds => if flatD dx = true ∧ ds.all flatD = true then .ok (.bl (if neg = true then !(ds.any fun z => eqFl z dx) else ds.any fun z => eqFl z dx), st) else .bad
    | none => (.bad : R (D × Store))) Q E) : rIn X.K neg x y H Q := by
  split at hP
  · rename_i ds e1
    split at hP
    · rename_i hc
      obtain ⟨p, vs, rfl, hs, k1⟩ : ∃ p vs, y = .ref p ∧ (SqL X.K H p vs ∨ SqT X.K H p vs) ∧ Reps F rr vs ds := by
        cases ky with
        | tup q k => cases e1; exact ⟨_, _, rfl, .inr (.of (h.sF _ _ q)), k⟩
        | lst q k => cases e1; exact ⟨_, _, rfl, .inl (.of (h.sF _ _ q)), k⟩
        | ref q =>
          obtain ⟨a, vs, e, q', k⟩ := lstOf_ok h (.ref q) e1
          exact ⟨a, vs, e, .inl (.of q'), k⟩
        | _ => cases e1
      obtain ⟨a1, a2⟩ := inSeq_ok kx hc.1 k1 hc.2
      refine ⟨p, vs, rfl, hs, flatD_ok kx hc.1, a1, ?_⟩
      rw [a2]
      exact onE_here h (.bl _) hP
    · exact hP.elim
  · exact hP.elim
theorem dop_in (hK : X.K = W.K) : DOp W X (compareOp .In) (inG false) := .of (op_in_sign.or op_in_seq) fun Rs F H rr st x y dx dy Q E h kx ky hP => by
  cases ky with
  | str b hb hbl =>
    cases kx with
    | str a ha hal =>
      cases a with
      | nil => exact hP.elim
      | cons c t =>
        cases t with
        | nil => exact .inl ⟨c, _, rfl, rfl, onE_here h (.bl _) hP⟩
        | cons _ _ => exact hP.elim
    | _ => exact hP.elim
  | _ => rw [inG_seq (by intro s z; cases z)] at hP; exact .inr (in_seq_ok hK h kx (by first | exact .non | exact .bl _ | exact .int _ | exact .tup ‹_› ‹_› | exact .lst ‹_› ‹_› | exact .ref ‹_› | exact .scr ‹_›) hP)
theorem dop_notin (hK : X.K = W.K) : DOp W X (compareOp .NotIn) (inG true) := .of (op_notIn_sign.or op_notIn_seq) fun Rs F H rr st x y dx dy Q E h kx ky hP => by
  cases ky with
  | str b hb hbl =>
    cases kx with
    | str a ha hal =>
      cases a with
      | nil => exact hP.elim
      | cons c t =>
        cases t with
        | nil => exact .inl ⟨c, _, rfl, rfl, onE_here h (.bl _) hP⟩
        | cons _ _ => exact hP.elim
    | _ => exact hP.elim
  | _ => rw [inG_seq (by intro s z; cases z)] at hP; exact .inr (in_seq_ok hK h kx (by first | exact .non | exact .bl _ | exact .int _ | exact .tup ‹_› ‹_› | exact .lst ‹_› ‹_› | exact .ref ‹_› | exact .scr ‹_›) hP)
end
end Dl
/-! ## DlStmt -/
/-! Statements, targets, loops, comprehensions. -/
namespace Dl
open PySem L2

section
variable {W : Wd} {X : Cx} {E : XK} {Rs F F1 H : Hp} {r r1 : List Addr}
def sOf {A : Type} (res : R A) (k : A → SR) : SR := match res with
  | .ok a => k a
  | .exc c p st => .exc c p st
  | .bad => .bad
@[simp] theorem sOf_ok {A : Type} (a : A) (k : A → SR) : sOf (R.ok a) k = k a := rfl
@[simp] theorem sOf_exc {A : Type} (c : Nat) (p : Option D) (st : Store) (k : A → SR) : sOf (R.exc c p st : R A) k = .exc c p st := rfl
@[simp] theorem sOf_bad {A : Type} (k : A → SR) : sOf (R.bad : R A) k = .bad := rfl
theorem bindS {A : Type} {res : R A} {k : A → SR} {D : Ends} {K' : A → Prop} (h : PostS W Rs F r (sOf res k) D E) (q : ∀ a, res = .ok a → PostS W Rs F r (k a) D E → K' a) : PostX W Rs F r res K' E := by
  cases res with
  | ok a => exact q a rfl h
  | exc c p st' => exact h
  | bad => exact h
def sNext : SV := fun env st => .nx env st
def sCons (f g : SV) : SV := fun env st => match f env st with
  | .nx e s => g e s
  | .rt d s => .rt d s
  | .bk e s => .bk e s
  | .ct e s => .ct e s
  | .exc c p s => .exc c p s
  | .bad => .bad
def sPass : SV := sNext
def sBreak : SV := fun env st => .bk env st
def sCont : SV := fun env st => .ct env st
def sExpr (f : EV) : SV := fun env st => sOf (f env st) fun a => .nx env a.2
def sRet (f : EV) : SV := fun env st => sOf (f env st) fun a => .rt a.1 a.2
def sRetN : SV := fun env st => .rt .non st
def sIf (t : TV) (f g : SV) : SV := fun env st => sOf (t env st) fun a => if a.1 = true then f env a.2 else g env a.2
def sBad : SV := fun _ _ => .bad
theorem PostF.here {env : Env} {st : Store} {N : St → Hp → Prop} {sg : St} (h : Holds W Rs F H r st) (k : EnvOk F r sg env) (q : PostF W Rs F r env st N) : N sg H := q F H r sg (Same.refl _) (Ext.refl _) h k
variable {st : Stmt} {rest : List Stmt} {f g : SV} {e : Expr} {fe : EV} {pos : Pos}
theorem db_nil : DB W X E [] sNext := .mk pss_nil fun Rs F H r sg env st D hH hE hP => PostF.here hH hE hP
theorem db_one (h : DS W X E st f) : DB W X E [st] f := let ⟨t, p, q⟩ := h.ex; .mk (pss_one p) q
theorem db_cons (h1 : DS W X E st f) (h2 : DB W X E rest g) : DB W X E (st :: rest) (sCons f g) := by
  obtain ⟨t, p, q⟩ := h1.ex
  obtain ⟨t2, p2, q2⟩ := h2.ex
  refine .mk (pss_cons p p2) fun Rs F H r sg env st D hH hE hP => ?_
  refine q Rs F H r sg env st _ hH hE ?_
  unfold sCons at hP
  cases ef : f env st with
  | nx e1 s1 =>
    rw [ef] at hP
    exact fun F' H' r' sg' s x h k => q2 Rs F' H' r' sg' e1 s1 D h k (PostS.later s x hP)
  | rt d s1 => rw [ef] at hP; exact hP
  | bk e1 s1 => rw [ef] at hP; exact hP
  | ct e1 s1 => rw [ef] at hP; exact hP
  | exc c p s1 => rw [ef] at hP; exact hP
  | bad => rw [ef] at hP; exact hP
theorem db_bad {sts : List Stmt} : DB W X E sts sBad := .mk pss_never fun Rs F H r sg env st D hH hE hP => hP
theorem ds_bad : DS W X E st sBad := .mk ps_never fun Rs F H r sg env st D hH hE hP => hP
theorem ds_pass : DS W X E (.Pass pos) sPass := .mk ps_pass fun Rs F H r sg env st D hH hE hP => PostF.here hH hE hP
theorem ds_break : DS W X E (.Break pos) sBreak := .mk ps_break fun Rs F H r sg env st D hH hE hP => PostF.here hH hE hP
theorem ds_cont : DS W X E (.Continue pos) sCont := .mk ps_continue fun Rs F H r sg env st D hH hE hP => PostF.here hH hE hP
theorem ds_expr (h : DE W X E e fe) (hs : swapsWith e none pos.line X.env = pure false := by rfl) : DS W X E (.Expr e pos) (sExpr fe) := by
  obtain ⟨t, p, q⟩ := h.ex
  refine .mk (ps_expr p hs) fun Rs F H r sg env st D hH hE hP => ?_
  exact q Rs F H r sg env st _ hH hE (bindS hP fun a ea k F1 H1 r1 v1 s1 x1 h1 k1 => k F1 H1 r1 sg s1 x1 h1 (hE.mono s1 x1))
theorem ds_ret (h : DE W X E e fe) : DS W X E (.Return (some e) pos) (sRet fe) := by
  obtain ⟨t, p, q⟩ := h.ex
  refine .mk (ps_ret p) fun Rs F H r sg env st D hH hE hP => ?_
  exact q Rs F H r sg env st _ hH hE (bindS hP fun a ea k F1 H1 r1 v1 s1 x1 h1 k1 => k F1 H1 r1 v1 s1 x1 h1 k1)
theorem ds_retN : DS W X E (.Return none pos) sRetN := .mk ps_retN fun Rs F H r sg env st D hH hE hP => hP F H r .non (Same.refl _) (Ext.refl _) hH .non
theorem ds_if {c : Expr} {a b : List Stmt} {tc : TV} (hc : DT W X E c tc) (ha : DB W X E a f) (hb : DB W X E b g) : DS W X E (.If c a b pos) (sIf tc f g) := by
  obtain ⟨t, p, q⟩ := hc.ex
  obtain ⟨t1, p1, q1⟩ := ha.ex
  obtain ⟨t2, p2, q2⟩ := hb.ex
  refine .mk (ps_if p p1 p2) fun Rs F H r sg env st D hH hE hP => ?_
  refine q Rs F H r sg env st _ hH hE (bindS hP fun a ea k F1 H1 r1 s1 x1 h1 => ?_)
  obtain ⟨c, st1⟩ := a
  cases c with
  | true => exact q1 Rs F1 H1 r1 sg env st1 D h1 (hE.mono s1 x1) (PostS.later s1 x1 k)
  | false => exact q2 Rs F1 H1 r1 sg env st1 D h1 (hE.mono s1 x1) (PostS.later s1 x1 k)

/-! ### targets -/
abbrev GV := D → Env → Store → R (Env × Store)
def DG (W : Wd) (X : Cx) (E : XK) (tg : Expr) (g : GV) : Prop := ∃ t, PG X tg t ∧ ∀ Rs F H r sg env st v d N, Holds W Rs F H r st → EnvOk F r sg env → Rep F r v d → PostX W Rs F r (g d env st) (fun a => PostF W Rs F r a.1 a.2 N) E → t v sg H N
abbrev GVs := List D → Env → Store → R (Env × Store)
def DGs (W : Wd) (X : Cx) (E : XK) (tg : List Expr) (g : GVs) : Prop := ∃ t, PGs X tg t ∧ ∀ Rs F H r sg env st vs ds N, Holds W Rs F H r st → EnvOk F r sg env → Reps F r vs ds → PostX W Rs F r (g ds env st) (fun a => PostF W Rs F r a.1 a.2 N) E → t vs sg H N
def gN (i : Nat) : GV := fun d env st => .ok (env.set i (some d), st)
theorem dg_name {i : Nat} {x : Str} {pos : Pos} (hN : X.N.Nodup) (hi : X.N[i]? = some x) (hx : Loc X.env.scope x) (hf : X.fn x = true ∨ X.env.scope.names.lookup x = some .local := by first | exact .inl rfl | exact .inr rfl | assumption) : DG W X E (.Name x pos) (gN i) :=
  ⟨_, pg_name hN hi hx hf, fun Rs F H r sg env st v d N hH hE k hP => PostF.here hH (hE.set k i) hP⟩
def gsNil : GVs := fun ds env st => match ds with
  | [] => .ok (env, st)
  | _ => .bad
def gsCons (g : GV) (h : GVs) : GVs := fun ds env st => match ds with
  | d :: ds => (g d env st).bind fun a => h ds a.1 a.2
  | [] => .bad
theorem dgs_nil : DGs W X E [] gsNil := ⟨_, pgs_nil, fun Rs F H r sg env st vs ds N hH hE k hP => by
  cases k with
  | nil => exact ⟨rfl, PostF.here hH hE hP⟩
  | cons _ _ => exact hP.elim⟩
theorem dgs_cons {tg : Expr} {tgs : List Expr} {g : GV} {h : GVs} (h1 : DG W X E tg g) (h2 : DGs W X E tgs h)
    (hs : (assignEach (tg :: tgs) X.env).map (·.2) = assign tg X.env :: (assignEach tgs X.env).map (·.2) := by rfl) : DGs W X E (tg :: tgs) (gsCons g h) := by
  obtain ⟨t, p, q⟩ := h1
  obtain ⟨t2, p2, q2⟩ := h2
  refine ⟨_, pgs_cons p p2 hs, fun Rs F H r sg env st vs ds N hH hE k hP => ?_⟩
  cases k with
  | nil => exact hP.elim
  | @cons v vs d ds k1 k2 =>
    refine ⟨v, vs, rfl, q Rs F H r sg env st v d _ hH hE k1 (bindX hP fun a ea z F1 H1 r1 sg1 s1 x1 h1 e1 => ?_)⟩
    exact q2 Rs F1 H1 r1 sg1 a.1 a.2 vs ds N h1 e1 (k2.mono s1 x1) (PostX.imp s1 x1 z fun _ y => PostF.later s1 x1 y)
/-- (a, b, ..) = a tuple -/
def gTp (n : Nat) (h : GVs) : GV := fun d env st => match d with
  | .tup ds => if ds.length = n then h ds env st else .bad
  | _ => .bad
theorem dg_tup {es : List Expr} {k n : Nat} {h : GVs} {pos : Pos} (hc : X.calm = true) (hh : DGs W X E es h)
    (hn : (assignEach es X.env).length = n := by rfl) (hst : (assignEach es X.env).findIdx? (·.1) = none := by rfl) : DG W X E (.Tuple es k pos) (gTp n h) := by
  obtain ⟨t, p, q⟩ := hh
  refine ⟨_, pg_tup hc p hn hst, fun Rs F H r sg env st v d N hH hE k hP => ?_⟩
  cases d with
  | tup ds =>
    unfold gTp at hP
    simp only at hP
    split at hP
    · rename_i hl
      cases k with
      | @tup a vs _ e k1 => exact ⟨a, vs, rfl, .of (hH.sF _ _ e), by rw [k1.length, hl], q Rs F H r sg env st vs ds N hH hE k1 hP⟩
    · exact hP.elim
  | _ => exact hP.elim
/-- o[i] = e, by values -/
abbrev SetV := Store → D → D → D → Option Store
def DSet (W : Wd) (X : Cx) (g : SetV) : Prop := ∃ t, PSet X t ∧ ∀ Rs F H r st o i v dO di dv N, Holds W Rs F H r st → Rep F r o dO → Rep F r i di → Rep F r v dv →
  ∀ st', g st dO di dv = some st' → (∀ H', Holds W Rs F H' r st' → N H') → t o i v H N
def gSb (fo fi : EV) (g : SetV) : GV := fun d env st => (fo env st).bind fun a => (fi env a.2).bind fun b => match g b.2 a.1 b.1 d with
  | some st' => .ok (env, st')
  | none => .bad
theorem dg_sub {o i : Expr} {fo fi : EV} {g : SetV} {pos : Pos} (ho : DE W X E o fo) (hi : DE W X E i fi) (hs : DSet W X g)
    (ha : ∀ v, assign (.Subscript o i pos) X.env v = (do
      let ov ← holding [v] (eval o X.env)
      let iv ← holding [v, ov] (eval i X.env)
      standAt pos
      holding [v, ov, iv] (setItem ov iv v)
      release [v, ov, iv] []) := by intro _; rfl) : DG W X E (.Subscript o i pos) (gSb fo fi g) := by
  obtain ⟨to, po, qo⟩ := ho.ex
  obtain ⟨ti, pi, qi⟩ := hi.ex
  obtain ⟨ts, ps, qs⟩ := hs
  refine ⟨_, pg_sub po pi ps ha, fun Rs F H r sg env st v d N hH hE k hP => ?_⟩
  refine qo Rs F H r sg env st _ hH hE (bindX hP fun a ea z F1 H1 r1 v1 s1 x1 h1 k1 => ?_)
  refine qi Rs F1 H1 r1 sg env a.2 _ h1 (hE.mono s1 x1) (bindX (PostX.imp s1 x1 z fun _ y => PostF.later s1 x1 y) fun b eb z2 F2 H2 r2 v2 s2 x2 h2 k2 => ?_)
  cases e : g b.2 a.1 b.1 d with
  | none => rw [e] at z2; exact z2.elim
  | some st' =>
    rw [e] at z2
    exact qs Rs F2 H2 r2 b.2 v1 v2 v a.1 b.1 d _ h2 (k1.mono s2 x2) k2 (k.mono (s1.trans s2) (x1.trans x2)) st' e fun H' h' => z2 F2 H' r2 sg s2 x2 h' (hE.mono (s1.trans s2) (x1.trans x2))
def setLG : SetV := fun st o i v => match o, i with
  | .ref n, .int k => match st[n]? with
    | some (.lst ds) => match ixN ds.length k with
      | some j => some (st.set n (.lst (ds.set j v)))
      | none => none
    | _ => none
  | _, _ => none
theorem dset_list : DSet W X setLG := ⟨_, set_list, fun Rs F H r st o i v dO di dv N hH ko ki kv st' e hN => by
  cases ko with
  | @ref a n q =>
    cases ki with
    | int k =>
      unfold setLG at e
      simp only at e
      split at e
      · rename_i ds e1
        split at e
        · rename_i j e2
          cases e
          obtain ⟨vs, h1, k1⟩ := hH.ob n a _ q e1
          refine ⟨a, vs, k, j, rfl, rfl, h1, by rw [k1.length]; exact e2, hN _ (hH.write q ⟨_, upd_same, Reps.set kv j k1⟩)⟩
        · cases e
      · cases e
    | _ => cases e
  | _ => cases e⟩

/-! ### assignments -/
def sAsg (f : EV) (g : GV) : SV := fun env st => sOf (f env st) fun a => sOf (g a.1 env a.2) fun b => .nx b.1 b.2
theorem sAsg_post {te : TE} {tg : TG} {f : EV} {g : GV} (q : ∀ Rs F H r sg env st Q, Holds W Rs F H r st → EnvOk F r sg env → Post W Rs F r (f env st) Q E → te sg H Q)
    (qg : ∀ Rs F H r sg env st v d N, Holds W Rs F H r st → EnvOk F r sg env → Rep F r v d → PostX W Rs F r (g d env st) (fun a => PostF W Rs F r a.1 a.2 N) E → tg v sg H N)
    {Rs F H r sg env st D} (hH : Holds W Rs F H r st) (hE : EnvOk F r sg env) (hP : PostS W Rs F r (sAsg f g env st) D E) : tAsg te tg D sg H := by
  refine q Rs F H r sg env st _ hH hE (bindS hP fun a ea z F1 H1 r1 v1 s1 x1 h1 k1 => ?_)
  refine qg Rs F1 H1 r1 sg env a.2 v1 a.1 D.nx h1 (hE.mono s1 x1) k1 (bindS (D := D) (PostS.later s1 x1 z) fun b eb z2 => z2)
theorem ds_asg {tg e : Expr} {f : EV} {g : GV} (he : DE W X E e f) (hg : DG W X E tg g) (hs : swapsWithSole [tg] e pos.line X.env = pure false := by rfl) (hw : swappedStores [tg] e X.env = pure none := by rfl)
    (h1 : (assignEach [tg] X.env).map (·.2) = [assign tg X.env] := by rfl) : DS W X E (.Assign [tg] e pos) (sAsg f g) := by
  obtain ⟨t, p, q⟩ := he.ex
  obtain ⟨tg, pg, qg⟩ := hg
  exact .mk (ps_asg p pg hs hw h1) fun Rs F H r sg env st D hH hE hP => sAsg_post q qg hH hE hP
theorem gN_ok {i : Nat} : ∀ Rs F H r sg env st v d N, Holds W Rs F H r st → EnvOk F r sg env → Rep F r v d → PostX W Rs F r (gN i d env st) (fun a => PostF W Rs F r a.1 a.2 N) E → gName i v sg H N :=
  fun Rs F H r sg env st v d N hH hE k hP => PostF.here hH (hE.set k i) hP
theorem ds_set {i : Nat} {x : Str} {e : Expr} {f : EV} {pos' : Pos} (hN : X.N.Nodup) (hi : X.N[i]? = some x) (hx : Loc X.env.scope x) (he : DE W X E e f) (hs : swapsWith e (some (.Name x pos')) pos.line X.env = pure false := by rfl) (hf : X.fn x = true ∨ X.env.scope.names.lookup x = some .local := by first | exact .inl rfl | exact .inr rfl | assumption) :
    DS W X E (.Assign [.Name x pos'] e pos) (sAsg f (gN i)) := by
  obtain ⟨t, p, q⟩ := he.ex
  exact .mk (ps_set hN hi hx p hs hf) fun Rs F H r sg env st D hH hE hP => sAsg_post q gN_ok hH hE hP
/-- a, b = x, y by swapped stores -/
def sPar (i j : Nat) (f : AV) : SV := fun env st => sOf (f env st) fun a => match a.1 with
  | [d, e] => .nx ((env.set i (some d)).set j (some e)) a.2
  | _ => .bad
theorem ds_par {i j : Nat} {x y : Str} {a b : Expr} {fa : AV} {px py pt : Pos} {kt k2 pt2} (hc : X.calm = true) (hN : X.N.Nodup) (hi : X.N[i]? = some x) (hj : X.N[j]? = some y) (hij : i ≠ j)
    (hx : X.env.scope.names.lookup x = some .local) (hy : X.env.scope.names.lookup y = some .local) (ha : DA W X E [a, b] fa)
    (hw : swappedStores [.Tuple [.Name x px, .Name y py] kt pt] (.Tuple [a, b] k2 pt2) X.env = pure (some [x, y]))
    (hs : swapsWithSole [.Tuple [.Name x px, .Name y py] kt pt] (.Tuple [a, b] k2 pt2) pos.line X.env = pure false := by rfl) :
    DS W X E (.Assign [.Tuple [.Name x px, .Name y py] kt pt] (.Tuple [a, b] k2 pt2) pos) (sPar i j fa) := by
  obtain ⟨t, p, q⟩ := ha.ex
  refine .mk (ps_par hc hN hi hj hij hx hy p hw hs) fun Rs F H r sg env st D hH hE hP => ?_
  refine q Rs F H r sg env st _ hH hE (bindS hP fun a ea z F1 H1 r1 vs s1 x1 h1 k1 => ?_)
  obtain ⟨ds, st1⟩ := a
  cases k1 with
  | nil => exact z.elim
  | cons k1 k2 =>
    cases k2 with
    | nil => exact z.elim
    | cons k2 k3 =>
      cases k3 with
      | nil => exact ⟨_, _, rfl, z F1 H1 r1 _ s1 x1 h1 (((hE.mono s1 x1).set k1 i).set k2 j)⟩
      | cons _ _ => exact z.elim
def sPar3 (i j l : Nat) (f : AV) : SV := fun env st => sOf (f env st) fun a => match a.1 with
  | [d, e, c] => .nx (((env.set i (some d)).set j (some e)).set l (some c)) a.2
  | _ => .bad
theorem ds_par3 {i j l : Nat} {x y z : Str} {a b c : Expr} {fa : AV} {px py pz pt : Pos} {kt k2 pt2} (hc : X.calm = true) (hN : X.N.Nodup) (hi : X.N[i]? = some x) (hj : X.N[j]? = some y) (hl : X.N[l]? = some z) (hij : i ≠ j) (hil : i ≠ l) (hjl : j ≠ l)
    (hx : X.env.scope.names.lookup x = some .local) (hy : X.env.scope.names.lookup y = some .local) (hz : X.env.scope.names.lookup z = some .local) (ha : DA W X E [a, b, c] fa)
    (hw : swappedStores [.Tuple [.Name x px, .Name y py, .Name z pz] kt pt] (.Tuple [a, b, c] k2 pt2) X.env = pure (some [x, y, z]))
    (hs : swapsWithSole [.Tuple [.Name x px, .Name y py, .Name z pz] kt pt] (.Tuple [a, b, c] k2 pt2) pos.line X.env = pure false := by rfl) :
    DS W X E (.Assign [.Tuple [.Name x px, .Name y py, .Name z pz] kt pt] (.Tuple [a, b, c] k2 pt2) pos) (sPar3 i j l fa) := by
  obtain ⟨t, p, q⟩ := ha.ex
  refine .mk (ps_par3 hc hN hi hj hl hij hil hjl hx hy hz p hw hs) fun Rs F H r sg env st D hH hE hP => ?_
  refine q Rs F H r sg env st _ hH hE (bindS hP fun a ea z F1 H1 r1 vs s1 x1 h1 k1 => ?_)
  obtain ⟨ds, st1⟩ := a
  cases k1 with
  | nil => exact z.elim
  | cons k1 k2 =>
    cases k2 with
    | nil => exact z.elim
    | cons k2 k3 =>
      cases k3 with
      | nil => exact z.elim
      | cons k3 k4 =>
        cases k4 with
        | nil => exact ⟨_, _, _, rfl, z F1 H1 r1 _ s1 x1 h1 ((((hE.mono s1 x1).set k1 i).set k2 j).set k3 l)⟩
        | cons _ _ => exact z.elim

/-! ### while -/
def whileGo (t : TV) (b : SV) : Nat → Env → Store → SR
  | 0, _, _ => .bad
  | n + 1, env, st => sOf (t env st) fun a => if a.1 = true then (match b env a.2 with
      | .nx e s => whileGo t b n e s
      | .ct e s => whileGo t b n e s
      | .bk e s => .nx e s
      | .rt d s => .rt d s
      | .exc c p s => .exc c p s
      | .bad => .bad) else .nx env a.2
theorem ds_while (n : Nat) {c : Expr} {body : List Stmt} {tc : TV} {tb : SV} (hp : PassesOwn (model X.prog X.w) X.A X.env X.xe) (hc : DT W X E c tc) (hb : DB W X E body tb) : DS W X E (.While c body [] pos) (whileGo tc tb n) := by
  obtain ⟨t, p, q⟩ := hc.ex
  obtain ⟨t1, p1, q1⟩ := hb.ex
  refine .mk (ps_while hp p p1) fun Rs F H r sg env st D hH hE hP => ?_
  refine ⟨fun m sg' H' => ∃ F' r' env' st', Holds W Rs F' H' r' st' ∧ EnvOk F' r' sg' env' ∧ PostS W Rs F' r' (whileGo tc tb m env' st') D E, ⟨n, F, r, env, st, hH, hE, hP⟩, ?_⟩
  rintro m sg H ⟨F, r, env, st, hH, hE, hP⟩
  cases m with
  | zero => exact hP.elim
  | succ m =>
    unfold whileGo at hP
    refine q Rs F H r sg env st _ hH hE (bindS hP fun a ea k F1 H1 r1 s1 x1 h1 => ?_)
    obtain ⟨c, st1⟩ := a
    cases c with
    | false => exact k F1 H1 r1 sg s1 x1 h1 (hE.mono s1 x1)
    | true =>
      show ∃ N : St → Hp → Prop, _ ∧ _
      refine ⟨fun sg' H' => ∃ F' r' env' st', Holds W Rs F' H' r' st' ∧ EnvOk F' r' sg' env' ∧ PostS W Rs F' r' (whileGo tc tb m env' st') D E, fun sg' H' z => ⟨m, Nat.lt_succ_self m, z⟩, ?_⟩
      refine q1 Rs F1 H1 r1 sg env st1 _ h1 (hE.mono s1 x1) ?_
      replace k := PostS.later s1 x1 k
      simp only [if_true] at k
      cases eb : tb env st1 with
      | nx e s => rw [eb] at k; exact fun F2 H2 r2 sg2 s2 x2 h2 k2 => ⟨F2, r2, e, s, h2, k2, PostS.later s2 x2 k⟩
      | ct e s => rw [eb] at k; exact fun F2 H2 r2 sg2 s2 x2 h2 k2 => ⟨F2, r2, e, s, h2, k2, PostS.later s2 x2 k⟩
      | bk e s => rw [eb] at k; exact k
      | rt d s => rw [eb] at k; exact k
      | exc c p s => rw [eb] at k; exact k
      | bad => rw [eb] at k; exact k

/-! ### what is walked -/
def still (sub : List (Nat × List D)) (st : Store) : Bool := sub.all fun p => match st[p.1]? with
  | some (.lst ds) => D.beqs ds p.2
  | _ => false
theorem still_at {sub : List (Nat × List D)} {st : Store} (h : still sub st = true) {n : Nat} {ds : List D} (m : (n, ds) ∈ sub) : st[n]? = some (.lst ds) := by
  unfold still at h
  have q := List.all_eq_true.mp h (n, ds) m
  simp only at q
  split at q
  · rename_i es e
    rw [e, D.eqs_of_beqs _ _ q]
  · cases q
@[simp] theorem still_nil (st : Store) : still [] st = true := rfl
theorem still_one {n : Nat} {ds : List D} {st : Store} (h : st[n]? = some (.lst ds)) : still [(n, ds)] st = true := by
  unfold still
  simp [h, D.beqs_refl]
abbrev Wk := List D × List (Nat × List D)
abbrev IV := Env → Store → R (Wk × Store)
def Drv (W : Wd) (F0 : Hp) (r0 : List Addr) (J : It) (w : Wk) : Prop := ∀ (i : Nat) Rs F H r st, Same F0 F → Ext r0 r → Holds W Rs F H r st → still w.2 st = true →
  (∀ d, w.1[i]? = some d → J.go i H ∧ ∀ x H', J.yld i H x H' → ∃ F', Same F F' ∧ Holds W Rs F' H' r st ∧ Rep F' r x d) ∧ (w.1.length ≤ i → J.stop i H)
def DI (W : Wd) (X : Cx) (E : XK) (tg iter : Expr) (f : IV) : Prop := ∃ wi, PI X tg iter wi ∧ ∀ Rs F H r sg env st (Q : It → Hp → Prop), Holds W Rs F H r st → EnvOk F r sg env →
  PostX W Rs F r (f env st) (fun a => ∀ J F' H' r', Same F F' → Ext r r' → Holds W Rs F' H' r' a.2 → Drv W F' r' J a.1 → Q J H') E → wi sg H Q
def forGo (sub : List (Nat × List D)) (g : GV) (b : SV) : List D → Env → Store → SR
  | [], env, st => if still sub st = true then .nx env st else .bad
  | d :: ds, env, st => if still sub st = true then sOf (g d env st) fun a => (match b a.1 a.2 with
      | .nx e s => forGo sub g b ds e s
      | .ct e s => forGo sub g b ds e s
      | .bk e s => .nx e s
      | .rt d s => .rt d s
      | .exc c p s => .exc c p s
      | .bad => .bad) else .bad
def sFor (it : IV) (g : GV) (b : SV) : SV := fun env st => sOf (it env st) fun a => forGo a.1.2 g b a.1.1 env a.2
theorem ds_for {tg iter : Expr} {body : List Stmt} {it : IV} {g : GV} {tb : SV} (hp : PassesOwn (model X.prog X.w) X.A X.env X.xe) (hc : X.calm = true) (hi : DI W X E tg iter it) (hg : DG W X E tg g) (hb : DB W X E body tb)
    (hs : ∀ x, foldedSetIterable iter X.env x = pure x := by intro _; rfl) : DS W X E (.For tg iter body [] pos) (sFor it g tb) := by
  obtain ⟨wi, p, q⟩ := hi
  obtain ⟨t, pg, qg⟩ := hg
  obtain ⟨t1, p1, q1⟩ := hb.ex
  refine .mk (ps_for hp hc p pg p1 hs) fun Rs F H r sg env st D hH hE hP => ?_
  refine q Rs F H r sg env st _ hH hE (bindS hP fun a ea z J F0 H0 r0 s0 x0 h0 drv => ?_)
  obtain ⟨⟨items, sub⟩, st0⟩ := a
  refine ⟨fun i m sg' H' => m = items.length - i ∧ i ≤ items.length ∧ ∃ F' r' env' st', Same F0 F' ∧ Ext r0 r' ∧ Holds W Rs F' H' r' st' ∧ EnvOk F' r' sg' env' ∧ PostS W Rs F' r' (forGo sub g tb (items.drop i) env' st') D E,
    ⟨items.length, by simp, Nat.zero_le _, F0, r0, env, st0, Same.refl _, Ext.refl _, h0, hE.mono s0 x0, PostS.later s0 x0 z⟩, ?_⟩
  rintro i m sg H ⟨rfl, hi, F, r, env, st, s, x, hH, hE, hP⟩
  by_cases hl : i < items.length
  · rw [List.drop_eq_getElem_cons hl] at hP
    unfold forGo at hP
    by_cases hst : still sub st = true
    · rw [if_pos hst] at hP
      obtain ⟨d1, _⟩ := drv i Rs F H r st s x hH hst
      obtain ⟨go, yld⟩ := d1 items[i] (by simp [hl])
      refine .inr ⟨go, fun sg' H' => i + 1 ≤ items.length ∧ ∃ F' r' env' st', Same F0 F' ∧ Ext r0 r' ∧ Holds W Rs F' H' r' st' ∧ EnvOk F' r' sg' env' ∧ PostS W Rs F' r' (forGo sub g tb (items.drop (i + 1)) env' st') D E,
        fun sg' H' z => ⟨items.length - (i + 1), by omega, rfl, z⟩, fun v H1 y => ?_⟩
      obtain ⟨F1, s1, h1, k1⟩ := yld v H1 y
      have hP1 := PostS.later s1 (Ext.refl r) hP
      refine qg Rs F1 H1 r sg env st v items[i] _ h1 (hE.mono s1 (Ext.refl _)) k1 (bindS hP1 fun b eb z2 F2 H2 r2 sg2 s2 x2 h2 k2 => ?_)
      refine q1 Rs F2 H2 r2 sg2 b.1 b.2 _ h2 k2 ?_
      replace z2 := PostS.later s2 x2 z2
      cases ebb : tb b.1 b.2 with
      | nx e s' => rw [ebb] at z2; exact fun F3 H3 r3 sg3 s3 x3 h3 k3 => ⟨hl, F3, r3, e, s', ((s.trans s1).trans s2).trans s3, (x.trans x2).trans x3, h3, k3, PostS.later s3 x3 z2⟩
      | ct e s' => rw [ebb] at z2; exact fun F3 H3 r3 sg3 s3 x3 h3 k3 => ⟨hl, F3, r3, e, s', ((s.trans s1).trans s2).trans s3, (x.trans x2).trans x3, h3, k3, PostS.later s3 x3 z2⟩
      | bk e s' => rw [ebb] at z2; exact z2
      | rt d s' => rw [ebb] at z2; exact z2
      | exc c p s' => rw [ebb] at z2; exact z2
      | bad => rw [ebb] at z2; exact z2
    · rw [if_neg hst] at hP; exact hP.elim
  · have e : items.drop i = [] := List.drop_eq_nil_of_le (by omega)
    rw [e] at hP
    unfold forGo at hP
    by_cases hst : still sub st = true
    · rw [if_pos hst] at hP
      obtain ⟨_, d2⟩ := drv i Rs F H r st s x hH hst
      exact .inl ⟨d2 (by simpa using hl), PostF.here hH hE hP⟩
    · rw [if_neg hst] at hP; exact hP.elim

/-! ### a list, a tuple, a text -/
theorem drv_list {K : PySem.W.Frag} {F0 : Hp} {r0 : List Addr} {a : Addr} {w : Wk} (h : ∀ Rs F H r st, Same F0 F → Ext r0 r → Holds W Rs F H r st → still w.2 st = true → ∃ vs, SqL K H a vs ∧ Reps F r vs w.1) : Drv W F0 r0 (Itl K a) w := fun i Rs F H r st s x hH hst => by
  obtain ⟨vs, h1, k1⟩ := h Rs F H r st s x hH hst
  refine ⟨fun d e => ?_, fun hl => ⟨vs, h1, by rw [k1.length]; exact hl⟩⟩
  obtain ⟨v, e1, k⟩ := k1.get e
  refine ⟨⟨vs, v, h1, e1⟩, fun y H' yl => ?_⟩
  obtain ⟨e2, yl⟩ := yl
  subst e2
  have := yl vs h1
  rw [e1] at this; cases this
  exact ⟨F, Same.refl _, hH, k⟩
theorem drv_tup {K : PySem.W.Frag} {F0 : Hp} {r0 : List Addr} {a : Addr} {w : Wk} {vs : List V} (h : F0 a = some (.tup vs)) (k1 : Reps F0 r0 vs w.1) : Drv W F0 r0 (Itt K a) w := fun i Rs F H r st s x hH hst => by
  have h1 : SqT K H a vs := .of (hH.sF _ _ (s _ _ h))
  replace k1 := k1.mono s x
  refine ⟨fun d e => ?_, fun hl => ⟨vs, h1, by rw [k1.length]; exact hl⟩⟩
  obtain ⟨v, e1, k⟩ := k1.get e
  refine ⟨⟨vs, v, h1, e1⟩, fun y H' yl => ?_⟩
  obtain ⟨e2, yl⟩ := yl
  subst e2
  have := yl vs h1
  rw [e1] at this; cases this
  exact ⟨F, Same.refl _, hH, k⟩
theorem drv_str {F0 : Hp} {r0 : List Addr} {s : List Nat} {w : Wk} (hw : w.1 = s.map fun c => D.str [c]) (ha : s.all (fun c => decide (c < 128)) = true) : Drv W F0 r0 (Its ⟨s.toArray⟩) w := fun i Rs F H r st ss x hH hst => by
  refine ⟨fun d e => ?_, fun hl => by show s.toArray.size ≤ i; rw [hw, List.length_map] at hl; simpa using hl⟩
  rw [hw, List.getElem?_map] at e
  cases q : s[i]? with
  | none => rw [q] at e; cases e
  | some c =>
    rw [q] at e; cases e
    refine ⟨by show i < s.toArray.size; simpa using (List.getElem?_eq_some_iff.mp q).1, fun y H' yl => ?_⟩
    obtain ⟨e2, c', e3, e4⟩ := yl
    have e3' : s[i]? = some c' := by simpa using e3
    rw [q] at e3'; cases e3'
    subst e2 e4
    have hc := List.all_eq_true.mp ha c (List.mem_of_getElem? q)
    exact ⟨F, Same.refl _, hH, .str [c] (by simpa using hc) (by simp [LIM])⟩
def itemsOf (st : Store) : D → Option Wk
  | .lst ds => some (ds, [])
  | .tup ds => some (ds, [])
  | .str s => some (s.map fun c => D.str [c], [])
  | .scr ns => some (ns.map D.int, [])
  | .ref n => match st[n]? with
    | some (.lst ds) => some (ds, [(n, ds)])
    | _ => none
  | _ => none
def iSeq (f : EV) : IV := fun env st => (f env st).bind fun a => match itemsOf a.2 a.1 with
  | some w => .ok (w, a.2)
  | none => .bad
theorem reps_ints {F : Hp} {r : List Addr} : ∀ ns : List Int, Reps F r (ns.map V.int) (ns.map D.int)
  | [] => .nil
  | n :: ns => .cons (.int n) (reps_ints ns)
theorem pi_or {tg iter : Expr} {wi wi' : TI} (h : PI X tg iter wi) (h' : PI X tg iter wi') : PI X tg iter (fun sg H Q => wi sg H Q ∨ wi' sg H Q) :=
  ⟨fun pins s sg H Q I q => q.elim (h.run pins s sg H Q I) (h'.run pins s sg H Q I)⟩
theorem di_seq {tg e : Expr} {f : EV} (he : DE W X E e f) : DI W X E tg e (iSeq f) := by
  obtain ⟨t, p, q⟩ := he.ex
  refine ⟨_, pi_or (pi_list p) (pi_or (pi_tup p) (pi_str p)), fun Rs F H r sg env st Q hH hE hP => ?_⟩
  -- which one it is, by what the data are
  have lists : (∀ a, f env st = .ok a → ∀ w, itemsOf a.2 a.1 = some w → (∀ ds, a.1 ≠ .tup ds) ∧ (∀ s, a.1 ≠ .str s)) → iList X.K t sg H Q := fun hk => by
    refine q Rs F H r sg env st _ hH hE (bindX hP fun a ea z F1 H1 r1 v1 s1 x1 h1 k1 => ?_)
    cases ew : itemsOf a.2 a.1 with
    | none => rw [ew] at z; exact z.elim
    | some w =>
      rw [ew] at z
      obtain ⟨n1, n2⟩ := hk a ea w ew
      obtain ⟨d, st1⟩ := a
      have fin : ∀ p vs, v1 = .ref p → SqL X.K H1 p vs → Drv W F1 r1 (Itl X.K p) w → ∃ a, v1 = .ref a ∧ (∃ xs, SqL X.K H1 a xs) ∧ Q (Itl X.K a) H1 := fun p vs e h dr => ⟨p, e, ⟨vs, h⟩, z _ F1 H1 r1 s1 x1 h1 dr⟩
      cases k1 with
      | tup _ _ => exact absurd rfl (n1 _)
      | str _ _ _ => exact absurd rfl (n2 _)
      | lst e k => cases ew; exact fin _ _ rfl (.of (h1.sF _ _ e)) (drv_list fun Rs F H r st s x hH _ => ⟨_, .of (hH.sF _ _ (s _ _ e)), k.mono s x⟩)
      | @scr a o ns e => cases ew; exact fin _ _ rfl (.inl (.inr ⟨o, h1.sF _ _ e⟩)) (drv_list fun Rs F H r st s x hH _ => ⟨_, .inl (.inr ⟨o, hH.sF _ _ (s _ _ e)⟩), reps_ints ns⟩)
      | @ref a n e =>
        unfold itemsOf at ew
        simp only at ew
        split at ew
        · rename_i ds e1
          cases ew
          obtain ⟨vs, q1, k⟩ := h1.ob n a _ e e1
          refine fin a vs rfl (.of q1) (drv_list fun Rs F H r st s x hH hst => ?_)
          obtain ⟨vs', q1', k'⟩ := hH.ob n a _ (x _ _ e) (still_at (ds := ds) hst (List.mem_cons_self))
          exact ⟨vs', .of q1', k'⟩
        · cases ew
      | _ => cases ew
  cases ef : f env st with
  | bad => unfold iSeq at hP; rw [ef] at hP; exact hP.elim
  | exc c p' s' => exact .inl (lists fun a ea => by rw [ef] at ea; cases ea)
  | ok a =>
    obtain ⟨d, st1⟩ := a
    cases d with
    | tup ds =>
      refine .inr (.inl (q Rs F H r sg env st _ hH hE (bindX hP fun a ea z F1 H1 r1 v1 s1 x1 h1 k1 => ?_)))
      rw [ef] at ea; cases ea
      cases k1 with
      | tup e k => exact ⟨_, rfl, ⟨_, .of (h1.sF _ _ e)⟩, z _ F1 H1 r1 s1 x1 h1 (drv_tup e k)⟩
    | str s =>
      refine .inr (.inr (q Rs F H r sg env st _ hH hE (bindX hP fun a ea z F1 H1 r1 v1 s1 x1 h1 k1 => ?_)))
      rw [ef] at ea; cases ea
      cases k1 with
      | str s ha hl => exact ⟨_, rfl, z _ F1 H1 r1 s1 x1 h1 (drv_str rfl ha)⟩
    | _ => exact .inl (lists fun a ea w ew => by rw [ef] at ea; cases ea; exact ⟨(fun _ z => nomatch z), (fun _ z => nomatch z)⟩)
end
end Dl
/-! ## DlComp -/
/-! List comprehensions; ranges, enumerate, zip. -/
namespace Dl
open PySem L2

section
variable {W : Wd} {Rs F H : Hp} {r : List Addr} {st : Store} {p : Addr} {o o' : HO}
theorem Holds.guard (h : Holds W Rs F H r st) (e : H p = none) : Holds W (upd Rs p o) F (upd H p o) r st := by
  refine ⟨fun c u q => ?_, fun c u q => ?_, fun c q => ?_, h.len, h.nd, fun c m => ⟨(h.own c m).1, ?_⟩, fun i a b e1 e2 => ?_⟩
  · rw [upd_ne (ne_of_none q (h.freeF e))]; exact h.sF _ _ q
  · by_cases hc : c = p
    · subst hc; rw [upd_same] at q ⊢; exact q
    · rw [upd_ne hc] at q ⊢; exact h.sR _ _ q
  · by_cases hc : c = p
    · subst hc; exact absurd (h.freeF e) q
    · rw [upd_ne hc]; exact h.dj c q
  · have hc : c ≠ p := fun z => h.notin e (z ▸ m)
    rw [upd_ne hc]; exact (h.own c m).2
  · have hc : a ≠ p := fun z => h.notin e (z ▸ List.mem_of_getElem? e1)
    exact (h.ob i a b e1 e2).mono (Same.refl _) (Ext.refl _) (upd_ne hc)
theorem Holds.at_guard (h : Holds W (upd Rs p o) F H r st) : H p = some o ∧ F p = none ∧ p ∉ r := by
  refine ⟨h.sR _ _ upd_same, ?_, fun m => ?_⟩
  · cases q : F p with
    | none => rfl
    | some u =>
      have := h.dj p (by rw [q]; simp)
      rw [upd_same] at this; cases this
  · have := (h.own p m).2
    rw [upd_same] at this; cases this
theorem Holds.reguard (h : Holds W (upd Rs p o) F H r st) : Holds W (upd Rs p o') F (upd H p o') r st := by
  obtain ⟨e0, e1, e2⟩ := h.at_guard
  refine ⟨fun c u q => ?_, fun c u q => ?_, fun c q => ?_, h.len, h.nd, fun c m => ⟨(h.own c m).1, ?_⟩, fun i a b e1' e2' => ?_⟩
  · rw [upd_ne (fun z => by rw [z, e1] at q; cases q)]; exact h.sF _ _ q
  · by_cases hc : c = p
    · subst hc; rw [upd_same] at q ⊢; exact q
    · rw [upd_ne hc] at q ⊢
      exact h.sR c u (by rw [upd_ne hc]; exact q)
  · by_cases hc : c = p
    · subst hc; exact absurd e1 q
    · have := h.dj c q
      rw [upd_ne hc] at this ⊢; exact this
  · have hc : c ≠ p := fun z => e2 (z ▸ m)
    have := (h.own c m).2
    rw [upd_ne hc] at this ⊢; exact this
  · have hc : a ≠ p := fun z => e2 (z ▸ List.mem_of_getElem? e1')
    exact (h.ob i a b e1' e2').mono (Same.refl _) (Ext.refl _) (upd_ne hc)
theorem Holds.thaw (h : Holds W (upd Rs p o) F H r st) (e : Rs p = none) : Same F (upd F p o) ∧ Holds W Rs (upd F p o) H r st := by
  obtain ⟨e0, e1, e2⟩ := h.at_guard
  have sF : Same F (upd F p o) := fun b u q => by rw [upd_ne (ne_of_none q e1)]; exact q
  refine ⟨sF, ⟨fun c u q => ?_, fun c u q => ?_, fun c q => ?_, h.len, h.nd, fun c m => ?_, fun i a b e1' e2' => ?_⟩⟩
  · by_cases hc : c = p
    · subst hc; rw [upd_same] at q; cases q; exact e0
    · rw [upd_ne hc] at q; exact h.sF _ _ q
  · have hc : c ≠ p := ne_of_none q e
    exact h.sR c u (by rw [upd_ne hc]; exact q)
  · by_cases hc : c = p
    · rw [hc]; exact e
    · rw [upd_ne hc] at q
      have := h.dj c q
      rw [upd_ne hc] at this; exact this
  · have hc : c ≠ p := fun z => e2 (z ▸ m)
    have := h.own c m
    rw [upd_ne hc] at this ⊢; exact this
  · exact (h.ob i a b e1' e2').mono sF (Ext.refl _) rfl
theorem Holds.adopt {b : Ob} (h : Holds W (upd Rs p o) F H r st) (e : Rs p = none) (k : ObOk W F (r ++ [p]) H p b) : Holds W Rs F H (r ++ [p]) (st ++ [b]) := by
  obtain ⟨e0, e1, e2⟩ := h.at_guard
  refine ⟨h.sF, fun c u q => ?_, fun c q => ?_, by simp [h.len], ?_, fun c m => ?_, fun i a o' e1' e2' => ?_⟩
  · have hc : c ≠ p := ne_of_none q e
    exact h.sR c u (by rw [upd_ne hc]; exact q)
  · by_cases hc : c = p
    · rw [hc]; exact e
    · have := h.dj c q
      rw [upd_ne hc] at this; exact this
  · rw [List.nodup_append]
    refine ⟨h.nd, by simp, fun a ha b hb => ?_⟩
    have : b = p := by simpa using hb
    subst this
    exact fun z => e2 (z ▸ ha)
  · rcases List.mem_append.mp m with m | m
    · have hc : c ≠ p := fun z => e2 (z ▸ m)
      have := h.own c m
      rw [upd_ne hc] at this; exact this
    · have : c = p := by simpa using m
      subst this
      exact ⟨e1, e⟩
  · by_cases hi : i < r.length
    · rw [List.getElem?_append_left hi] at e1'
      rw [List.getElem?_append_left (by rw [← h.len]; exact hi)] at e2'
      exact (h.ob i a o' e1' e2').mono (Same.refl _) (Ext.snoc _ _) rfl
    · have hl : i = r.length := by
        have := (List.getElem?_eq_some_iff.mp e1').1
        simp at this; omega
      subst hl
      rw [List.getElem?_append_right (Nat.le_refl _)] at e1'
      rw [List.getElem?_append_right (by rw [h.len]; exact Nat.le_refl _)] at e2'
      simp at e1'
      rw [h.len] at e2'
      simp at e2'
      subst e1'; subst e2'
      exact k
end

section
variable {W : Wd} {X : Cx} {E : XK}
/-- no exception is borne -/
def noX {A : Type} (res : R A) : R A := match res with
  | .ok a => .ok a
  | _ => .bad
@[simp] theorem noX_ok {A : Type} (a : A) : noX (R.ok a) = .ok a := rfl
@[simp] theorem noX_exc {A : Type} (c : Nat) (p : Option D) (st : Store) : noX (R.exc c p st : R A) = .bad := rfl
@[simp] theorem noX_bad {A : Type} : noX (R.bad : R A) = .bad := rfl
theorem bindN {A B : Type} {Rs Rs' F F' : Hp} {r r' : List Addr} {E E' : XK} {res : R A} {f : A → R B} {K : B → Prop} {K' : A → Prop} (h : PostX W Rs F r ((noX res).bind f) K E) (k : ∀ a, res = .ok a → PostX W Rs F r (f a) K E → K' a) : PostX W Rs' F' r' res K' E' := by
  cases res with
  | ok a => exact k a rfl h
  | exc c p st' => exact h.elim
  | bad => exact h
def tDTs (W : Wd) (E : XK) (f : TV) : TT := tDT W E f
def DTs (W : Wd) (X : Cx) (E : XK) (ifs : List Expr) (f : TV) : Prop := PTs X ifs (tDT W E f)
def tYesD : TV := fun _ st => .ok (true, st)
theorem dts_nil : DTs W X E [] tYesD := ⟨fun pins s sg H Q I ⟨Rs, F, r, env, st, a, b, c⟩ => pts_nil.run pins s sg H Q I (onT_here a c)⟩
theorem dts_one {c : Expr} {f : TV} (h : DT W X E c f) : DTs W X E [c] f := pts_one h
def wipeD (env : Env) : List Nat → Env
  | [] => env
  | v :: vs => (wipeD env vs).set v none
theorem wipe_ok {F : Hp} {r : List Addr} {sg : St} {env : Env} (h : EnvOk F r sg env) : ∀ vs : List Nat, EnvOk F r (wipe sg vs) (wipeD env vs)
  | [] => h
  | v :: vs => by
    have ih := wipe_ok h vs
    unfold wipe wipeD
    refine ⟨by simp [ih.len], fun j e q => ?_⟩
    by_cases hj : v = j
    · subst hj
      by_cases hl : v < (wipeD env vs).length
      · rw [List.getElem?_set_self hl] at q; cases q
      · rw [List.getElem?_eq_none (by simp; omega)] at q; cases q
    · rw [List.getElem?_set_ne hj] at q ⊢
      exact ih.at_ j e q
/-- the block's target: one name, or two -/
inductive Tg1 where
  | one (j : Nat)
  | two (j k : Nat)
def Tg1.put : Tg1 → D → Env → Option Env
  | .one j, d, env => some (env.set j (some d))
  | .two j k, .tup [a, b], env => some ((env.set j (some a)).set k (some b))
  | _, _, _ => none
def Tg1.inside : Tg1 → List Nat → Bool
  | .one j, vs => vs.contains j
  | .two j k, vs => vs.contains j && vs.contains k
def Tg1.rd (K : PySem.W.Frag) : Tg1 → TG
  | .one j => gName j
  | .two j k => gTup K 2 (gCons (gName j) (gCons (gName k) gNil))
def Tg1.On (X : Cx) (tg : Expr) (t : Tg1) : Prop := PG X tg (t.rd X.K)
theorem tg_one {x : Str} {pos : Pos} {j : Nat} (hN : X.N.Nodup) (hi : X.N[j]? = some x) (hx : Loc X.env.scope x) (hf : X.fn x = true ∨ X.env.scope.names.lookup x = some .local := by first | exact .inl rfl | exact .inr rfl | assumption) : Tg1.On X (.Name x pos) (.one j) := pg_name hN hi hx hf
theorem tg_two {x y : Str} {p1 p2 : Pos} {j k kk : Nat} {pos : Pos} (hc : X.calm = true) (h1 : PG X (.Name x p1) (gName j)) (h2 : PG X (.Name y p2) (gName k)) : Tg1.On X (.Tuple [.Name x p1, .Name y p2] kk pos) (.two j k) :=
  pg_tup hc (pgs_cons h1 (pgs_cons h2 pgs_nil (by rfl)) (by rfl)) (by rfl) (by rfl)
theorem wipe_set {sg : St} {x : Option V} {j : Nat} : ∀ {vs : List Nat}, vs.contains j = true → wipe (sg.set j x) vs = wipe sg vs
  | [], h => by simp at h
  | v :: vs, h => by
    unfold wipe
    by_cases hj : j = v
    · subst hj
      have : ∀ (vs : List Nat) (sg : St), (wipe (sg.set j x) vs).set j none = (wipe sg vs).set j none := by
        intro vs
        induction vs with
        | nil => intro sg; unfold wipe; rw [List.set_set]
        | cons u us ih =>
          intro sg
          unfold wipe
          by_cases hu : u = j
          · subst hu; rw [List.set_set, List.set_set, ih]
          · rw [List.set_comm _ _ hu, List.set_comm _ _ hu, ih]
      exact this vs sg
    · have : vs.contains j = true := by
        rw [List.contains_cons] at h
        simp [hj] at h
        simpa using h
      rw [wipe_set this]
theorem wipe_wipe {sg : St} : ∀ {vs : List Nat}, wipe (wipe sg vs) vs = wipe sg vs := by
  intro vs
  have : ∀ (us : List Nat) (sg : St), (∀ u ∈ us, vs.contains u = true) → wipe (wipe sg us) vs = wipe sg vs := by
    intro us
    induction us with
    | nil => intro sg _; rfl
    | cons u us ih =>
      intro sg h
      rw [wipe, wipe_set (h u (by simp)), ih sg fun v hv => h v (by simp [hv])]
  exact this vs sg fun u hu => by simpa using hu
theorem Tg1.post {t : Tg1} {vs : List Nat} (hin : t.inside vs = true) {Rs F H : Hp} {r : List Addr} {st : Store} {sg : St} {env : Env} {v : V} {d : D} {env1 : Env} {N : St → Hp → Prop} (hH : Holds W Rs F H r st) (hE : EnvOk F r (wipe sg vs) env) (k : Rep F r v d) (e : t.put d env = some env1)
    (q : ∀ sg2, EnvOk F r sg2 env1 → wipe sg2 vs = wipe sg vs → N sg2 H) : t.rd X.K v (wipe sg vs) H N := by
  cases t with
  | one j =>
    cases e
    exact q _ (hE.set k j) (by rw [wipe_set hin, wipe_wipe])
  | two j l =>
    unfold Tg1.inside at hin
    rw [Bool.and_eq_true] at hin
    cases d with
    | tup ds =>
      match ds, e, k with
      | [a, b], e, .tup h (.cons k1 (.cons k2 .nil)) =>
        cases e
        refine ⟨_, _, rfl, .of (hH.sF _ _ h), rfl, _, _, rfl, _, _, rfl, rfl, q _ ((hE.set k1 j).set k2 l) ?_⟩
        rw [wipe_set hin.2, wipe_set hin.1, wipe_wipe]
      | [], e, _ => cases e
      | [_], e, _ => cases e
      | _ :: _ :: _ :: _, e, _ => cases e
    | _ => cases e
def lcGo (sub : List (Nat × List D)) (t : Tg1) (tt : TV) (te : EV) (env0 : Env) : List D → List D → Store → R (List D × Store)
  | [], acc, st => if still sub st = true then .ok (acc, st) else .bad
  | d :: ds, acc, st => if still sub st = true then (match t.put d env0 with
    | some env1 => (noX (tt env1 st)).bind fun b => if b.1 = true then (noX (te env1 b.2)).bind fun y => lcGo sub t tt te env0 ds (acc ++ [y.1]) y.2 else lcGo sub t tt te env0 ds acc b.2
    | none => .bad) else .bad
def eLc (m : Bool) (it : IV) (vs : List Nat) (t : Tg1) (tt : TV) (te : EV) : EV := fun env st => (it env st).bind fun a => if a.1.1.length ≤ LIM then
  (lcGo a.1.2 t tt te (wipeD env vs) a.1.1 [] a.2).bind fun b => newL m b.1 b.2 else .bad
theorem lc_post {m : Bool} {tg iter : Expr} {wi : TI} {it : IV} {vs : List Nat} {t : Tg1} {tt : TV} {te : EV} (hin : t.inside vs = true)
    (qi : ∀ Rs F H r sg env st (Q : It → Hp → Prop), Holds W Rs F H r st → EnvOk F r sg env → PostX W Rs F r (it env st) (fun a => ∀ J F' H' r', Same F F' → Ext r r' → Holds W Rs F' H' r' a.2 → Drv W F' r' J a.1 → Q J H') E → wi sg H Q)
    {Rs F H r sg env st Q} (hH : Holds W Rs F H r st) (hE : EnvOk F r sg env) (hP : Post W Rs F r (eLc m it vs t tt te env st) Q E) : tLc wi (t.rd X.K) (tDT W E0 tt) (tDE W E0 te) vs sg H Q := by
  refine qi Rs F H r sg env st _ hH hE (bindX hP fun a ea z J F0 H0 r0 s0 x0 h0 drv => ?_)
  obtain ⟨⟨items, sub⟩, st0⟩ := a
  by_cases hl : items.length ≤ LIM
  · simp only [if_pos hl] at z
    intro D hD
    have z0 : Post W Rs F0 r0 ((lcGo sub t tt te (wipeD env vs) items [] st0).bind fun b => newL m b.1 b.2) Q E := Post.later s0 x0 z
    have hE0 := wipe_ok (hE.mono s0 x0) vs
    have hRD : Rs D = none := h0.freeR hD
    refine ⟨fun i mm H' => mm = items.length - i ∧ i ≤ items.length ∧ ∃ F' r' st' acc accV, Same F0 F' ∧ Ext r0 r' ∧ Holds W (upd Rs D (.lst accV)) F' H' r' st' ∧ Reps F' r' accV acc ∧ acc.length ≤ i ∧
      Post W Rs F' r' ((lcGo sub t tt te (wipeD env vs) (items.drop i) acc st').bind fun b => newL m b.1 b.2) Q E,
      ⟨items.length, by simp, Nat.zero_le _, F0, r0, st0, [], [], Same.refl _, Ext.refl _, h0.guard hD, .nil, Nat.le_refl _, z0⟩, ?_⟩
    rintro i mm H' ⟨rfl, hi, F', r', st', acc, accV, s, x, hH', kacc, hacc, hP'⟩
    have hlen := kacc.length
    by_cases hlt : i < items.length
    · rw [List.drop_eq_getElem_cons hlt] at hP'
      unfold lcGo at hP'
      by_cases hst : still sub st' = true
      · rw [if_pos hst] at hP'
        cases ep : t.put items[i] (wipeD env vs) with
        | none => rw [ep] at hP'; exact hP'.elim
        | some env1 =>
          rw [ep] at hP'
          simp only at hP'
          obtain ⟨d1, _⟩ := drv i _ F' H' r' st' s x hH' hst
          obtain ⟨go, yld⟩ := d1 items[i] (by simp [hlt])
          refine .inr ⟨go, fun H2 => i + 1 ≤ items.length ∧ ∃ F' r' st' acc accV, Same F0 F' ∧ Ext r0 r' ∧ Holds W (upd Rs D (.lst accV)) F' H2 r' st' ∧ Reps F' r' accV acc ∧ acc.length ≤ i + 1 ∧
            Post W Rs F' r' ((lcGo sub t tt te (wipeD env vs) (items.drop (i + 1)) acc st').bind fun b => newL m b.1 b.2) Q E, fun H2 y => ⟨items.length - (i + 1), by omega, rfl, y⟩, fun v H1 y => ?_⟩
          obtain ⟨F1, s1, h1, k1⟩ := yld v H1 y
          refine Tg1.post hin h1 (hE0.mono (s.trans s1) x) k1 ep fun sg2 hE2 hw => ⟨hw, ?_⟩
          have hP1 := Post.later s1 (Ext.refl _) hP'
          -- the tests
          have asc : ((noX (tt env1 st')).bind fun b => if b.1 = true then (noX (te env1 b.2)).bind fun y => lcGo sub t tt te (wipeD env vs) (items.drop (i + 1)) (acc ++ [y.1]) y.2 else lcGo sub t tt te (wipeD env vs) (items.drop (i + 1)) acc b.2).bind (fun b => newL m b.1 b.2) =
              (noX (tt env1 st')).bind fun b => (if b.1 = true then (noX (te env1 b.2)).bind fun y => lcGo sub t tt te (wipeD env vs) (items.drop (i + 1)) (acc ++ [y.1]) y.2 else lcGo sub t tt te (wipeD env vs) (items.drop (i + 1)) acc b.2).bind (fun b => newL m b.1 b.2) := by
            cases noX (tt env1 st') <;> rfl
          rw [asc] at hP1
          refine ⟨_, F1, r', env1, st', h1, hE2, bindN hP1 fun b eb z2 F2 H2 r2 s2 x2 h2 => ?_⟩
          obtain ⟨bb, st2⟩ := b
          cases bb with
          | false =>
            exact ⟨hlt, F2, r2, st2, acc, accV, (s.trans s1).trans s2, x.trans x2, h2, kacc.mono (s1.trans s2) x2, by omega, Post.later s2 x2 z2⟩
          | true =>
            have asc2 : ((noX (te env1 st2)).bind fun y => lcGo sub t tt te (wipeD env vs) (items.drop (i + 1)) (acc ++ [y.1]) y.2).bind (fun b => newL m b.1 b.2) = (noX (te env1 st2)).bind fun y => (lcGo sub t tt te (wipeD env vs) (items.drop (i + 1)) (acc ++ [y.1]) y.2).bind (fun b => newL m b.1 b.2) := by
              cases noX (te env1 st2) <;> rfl
            simp only [if_true] at z2
            rw [asc2] at z2
            refine ⟨_, F2, r2, env1, st2, h2, hE2.mono s2 x2, bindN (Post.later s2 x2 z2) fun y ey z3 F3 H3 r3 v3 s3 x3 h3 k3 => ?_⟩
            refine ⟨accV, h3.at_guard.1, by rw [hlen]; exact lim_lt (by omega), hlt, F3, r3, y.2, acc ++ [y.1], accV ++ [v3], ((s.trans s1).trans s2).trans s3, (x.trans x2).trans x3, h3.reguard, Reps.snoc (kacc.mono ((s1.trans s2).trans s3) (x2.trans x3)) k3, by simp; omega, Post.later s3 x3 z3⟩
      · rw [if_neg hst] at hP'; exact hP'.elim
    · have e : items.drop i = [] := List.drop_eq_nil_of_le (by omega)
      rw [e] at hP'
      unfold lcGo at hP'
      by_cases hst : still sub st' = true
      · rw [if_pos hst] at hP'
        obtain ⟨_, d2⟩ := drv i _ F' H' r' st' s x hH' hst
        refine .inl ⟨d2 (by simpa using hlt), ?_⟩
        change Post W Rs F' r' (newL m acc st') Q E at hP'
        unfold newL at hP'
        cases m with
        | true =>
          refine hP' F' H' (r' ++ [D]) (.ref D) (Same.refl _) (Ext.snoc _ _) (hH'.adopt hRD ⟨accV, hH'.at_guard.1, kacc.mono (Same.refl _) (Ext.snoc _ _)⟩) (.ref ?_)
          show (r' ++ [D])[st'.length]? = some D
          rw [← hH'.len, List.getElem?_append_right (Nat.le_refl _)]; simp
        | false =>
          obtain ⟨s2, h2⟩ := hH'.thaw hRD
          exact hP' _ H' r' (.ref D) s2 (Ext.refl _) h2 (.lst upd_same (kacc.mono s2 (Ext.refl _)))
      · rw [if_neg hst] at hP'; exact hP'.elim
  · simp only [if_neg hl] at z
    exact z.elim
theorem de_lc (m : Bool) {elt tg iter : Expr} {ifs : List Expr} {scope : Scope} {own : List (Str × Nat)} {vs : List Nat} {pos : Pos} {it : IV} {t : Tg1} {tt : TV} {te : EV} (hc : X.calm = true) (hN : X.N.Nodup) (hi : DI W X E tg iter it) (ok : BlkOk X.N X.env.scope scope own) (hv : own.map (·.2) = vs) (hin : t.inside vs = true)
    (hg : ∀ (s : Shared) (H : Hp) (C : Addr) (cl : List (Str × Addr)) (fp : List Addr), Tg1.On (X.blk s H scope (compEnvC scope cl C X.env) fp) tg t) (ht : ∀ (s : Shared) (H : Hp) (C : Addr) (cl : List (Str × Addr)) (fp : List Addr), DTs W (X.blk s H scope (compEnvC scope cl C X.env) fp) E0 ifs tt)
    (he : ∀ (s : Shared) (H : Hp) (C : Addr) (cl : List (Str × Addr)) (fp : List Addr), DE W (X.blk s H scope (compEnvC scope cl C X.env) fp) E0 elt te) (hs : ∀ x, foldedSetIterable iter X.env x = pure x := by intro _; rfl) :
    DE W X E (.ListComp elt [⟨tg, iter, ifs, 0⟩] scope pos) (eLc m it vs t tt te) := by
  obtain ⟨wi, pi, qi⟩ := hi
  subst hv
  exact .mk (pe_lc (g := t.rd X.K) hc hN pi ok (fun s H C cl fp => hg s H C cl fp) ht he hs) fun Rs F H r sg env st Q hH hE hP => lc_post (tg := tg) (iter := iter) hin qi hH hE hP
theorem ds_setLc (m : Bool) {i : Nat} {y : Str} {py : Pos} {elt tg iter : Expr} {ifs : List Expr} {scope : Scope} {own : List (Str × Nat)} {vs : List Nat} {pos spos : Pos} {it : IV} {t : Tg1} {tt : TV} {te : EV} (hc : X.calm = true) (hN : X.N.Nodup) (hy : X.N[i]? = some y) (hyl : X.env.scope.names.lookup y = some .local)
    (hsw : swapsWith (.ListComp elt [⟨tg, iter, ifs, 0⟩] scope pos) (some (.Name y py)) spos.line X.env = pure true) (hi : DI W X E tg iter it) (ok : BlkOk X.N X.env.scope scope own) (hv : own.map (·.2) = vs) (hin : t.inside vs = true)
    (hg : ∀ (s : Shared) (H : Hp) (C : Addr) (cl : List (Str × Addr)) (fp : List Addr), Tg1.On (X.blk s H scope (compEnvC scope cl C X.env) fp) tg t) (ht : ∀ (s : Shared) (H : Hp) (C : Addr) (cl : List (Str × Addr)) (fp : List Addr), DTs W (X.blk s H scope (compEnvC scope cl C X.env) fp) E0 ifs tt)
    (he : ∀ (s : Shared) (H : Hp) (C : Addr) (cl : List (Str × Addr)) (fp : List Addr), DE W (X.blk s H scope (compEnvC scope cl C X.env) fp) E0 elt te) (hs : ∀ x, foldedSetIterable iter X.env x = pure x := by intro _; rfl) :
    DS W X E (.Assign [.Name y py] (.ListComp elt [⟨tg, iter, ifs, 0⟩] scope pos) spos) (sAsg (eLc m it vs t tt te) (gN i)) := by
  obtain ⟨wi, pi, qi⟩ := hi
  subst hv
  exact .mk (ps_setLc (g := t.rd X.K) hc hN hy hyl hsw pi ok (fun s H C cl fp => hg s H C cl fp) ht he hs) fun Rs F H r sg env st D hH hE hP => sAsg_post (fun Rs F H r sg env st Q hH hE hP => lc_post (tg := tg) (iter := iter) hin qi hH hE hP) gN_ok hH hE hP

/-! ### ranges -/
def intsD (lo : Int) (n : Nat) : List D := (List.range n).map fun (i : Nat) => D.int (lo + (i : Int))
theorem ints_at (lo : Int) (n i : Nat) (h : i < n) : (intsD lo n)[i]? = some (.int (lo + (i : Int))) := by simp [intsD, h]
theorem drv_range {F0 : Hp} {r0 : List Addr} {lo : Int} {n : Nat} : Drv W F0 r0 (Itr lo n) (intsD lo n, []) := fun i Rs F H r st s x hH hst => by
  refine ⟨fun d e => ?_, fun hl => by show n ≤ i; simpa [intsD] using hl⟩
  have hi : i < n := by
    have := (List.getElem?_eq_some_iff.mp e).1
    simpa [intsD] using this
  rw [show (intsD lo n, ([] : List (Nat × List D))).1 = intsD lo n from rfl, ints_at lo n i hi] at e
  cases e
  refine ⟨hi, fun y H' yl => ?_⟩
  obtain ⟨e2, e3⟩ := yl
  subst e2 e3
  exact ⟨F, Same.refl _, hH, .int _⟩
def iR1 (g : AV) : IV := fun env st => (g env st).bind fun a => match a.1 with
  | [.int n] => if -1000000 ≤ n ∧ n ≤ 1000000 then .ok ((intsD 0 n.toNat, []), a.2) else .bad
  | _ => .bad
def iR2 (g : AV) : IV := fun env st => (g env st).bind fun a => match a.1 with
  | [.int i, .int n] => if (-1000000 ≤ i ∧ i ≤ 1000000) ∧ -1000000 ≤ n ∧ n ≤ 1000000 then .ok ((intsD i (n - i).toNat, []), a.2) else .bad
  | _ => .bad
theorem di_r1 {tg a : Expr} {g : AV} {p pos : Pos} (hg : Gl X "range") (hm : X.mg "range" = none) (ha : DA W X E [a] g) (hs : starEach [a] X.env = [(false, eval a X.env)] := by rfl) : DI W X E tg (.Call (.Name "range" p) [a] [] pos) (iR1 g) := by
  obtain ⟨t, pa, q⟩ := ha.ex
  refine ⟨_, pi_range1 hg hm pa hs, fun Rs F H r sg env st Q hH hE hP => ?_⟩
  refine q Rs F H r sg env st _ hH hE (bindX hP fun a ea z F1 H1 r1 vs s1 x1 h1 k1 => ?_)
  obtain ⟨ds, st1⟩ := a
  simp only at z
  split at z
  · rename_i n
    split at z
    · rename_i hc
      match k1 with
      | .cons (.int _) .nil => exact ⟨n, rfl, by omega, by omega, z _ F1 H1 r1 s1 x1 h1 drv_range⟩
    · exact z.elim
  · exact z.elim
theorem di_r2 {tg a b : Expr} {g : AV} {p pos : Pos} (hg : Gl X "range") (hm : X.mg "range" = none) (ha : DA W X E [a, b] g) (hs : starEach [a, b] X.env = [(false, eval a X.env), (false, eval b X.env)] := by rfl) (hs2 : starEach [b] X.env = [(false, eval b X.env)] := by rfl) :
    DI W X E tg (.Call (.Name "range" p) [a, b] [] pos) (iR2 g) := by
  obtain ⟨t, pa, q⟩ := ha.ex
  refine ⟨_, pi_range2 hg hm pa hs hs2, fun Rs F H r sg env st Q hH hE hP => ?_⟩
  refine q Rs F H r sg env st _ hH hE (bindX hP fun a ea z F1 H1 r1 vs s1 x1 h1 k1 => ?_)
  obtain ⟨ds, st1⟩ := a
  simp only at z
  split at z
  · rename_i i n
    split at z
    · rename_i hc
      match k1 with
      | .cons (.int _) (.cons (.int _) .nil) => exact ⟨i, n, rfl, ⟨by omega, by omega, by omega, by omega⟩, z _ F1 H1 r1 s1 x1 h1 drv_range⟩
    · exact z.elim
  · exact z.elim
/-- range(a, b, -1) -/
theorem drv_down {F0 : Hp} {r0 : List Addr} {lo c : Int} {n : Nat} : Drv W F0 r0 (Itc lo c n) ((List.range n).map (fun (i : Nat) => D.int (lo + (i : Int) * c)), []) := fun i Rs F H r st s x hH hst => by
  refine ⟨fun d e => ?_, fun hl => by show n ≤ i; simpa using hl⟩
  have hi : i < n := by
    have := (List.getElem?_eq_some_iff.mp e).1
    simpa using this
  simp [hi] at e
  subst e
  refine ⟨hi, fun y H' yl => ?_⟩
  obtain ⟨e2, e3⟩ := yl
  subst e2 e3
  exact ⟨F, Same.refl _, hH, .int _⟩
def iR3 (g : AV) : IV := fun env st => (g env st).bind fun a => match a.1 with
  | [.int i, .int n, .int c] => if (-1000000 ≤ i ∧ i ≤ 1000000) ∧ (-1000000 ≤ n ∧ n ≤ 1000000) ∧ c = -1 then .ok (((List.range (i - n).toNat).map (fun (k : Nat) => D.int (i + (k : Int) * -1)), []), a.2) else .bad
  | _ => .bad
theorem di_r3 {tg a b c : Expr} {g : AV} {p pos : Pos} (hg : Gl X "range") (hm : X.mg "range" = none) (ha : DA W X E [a, b, c] g)
    (h : ∀ {t : TA}, PA X [a, b, c] t → PI X tg (.Call (.Name "range" p) [a, b, c] [] pos) (iRng3 t)) :
    DI W X E tg (.Call (.Name "range" p) [a, b, c] [] pos) (iR3 g) := by
  obtain ⟨t, pa, q⟩ := ha.ex
  refine ⟨_, h pa, fun Rs F H r sg env st Q hH hE hP => ?_⟩
  refine q Rs F H r sg env st _ hH hE (bindX hP fun a ea z F1 H1 r1 vs s1 x1 h1 k1 => ?_)
  obtain ⟨ds, st1⟩ := a
  simp only at z
  split at z
  · rename_i i n c
    split at z
    · rename_i hc
      obtain ⟨c1, c2, rfl⟩ := hc
      match k1 with
      | .cons (.int _) (.cons (.int _) (.cons (.int _) .nil)) => exact ⟨i, n, -1, (i - n).toNat, rfl, RgC.neg (by omega) (by omega) (by omega) (by omega), z _ F1 H1 r1 s1 x1 h1 drv_down⟩
    · exact z.elim
  · exact z.elim
end
end Dl
/-! ## DlEnum -/
/-! enumerate, zip of lists. -/
namespace Dl
open PySem L2

section
variable {W : Wd} {X : Cx} {E : XK}
def pairUp (ds : List D) : List D := ds.mapIdx fun (i : Nat) d => D.tup [.int (i : Int), d]
theorem pairUp_len (ds : List D) : (pairUp ds).length = ds.length := by simp [pairUp]
theorem pairUp_at {ds : List D} {i : Nat} {e : D} (h : (pairUp ds)[i]? = some e) : ∃ d, ds[i]? = some d ∧ e = .tup [.int (i : Int), d] := by
  unfold pairUp at h
  rw [List.getElem?_mapIdx] at h
  cases q : ds[i]? with
  | none => rw [q] at h; cases h
  | some d => rw [q] at h; cases h; exact ⟨d, rfl, rfl⟩
/-- a list by its items, as it stands -/
def listOf (st : Store) : D → Option Wk
  | .lst ds => some (ds, [])
  | .ref n => match st[n]? with
    | some (.lst ds) => some (ds, [(n, ds)])
    | _ => none
  | _ => none
theorem listOf_ok {Rs F H : Hp} {r : List Addr} {st : Store} {v : V} {d : D} {w : Wk} (h : Holds W Rs F H r st) (k : Rep F r v d) (e : listOf st d = some w) :
    ∃ a, v = .ref a ∧ (∃ vs, H a = some (.lst vs) ∧ Reps F r vs w.1) ∧ ∀ Rs' F' H' r' st', Same F F' → Ext r r' → Holds W Rs' F' H' r' st' → still w.2 st' = true → ∃ vs, H' a = some (.lst vs) ∧ Reps F' r' vs w.1 := by
  cases k with
  | @lst a vs ds q k => cases e; exact ⟨a, rfl, ⟨vs, h.sF _ _ q, k⟩, fun Rs' F' H' r' st' s x h' _ => ⟨vs, h'.sF _ _ (s _ _ q), k.mono s x⟩⟩
  | @ref a n q =>
    unfold listOf at e
    simp only at e
    split at e
    · rename_i ds e1
      cases e
      obtain ⟨vs, q1, k⟩ := h.ob n a _ q e1
      refine ⟨a, rfl, ⟨vs, q1, k⟩, fun Rs' F' H' r' st' s x h' hst => ?_⟩
      obtain ⟨vs', q1', k'⟩ := h'.ob n a _ (x _ _ q) (still_at (ds := ds) hst List.mem_cons_self)
      exact ⟨vs', q1', k'⟩
    · cases e
  | _ => cases e
theorem drv_enum {K : PySem.W.Frag} {F0 : Hp} {r0 : List Addr} {a : Addr} {w : Wk} (h : ∀ Rs F H r st, Same F0 F → Ext r0 r → Holds W Rs F H r st → still w.2 st = true → ∃ vs, H a = some (.lst vs) ∧ Reps F r vs w.1) : Drv W F0 r0 (Ite K a) (pairUp w.1, w.2) := fun i Rs F H r st s x hH hst => by
  obtain ⟨vs, h1, k1⟩ := h Rs F H r st s x hH hst
  refine ⟨fun d e => ?_, fun hl => ⟨vs, .of h1, by rw [k1.length]; rw [pairUp_len] at hl; exact hl⟩⟩
  obtain ⟨d', e', rfl⟩ := pairUp_at e
  obtain ⟨v, e1, k⟩ := k1.get e'
  refine ⟨⟨vs, v, .of h1, e1⟩, fun y H' yl => ?_⟩
  obtain ⟨T, z, rfl, hT, rfl, yl⟩ := yl
  have := yl vs (.of h1)
  rw [e1] at this; cases this
  obtain ⟨s1, h2⟩ := hH.frozen (o := .tup [.int (i : Nat), v]) hT
  exact ⟨_, s1, h2, .tup upd_same (.cons (.int _) (.cons (k.mono s1 (Ext.refl _)) .nil))⟩
def iEn (g : AV) : IV := fun env st => (g env st).bind fun a => match a.1 with
  | [d] => match listOf a.2 d with
    | some w => .ok ((pairUp w.1, w.2), a.2)
    | none => .bad
  | _ => .bad
theorem di_enum {e : Expr} {g : AV} {p pos tpos : Pos} {elts : List Expr} {kk : Nat} (hg : Gl X "enumerate") (hm : X.mg "enumerate" = none) (ha : DA W X E [e] g) (hs : starEach [e] X.env = [(false, eval e X.env)] := by rfl) :
    DI W X E (.Tuple elts kk tpos) (.Call (.Name "enumerate" p) [e] [] pos) (iEn g) := by
  obtain ⟨t, pa, q⟩ := ha.ex
  refine ⟨_, pi_enum hg hm pa hs, fun Rs F H r sg env st Q hH hE hP => ?_⟩
  refine q Rs F H r sg env st _ hH hE (bindX hP fun a ea z F1 H1 r1 vs s1 x1 h1 k1 => ?_)
  obtain ⟨ds, st1⟩ := a
  simp only at z
  split at z
  · split at z
    · rename_i d w e
      match k1 with
      | .cons k .nil =>
        obtain ⟨a, rfl, ⟨vs, h2, k2⟩, hh⟩ := listOf_ok h1 k e
        exact ⟨a, vs, rfl, .of h2, z _ F1 H1 r1 s1 x1 h1 (drv_enum hh)⟩
    · exact z.elim
  · exact z.elim
def zipUp : List D → List D → List D
  | a :: as, b :: bs => .tup [a, b] :: zipUp as bs
  | _, _ => []
theorem zipUp_len : ∀ as bs : List D, (zipUp as bs).length = min as.length bs.length
  | [], _ => by simp [zipUp]
  | _ :: _, [] => by simp [zipUp]
  | a :: as, b :: bs => by simp [zipUp, zipUp_len as bs]
theorem zipUp_at : ∀ {as bs : List D} {i : Nat} {e : D}, (zipUp as bs)[i]? = some e → ∃ a b, as[i]? = some a ∧ bs[i]? = some b ∧ e = .tup [a, b]
  | [], _, i, e, h => by simp [zipUp] at h
  | _ :: _, [], i, e, h => by simp [zipUp] at h
  | a :: as, b :: bs, 0, e, h => by simp [zipUp] at h; exact ⟨a, b, rfl, rfl, h.symm⟩
  | a :: as, b :: bs, i + 1, e, h => by
    simp [zipUp] at h
    obtain ⟨x, y, h1, h2, h3⟩ := zipUp_at h
    exact ⟨x, y, by simpa using h1, by simpa using h2, h3⟩
theorem drv_zip {K : PySem.W.Frag} {F0 : Hp} {r0 : List Addr} {a b : Addr} {w w' : Wk} (h : ∀ Rs F H r st, Same F0 F → Ext r0 r → Holds W Rs F H r st → still w.2 st = true → ∃ vs, H a = some (.lst vs) ∧ Reps F r vs w.1)
    (h' : ∀ Rs F H r st, Same F0 F → Ext r0 r → Holds W Rs F H r st → still w'.2 st = true → ∃ vs, H b = some (.lst vs) ∧ Reps F r vs w'.1) : Drv W F0 r0 (Itz K a b) (zipUp w.1 w'.1, w.2 ++ w'.2) := fun i Rs F H r st s x hH hst => by
  have hst' : still w.2 st = true ∧ still w'.2 st = true := by
    unfold still at hst ⊢
    rw [List.all_append, Bool.and_eq_true] at hst
    exact hst
  obtain ⟨vs, h1, k1⟩ := h Rs F H r st s x hH hst'.1
  obtain ⟨ws, h2, k2⟩ := h' Rs F H r st s x hH hst'.2
  refine ⟨fun d e => ?_, fun hl => ⟨vs, ws, .of h1, .of h2, ?_⟩⟩
  · obtain ⟨d1, d2, e1, e2, rfl⟩ := zipUp_at e
    obtain ⟨v1, f1, m1⟩ := k1.get e1
    obtain ⟨v2, f2, m2⟩ := k2.get e2
    refine ⟨⟨vs, ws, v1, v2, .of h1, .of h2, f1, f2⟩, fun y H' yl => ?_⟩
    obtain ⟨T, z1, z2, rfl, hT, rfl, yl1, yl2⟩ := yl
    have q1 := yl1 vs (.of h1)
    have q2 := yl2 ws (.of h2)
    rw [f1] at q1; cases q1
    rw [f2] at q2; cases q2
    obtain ⟨s1, h3⟩ := hH.frozen (o := .tup [v1, v2]) hT
    exact ⟨_, s1, h3, .tup upd_same (.cons (m1.mono s1 (Ext.refl _)) (.cons (m2.mono s1 (Ext.refl _)) .nil))⟩
  · rw [zipUp_len] at hl
    rw [k1.length, k2.length]
    omega
def iZp (g : AV) : IV := fun env st => (g env st).bind fun a => match a.1 with
  | [d, e] => match listOf a.2 d, listOf a.2 e with
    | some w, some w' => .ok ((zipUp w.1 w'.1, w.2 ++ w'.2), a.2)
    | _, _ => .bad
  | _ => .bad
theorem di_zip {e e2 : Expr} {g : AV} {p pos tpos : Pos} {elts : List Expr} {kk : Nat} (hg : Gl X "zip") (hm : X.mg "zip" = none) (ha : DA W X E [e, e2] g)
    (hs : starEach [e, e2] X.env = (false, eval e X.env) :: starEach [e2] X.env := by rfl) (hpl : (backTo pos (starEach [e2] X.env)).any (·.1) = false := by rfl) :
    DI W X E (.Tuple elts kk tpos) (.Call (.Name "zip" p) [e, e2] [] pos) (iZp g) := by
  obtain ⟨t, pa, q⟩ := ha.ex
  refine ⟨_, pi_zip hg hm pa hs hpl, fun Rs F H r sg env st Q hH hE hP => ?_⟩
  refine q Rs F H r sg env st _ hH hE (bindX hP fun a ea z F1 H1 r1 vs s1 x1 h1 k1 => ?_)
  obtain ⟨ds, st1⟩ := a
  simp only at z
  split at z
  · split at z
    · rename_i d e w w' e1 e2
      match k1 with
      | .cons k (.cons k' .nil) =>
        obtain ⟨a, rfl, ⟨vs, h2, k2⟩, hh⟩ := listOf_ok h1 k e1
        obtain ⟨b, rfl, ⟨ws, h3, k3⟩, hh'⟩ := listOf_ok h1 k' e2
        exact ⟨a, b, vs, ws, rfl, .of h2, .of h3, z _ F1 H1 r1 s1 x1 h1 (drv_zip hh hh')⟩
    · exact z.elim
  · exact z.elim
end
end Dl
/-! ## DlCall -/
/-! Defs, calls, instances. -/
namespace Dl
open PySem L2

section
variable {P : Program} {w : World} {W : Wd} {X : Cx} {E : XK}
/-- THE RULE for a def -/
theorem fnD {mg : Str → Option Value} {base : Heap} {x qual : Str} {s : Stmt} {f : Addr} {fd : FuncData} {N ps : List Str} {k n : Nat} {b : SV} (F : Fun W.K x qual s f fd) (S : FnScope N ps (defScope s)) (hn : ps.length = n)
    (hbody : ∀ (cdv : Value) (A : Around) (outer : List PySem.Env) (sh : Shared) (H : Hp) (E : XK), Room k (A.deeper (PyProof.Rows.envOfC qual (defScope s) sh.heap.objs.size f cdv)) →
      DB W (cxOf (L2.CX P w) P w W.K mg base N qual (defScope s) f cdv A outer sh H E) E (defBody s) b) : FnOk P w W.K mg base (L2.CX P w) (k + 1) f fd ps (spD W n (funD N.length b)) := by
  refine F.okX S (fun vs H Q E h => ?_) (fun cdv A outer sh H vs Q E hr h => ?_)
  · obtain ⟨Rs, F, r, st, ds, _, h, hl, _⟩ := h
    rw [h.length, hl, hn]
  · obtain ⟨Rs, F, r, st, ds, hH, hk, hl, hP⟩ := h
    obtain ⟨t, p, q⟩ := (hbody cdv A outer sh H E hr).ex
    refine ⟨t, p, q Rs F H r _ _ st _ hH (EnvOk.start hk) ?_⟩
    unfold funD at hP
    cases eb : b (List.map some ds ++ List.replicate (N.length - ds.length) none) st with
    | nx e s' => rw [eb] at hP; exact fun F' H' r' sg' s1 x1 h1 k1 => hP F' H' r' .non s1 x1 h1 .non
    | rt d s' => rw [eb] at hP; exact hP
    | bk e s' => rw [eb] at hP; exact hP.elim
    | ct e s' => rw [eb] at hP; exact hP.elim
    | exc c p s' => rw [eb] at hP; exact hP
    | bad => rw [eb] at hP; exact hP.elim
/-- another meaning, of which the first one follows -/
theorem spD_imp {mg : Str → Option Value} {base : Heap} {CX : CXT} {k n : Nat} {f : Addr} {fd : FuncData} {ps : List Str} {g g' : FV} (F : FnOk P w W.K mg base CX k f fd ps (spD W n g))
    (h : ∀ Rs F H r st vs ds Q E, Holds W Rs F H r st → Reps F r vs ds → ds.length = n → Post W Rs F r (g' ds st) Q E → Post W Rs F r (g ds st) Q E) : FnOk P w W.K mg base CX k f fd ps (spD W n g') :=
  F.imp fun vs H Q E ⟨Rs, F, r, st, ds, a, b, c, d⟩ => ⟨Rs, F, r, st, ds, a, b, c, h Rs F H r st vs ds Q E a b c d⟩
theorem spD_eq {mg : Str → Option Value} {base : Heap} {CX : CXT} {k n : Nat} {f : Addr} {fd : FuncData} {ps : List Str} {g g' : FV} (F : FnOk P w W.K mg base CX k f fd ps (spD W n g))
    (h : ∀ ds st, ds.length = n → g' ds st ≠ .bad → g ds st = g' ds st) : FnOk P w W.K mg base CX k f fd ps (spD W n g') :=
  spD_imp F fun Rs F H r st vs ds Q E a b c d => by
    by_cases e : g' ds st = .bad
    · rw [e] at d; exact d.elim
    · rw [h ds st c e]; exact d

def eCall (n : Nat) (g : FV) (ga : AV) : EV := fun env st => (ga env st).bind fun a => if a.1.length = n then g a.1 a.2 else .bad
theorem passE {E' : XK} {xe : Value → Shared → Prop} : Passes (L2.CX X.prog X.w) X E0 := passL
section
variable {CX : CXT} {k j n : Nat} {f : Addr} {fd : FuncData} {ps : List Str} {g : FV} {x : Str} {e : Expr} {es : List Expr} {p pos apos : Pos} {ga : AV}
theorem de_call (hK : X.K = W.K) (F : FnOk X.prog X.w W.K X.mg X.base CX k f fd ps (spD W n g)) (hr : Room j X.A) (hj : k ≤ j) (hg : Gl X x) (hm : X.mg x = some (.ref f)) (hk : PySem.W.keepIn W.K (.ref f) = true) (hb : Binds W.K fd ps []) (hx : Passes CX X E)
    (ha : DA W X E (e :: es) ga) (hdb : (x == ("__debug__" : Str)) = false := by decide) (he : starEach (e :: es) X.env = (false, eval e X.env) :: starEach es X.env := by rfl) (hpl : (backTo pos (starEach es X.env)).any (·.1) = false := by rfl) :
    DE W X E (.Call (.Name x p) (e :: es) [] pos) (eCall n g ga) := by
  obtain ⟨t, pa, q⟩ := ha.ex
  refine .mk (pe_call (sp := spD W n g) (by rw [hK]; exact F) (hr.mono hj) hg hm (by rw [hK]; exact hk) (by rw [hK]; exact hb) .nil hx pa hdb he hpl) fun Rs F H r sg env st Q hH hE hP => ?_
  refine q Rs F H r sg env st _ hH hE (bindX hP fun a ea z F1 H1 r1 vs s1 x1 h1 k1 => ?_)
  by_cases hl : a.1.length = n
  · rw [if_pos hl] at z
    exact ⟨Rs, F1, r1, a.2, a.1, h1, by rw [List.append_nil]; exact k1, hl, Post.later s1 x1 z⟩
  · rw [if_neg hl] at z; exact z.elim
theorem de_call0 (hK : X.K = W.K) (F : FnOk X.prog X.w W.K X.mg X.base CX k f fd ps (spD W 0 g)) (hr : Room j X.A) (hj : k ≤ j) (hg : Gl X x) (hm : X.mg x = some (.ref f)) (hk : PySem.W.keepIn W.K (.ref f) = true) (hb : Binds W.K fd ps []) (hx : Passes CX X E)
    (hdb : (x == ("__debug__" : Str)) = false := by decide) : DE W X E (.Call (.Name x p) [] [] pos) (eCall 0 g aNil) := by
  refine .mk (pe_call0 (sp := spD W 0 g) (by rw [hK]; exact F) (hr.mono hj) hg hm (by rw [hK]; exact hk) (by rw [hK]; exact hb) .nil hx hdb) fun Rs F H r sg env st Q hH hE hP => ?_
  exact ⟨Rs, F, r, st, [], hH, .nil, rfl, hP⟩
/-- o.m(..), o of the class c -/
def eMeth (c : Nat) (m : Str) (n : Nat) (g : FV) (fo : EV) (ga : AV) : EV := fun env st => (fo env st).bind fun o => match o.1 with
  | .ref i => match o.2[i]? with
    | some (.ins c' fs) => if c' = c ∧ fs.lookup m = none then (ga env o.2).bind fun a => if a.1.length + 1 = n then g (.ref i :: a.1) a.2 else .bad else .bad
    | _ => .bad
  | _ => .bad
theorem meth_post {m : Str} {c : Nat} {fo : EV} {to : TE} {ta : TA}
    (qo : ∀ Rs F H r sg env st Q, Holds W Rs F H r st → EnvOk F r sg env → Post W Rs F r (fo env st) Q E → to sg H Q)
    (qa : ∀ Rs F H r sg env st Q, Holds W Rs F H r st → EnvOk F r sg env → PostA W Rs F r (ga env st) Q E → ta sg H Q)
    {Rs F H r sg env st Q} (hH : Holds W Rs F H r st) (hE : EnvOk F r sg env) (hP : Post W Rs F r (eMeth c m n g fo ga env st) Q E) : tMeth (W.cls c) m (spD W n g) [] E to ta sg H Q := by
  refine qo Rs F H r sg env st _ hH hE (bindX hP fun o eo z F1 H1 r1 v1 s1 x1 h1 k1 => ?_)
  obtain ⟨d, st1⟩ := o
  cases k1 with
  | @ref a i e =>
    simp only at z
    split at z
    · rename_i c' fs e1
      split at z
      · rename_i hc
        obtain ⟨rfl, hm⟩ := hc
        obtain ⟨dx, vfs, e2, k2⟩ := h1.ob i a _ e e1
        refine ⟨a, dx, vfs, rfl, e2, k2.lookN hm, ?_⟩
        refine qa Rs F1 H1 r1 sg env st1 _ h1 (hE.mono s1 x1) (bindX (Post.later s1 x1 z) fun b eb z2 F2 H2 r2 vs s2 x2 h2 k2 => ?_)
        by_cases hl : b.1.length + 1 = n
        · rw [if_pos hl] at z2
          exact ⟨Rs, F2, r2, b.2, .ref i :: b.1, h2, by rw [List.append_nil]; exact .cons (.ref (x2 _ _ e)) k2, hl, Post.later s2 x2 z2⟩
        · rw [if_neg hl] at z2; exact z2.elim
      · exact z.elim
    · exact z.elim
  | _ => exact z.elim
theorem de_meth {o : Expr} {fo : EV} {c : Nat} {m : Str} {pl : Sem Bool} (hK : X.K = W.K) (he : DE W X E o fo) (cl : Cls W.K (W.cls c)) (hm : Meth W.K (W.cls c) m f) (F : FnOk X.prog X.w W.K X.mg X.base CX k f fd ps (spD W n g)) (hr : Room j X.A) (hj : k ≤ j) (hb : Binds W.K fd ps []) (hx : Passes CX X E) (ha : DA W X E (e :: es) ga)
    (hst : starEach (e :: es) X.env = (false, eval e X.env) :: starEach es X.env := by rfl) (hpl : (backTo pos (starEach es X.env)).any (·.1) = false := by rfl)
    (ht : eval (.Call (.Attribute o m apos) (e :: es) [] pos) X.env = (do
      let ov ← eval o X.env
      standAt apos.atName
      let (f, first) ← holding [ov] (getMethod ov m pl)
      callWith pos f first (backTo pos (starEach (e :: es) X.env)) (backToKw pos (keywordEach [] X.env))) := by rfl) :
    DE W X E (.Call (.Attribute o m apos) (e :: es) [] pos) (eMeth c m n g fo ga) := by
  obtain ⟨to, po, qo⟩ := he.ex
  obtain ⟨ta, pa, qa⟩ := ha.ex
  exact .mk (pe_meth (pl := pl) (C := W.cls c) (sp := spD W n g) po (by rw [hK]; exact cl) (by rw [hK]; exact hm) (by rw [hK]; exact F) (hr.mono hj) (by rw [hK]; exact hb) .nil hx pa hst hpl ht) fun Rs F H r sg env st Q hH hE hP => meth_post qo qa hH hE hP
theorem de_meth0 {o : Expr} {fo : EV} {c : Nat} {m : Str} {pl : Sem Bool} (hK : X.K = W.K) (he : DE W X E o fo) (cl : Cls W.K (W.cls c)) (hm : Meth W.K (W.cls c) m f) (F : FnOk X.prog X.w W.K X.mg X.base CX k f fd ps (spD W n g)) (hr : Room j X.A) (hj : k ≤ j) (hb : Binds W.K fd ps []) (hx : Passes CX X E)
    (h : ∀ {to : TE}, PE X o to → PE X (.Call (.Attribute o m apos) [] [] pos) (tMeth (W.cls c) m (spD W n g) [] E to tNil)) :
    DE W X E (.Call (.Attribute o m apos) [] [] pos) (eMeth c m n g fo aNil) := by
  obtain ⟨to, po, qo⟩ := he.ex
  exact .mk (h po) fun Rs F H r sg env st Q hH hE hP => meth_post (ga := aNil) qo (fun Rs F H r sg env st Q hH hE hP => hP F H r [] (Same.refl _) (Ext.refl _) hH .nil) hH hE hP
theorem Holds.waste {Rs F H : Hp} {r : List Addr} {st : Store} {q : Addr} {o : HO} (h : Holds W Rs F H r st) (e : H q = none) : Holds W Rs F (upd H q o) r st := by
  refine ⟨fun c u z => ?_, fun c u z => ?_, h.dj, h.len, h.nd, h.own, fun i a b e1 e2 => ?_⟩
  · rw [upd_ne (ne_of_none z (h.freeF e))]; exact h.sF _ _ z
  · rw [upd_ne (ne_of_none z (h.freeR e))]; exact h.sR _ _ z
  · have hc : a ≠ q := fun z => h.notin e (z ▸ List.mem_of_getElem? e1)
    exact (h.ob i a b e1 e2).mono (Same.refl _) (Ext.refl _) (upd_ne hc)
/-- C(..) -/
def eMake (c : Nat) (n : Nat) (g : FV) (ga : AV) : EV := fun env st => (ga env st).bind fun a => if a.1.length + 1 = n then (g (.ref a.2.length :: a.1) (a.2 ++ [.ins c []])).bind fun b => match b.1 with
  | .non => .ok (.ref a.2.length, b.2)
  | _ => .bad else .bad
theorem make_post {c : Nat} {ta : TA}
    (qa : ∀ Rs F H r sg env st Q, Holds W Rs F H r st → EnvOk F r sg env → PostA W Rs F r (ga env st) Q E → ta sg H Q)
    {Rs F H r sg env st Q} (hH : Holds W Rs F H r st) (hE : EnvOk F r sg env) (hP : Post W Rs F r (eMake c n g ga env st) Q E) : tMake (W.cls c) (spD W n g) [] E ta sg H Q := by
  refine qa Rs F H r sg env st _ hH hE (bindX hP fun a ea z F1 H1 r1 vs s1 x1 h1 k1 => ?_)
  intro x dx hx hdx hne
  by_cases hl : a.1.length + 1 = n
  · rw [if_pos hl] at z
    have hx' : upd H1 dx (.own x) x = none := by rw [upd_ne (Ne.symm hne)]; exact hx
    have h2 := (h1.waste (o := .own x) hdx).fresh (o := .ins (W.cls c) dx []) (b := .ins c []) hx' ⟨dx, [], upd_same, trivial⟩
    have e1 : (r1 ++ [x])[a.2.length]? = some x := by rw [← h1.len, List.getElem?_append_right (Nat.le_refl _)]; simp
    refine ⟨Rs, F1, r1 ++ [x], a.2 ++ [.ins c []], .ref a.2.length :: a.1, h2, by rw [List.append_nil]; exact .cons (.ref e1) (k1.mono (Same.refl _) (Ext.snoc _ _)), hl, ?_⟩
    have z1 := Post.later s1 (x1.trans (Ext.snoc r1 x)) z
    refine bindX z1 fun b eb z2 F2 H2 r2 v2 s2 x2 h2 k2 => ?_
    obtain ⟨d, st2⟩ := b
    cases d with
    | non => cases k2; exact ⟨rfl, z2 F2 H2 r2 _ s2 x2 h2 (.ref (x2 _ _ e1))⟩
    | _ => exact z2.elim
  · rw [if_neg hl] at z; exact z.elim
theorem de_make {c : Nat} (hK : X.K = W.K) (M : Mk W.K (W.cls c) f) (F : FnOk X.prog X.w W.K X.mg X.base CX k f fd ps (spD W n g)) (hr : Room (j + 1) X.A) (hj : k ≤ j) (hg : Gl X x) (hm : X.mg x = some (.ref (W.cls c))) (hb : Binds W.K fd ps []) (hx : Passes CX X E)
    (ha : DA W X E (e :: es) ga) (hdb : (x == ("__debug__" : Str)) = false := by decide) (he : starEach (e :: es) X.env = (false, eval e X.env) :: starEach es X.env := by rfl) (hpl : (backTo pos (starEach es X.env)).any (·.1) = false := by rfl) :
    DE W X E (.Call (.Name x p) (e :: es) [] pos) (eMake c n g ga) := by
  obtain ⟨ta, pa, qa⟩ := ha.ex
  exact .mk (pe_make (C := W.cls c) (sp := spD W n g) (by rw [hK]; exact M) (by rw [hK]; exact F) (hr.mono (by omega)) hg hm (by rw [hK]; exact hb) .nil hx pa hdb he hpl) fun Rs F H r sg env st Q hH hE hP => make_post qa hH hE hP
end

/-! ### fields -/
def eFld (c : Nat) (f : Str) (fo : EV) : EV := fun env st => (fo env st).bind fun o => match o.1 with
  | .ref i => match o.2[i]? with
    | some (.ins c' fs) => if c' = c then (match fs.lookup f with
      | some d => .ok (d, o.2)
      | none => .bad) else .bad
    | _ => .bad
  | _ => .bad
theorem de_fld {o : Expr} {fo : EV} {c : Nat} {f : Str} {pos : Pos} (hK : X.K = W.K) (he : DE W X E o fo) (cl : Cls W.K (W.cls c)) (na : NoAttr W.K (W.cls c) f) (hb : attributeBase o f X.env (eval o X.env) = eval o X.env := by rfl) : DE W X E (.Attribute o f pos) (eFld c f fo) := by
  obtain ⟨to, po, qo⟩ := he.ex
  refine .mk (pe_fld po hb) fun Rs F H r sg env st Q hH hE hP => ?_
  refine qo Rs F H r sg env st _ hH hE (bindX hP fun o eo z F1 H1 r1 v1 s1 x1 h1 k1 => ?_)
  obtain ⟨d, st1⟩ := o
  cases k1 with
  | @ref a i e =>
    simp only at z
    split at z
    · rename_i c' fs e1
      split at z
      · rename_i hc
        subst hc
        split at z
        · rename_i d e3
          obtain ⟨dx, vfs, e2, k2⟩ := h1.ob i a _ e e1
          obtain ⟨v, e4, k4⟩ := k2.look e3
          rw [hK]
          exact ⟨a, _, dx, vfs, v, rfl, e2, cl, na, e4, z F1 H1 r1 v s1 x1 h1 k4⟩
        · exact z.elim
      · exact z.elim
    · exact z.elim
  | _ => exact z.elim
def sFldD (c : Nat) (f : Str) (fo fv : EV) : SV := fun env st => sOf (fv env st) fun v => sOf (fo env v.2) fun o => match o.1 with
  | .ref i => match o.2[i]? with
    | some (.ins c' fs) => if c' = c ∧ fs.length < 900 then .nx env (o.2.set i (.ins c' (putD f v.1 fs))) else .bad
    | _ => .bad
  | _ => .bad
theorem ds_fld {o value : Expr} {fo fv : EV} {c : Nat} {f : Str} {pos pos' : Pos} (hK : X.K = W.K) (he : DE W X E o fo) (hv : DE W X E value fv) (cl : Cls W.K (W.cls c)) (na : NoAttr W.K (W.cls c) f) (hs : swapsWith value (some (.Attribute o f pos')) pos.line X.env = pure false := by rfl) :
    DS W X E (.Assign [.Attribute o f pos'] value pos) (sFldD c f fo fv) := by
  obtain ⟨to, po, qo⟩ := he.ex
  obtain ⟨tv, pv, qv⟩ := hv.ex
  refine .mk (ps_fld po pv hs) fun Rs F H r sg env st D hH hE hP => ?_
  refine qv Rs F H r sg env st _ hH hE (bindS hP fun b eb zb F0 H0 r0 v0 s0 x0 h0 k0 => ?_)
  refine qo Rs F0 H0 r0 sg env b.2 _ h0 (hE.mono s0 x0) (bindS (PostS.later s0 x0 zb) fun o eo z F1 H1 r1 v1 s1 x1 h1 k1 => ?_)
  obtain ⟨d, st1⟩ := o
  cases k1 with
  | @ref a i e =>
    simp only at z
    split at z
    · rename_i c' fs e1
      split at z
      · rename_i hc
        obtain ⟨rfl, hl⟩ := hc
        obtain ⟨dx, vfs, e2, k2⟩ := h1.ob i a _ e e1
        rw [hK]
        refine ⟨a, _, dx, vfs, rfl, e2, cl, na, by rw [k2.length]; omega, ?_⟩
        exact z F1 _ r1 sg s1 x1 (h1.write e ⟨dx, _, upd_same, Flds.put (k0.mono s1 x1) k2⟩) (hE.mono (s0.trans s1) (x0.trans x1))
      · exact z.elim
    · exact z.elim
  | _ => exact z.elim
/-- e.f += value, ints -/
def sFldAdd (c : Nat) (f : Str) (fo fv : EV) : SV := fun env st => sOf (fo env st) fun o => match o.1 with
  | .ref i => match o.2[i]? with
    | some (.ins c' fs) => if c' = c then (match fs.lookup f with
      | some (.int a) => sOf (fv env o.2) fun v => match v.1, v.2[i]? with
        | .int b, some (.ins c2 fs2) => if c2 = c ∧ fs2.length < 900 then .nx env (v.2.set i (.ins c2 (putD f (.int (a + b)) fs2))) else .bad
        | _, _ => .bad
      | _ => .bad) else .bad
    | _ => .bad
  | _ => .bad
theorem ds_fldadd {o value : Expr} {fo fv : EV} {c : Nat} {f : Str} {pos tpos : Pos} (hK : X.K = W.K) (he : DE W X E o fo) (hv : DE W X E value fv) (cl : Cls W.K (W.cls c)) (na : NoAttr W.K (W.cls c) f) :
    DS W X E (.AugAssign (.Attribute o f tpos) .Add value pos) (sFldAdd c f fo fv) := by
  obtain ⟨to, po, qo⟩ := he.ex
  obtain ⟨tv, pv, qv⟩ := hv.ex
  refine .mk (ps_fldaug po pv in_add) fun Rs F H r sg env st D hH hE hP => ?_
  refine qo Rs F H r sg env st _ hH hE (bindS hP fun o eo z F1 H1 r1 v1 s1 x1 h1 k1 => ?_)
  obtain ⟨d, st1⟩ := o
  cases k1 with
  | @ref a i e =>
    simp only at z
    split at z
    · rename_i c' fs e1
      split at z
      · rename_i hc
        subst hc
        split at z
        · rename_i n e3
          obtain ⟨dx, vfs, e2, k2⟩ := h1.ob i a _ e e1
          obtain ⟨v, e4, k4⟩ := k2.look e3
          cases k4
          rw [hK]
          refine ⟨a, _, dx, vfs, _, rfl, e2, cl, na, e4, ?_⟩
          refine qv Rs F1 H1 r1 sg env st1 _ h1 (hE.mono s1 x1) (bindS (PostS.later s1 x1 z) fun b eb z2 F2 H2 r2 v2 s2 x2 h2 k2' => ?_)
          obtain ⟨d2, st2⟩ := b
          simp only at z2
          split at z2
          · rename_i m c2 fs2 e5
            cases k2'
            split at z2
            · rename_i hc
              obtain ⟨rfl, hl⟩ := hc
              obtain ⟨dx', vfs', e6, k6⟩ := h2.ob i a _ (x2 _ _ e) e5
              exact ⟨_, _, rfl, rfl, dx', vfs', e6, by rw [k6.length]; omega, z2 F2 _ r2 sg s2 x2 (h2.write (x2 _ _ e) ⟨dx', _, upd_same, Flds.put (.int _) k6⟩) (hE.mono (s1.trans s2) (x1.trans x2))⟩
            · exact z2.elim
          · exact z2.elim
        · exact z.elim
      · exact z.elim
    · exact z.elim
  | _ => exact z.elim
end
end Dl
/-! ## DlBi -/
/-! Built-in functions and methods. -/
namespace Dl
open PySem L2

section
variable {W : Wd} {X : Cx} {E : XK}
/-! ### subscripts, slices -/
def ixG : G2 := fun st d e => match d, e with
  | .tup ds, .int i => R.of ((atI ds i).map fun x => (x, st))
  | .str s, .int i => R.of ((atI s i).map fun c => (.str [c], st))
  | d, .int i => match lstOf st d with
    | some ds => R.of ((atI ds i).map fun x => (x, st))
    | none => .bad
  | _, _ => .bad
theorem Reps.atI {F : Hp} {r : List Addr} {vs : List V} {ds : List D} {i : Int} {d : D} (h : Reps F r vs ds) (e : L2.atI ds i = some d) : ∃ v, L2.atI vs i = some v ∧ Rep F r v d := by
  unfold L2.atI at e ⊢
  rw [h.length]
  cases q : ixN ds.length i with
  | none => rw [q] at e; cases e
  | some j => rw [q] at e; exact h.get e
theorem ix_l {st : Store} {d : D} {i : Int} (h1 : ∀ i, d ≠ .tup i) (h2 : ∀ i, d ≠ .str i) : ixG st d (.int i) = match lstOf st d with
    | some ds => R.of ((atI ds i).map fun x => (x, st))
    | none => .bad := by
  cases d <;> first | rfl | exact absurd rfl (h1 _) | exact absurd rfl (h2 _)
theorem de_ix {a b : Expr} {fa fb : EV} {pos : Pos} (hK : X.K = W.K) (ha : DE W X E a fa) (hb : DE W X E b fb) (hs : PlainIx b) : DE W X E (.Subscript a b pos) (eOp ixG fa fb) := by
  obtain ⟨ta, pa, qa⟩ := ha.ex
  obtain ⟨tb, pb, qb⟩ := hb.ex
  refine .mk (pe_ix ix_seq pa pb hs) fun Rs F H rr sg env st Q hH hE hP => eOp_post qa qb ?_ hH hE hP
  intro Rs F H rr st x y dx dy Q E h kx ky hP
  have lists : ∀ i, y = .int i → (match lstOf st dx with
    | some ds => R.of ((atI ds i).map fun x => (x, st))
    | none => (.bad : R (D × Store))) = ixG st dx dy → rIxL X.K x y H Q := fun i ey eq => by
    rw [← eq] at hP
    split at hP
    · rename_i ds e1
      obtain ⟨p, vs, rfl, h1, k1⟩ := lstOf_ok h kx e1
      cases e2 : atI ds i with
      | none => rw [e2] at hP; exact hP.elim
      | some d =>
        rw [e2] at hP
        obtain ⟨v, e3, k⟩ := k1.atI e2
        exact ⟨p, vs, i, v, rfl, ey, .of h1, e3, onE_here h k hP⟩
    · exact hP.elim
  cases ky with
  | int i =>
    cases kx with
    | @tup p vs ds q k1 =>
      unfold ixG at hP
      simp only at hP
      cases e2 : atI ds i with
      | none => rw [e2] at hP; exact hP.elim
      | some d =>
        rw [e2] at hP
        obtain ⟨v, e3, k⟩ := k1.atI e2
        exact .inr (.inl ⟨p, vs, i, v, rfl, rfl, .of (h.sF _ _ q), e3, onE_here h k hP⟩)
    | str s hs hl =>
      unfold ixG at hP
      simp only at hP
      cases e2 : atI s i with
      | none => rw [e2] at hP; exact hP.elim
      | some c =>
        rw [e2] at hP
        have hc : c < 128 := by
          obtain ⟨j, _, e3, _⟩ := atI_get e2
          exact of_decide_eq_true (List.all_eq_true.mp hs c (List.mem_of_getElem? e3))
        exact .inr (.inr ⟨_, i, c, rfl, rfl, by rw [len_mk]; exact lim_line hl, e2, onE_here h (.str [c] (by simp [hc]) (by simp [LIM])) hP⟩)
    | non => exact .inl (lists _ rfl rfl)
    | bl b => exact .inl (lists _ rfl rfl)
    | int b => exact .inl (lists _ rfl rfl)
    | lst q k => exact .inl (lists _ rfl rfl)
    | ref q => exact .inl (lists _ rfl rfl)
    | scr q => exact .inl (lists _ rfl rfl)
  | _ => cases kx <;> exact hP.elim
/-- a part of a slice -/
def poNone : Env → Store → R (Option Int × Store) := fun _ st => .ok (none, st)
def poSome (f : EV) : Env → Store → R (Option Int × Store) := fun env st => (f env st).bind fun a => match a.1 with
  | .int i => .ok (some i, a.2)
  | _ => .bad
def DP (W : Wd) (X : Cx) (E : XK) (e : Option Expr) (f : Env → Store → R (Option Int × Store)) : Prop := ∃ t, PO X e t ∧ ∀ Rs F H r sg env st (Q : Option Int → Hp → Prop), Holds W Rs F H r st → EnvOk F r sg env →
  PostX W Rs F r (f env st) (fun a => ∀ F' H' r', Same F F' → Ext r r' → Holds W Rs F' H' r' a.2 → Q a.1 H') E → t sg H Q
theorem dp_none : DP W X E none poNone := ⟨_, po_none, fun Rs F H r sg env st Q hH hE hP => hP F H r (Same.refl _) (Ext.refl _) hH⟩
theorem dp_some {e : Expr} {f : EV} (h : DE W X E e f) : DP W X E (some e) (poSome f) := by
  obtain ⟨t, p, q⟩ := h.ex
  refine ⟨_, po_some p, fun Rs F H r sg env st Q hH hE hP => ?_⟩
  refine q Rs F H r sg env st _ hH hE (bindX hP fun a ea z F1 H1 r1 v1 s1 x1 h1 k1 => ?_)
  obtain ⟨d, st1⟩ := a
  cases k1 with
  | int i => exact ⟨i, rfl, z F1 H1 r1 s1 x1 h1⟩
  | _ => exact z.elim
/-- what xs[lo:hi] is -/
def cutD {A : Type} (xs : List A) (lo hi : Option Int) : List A := (xs.drop (HT.sIx xs.length 0 lo)).take (HT.sIx xs.length xs.length hi - HT.sIx xs.length 0 lo)
theorem cutD_le {A : Type} (xs : List A) (lo hi : Option Int) : (cutD xs lo hi).length ≤ xs.length := by
  unfold cutD
  rw [List.length_take, List.length_drop]
  omega
theorem Reps.cut {F : Hp} {r : List Addr} {vs : List V} {ds : List D} (h : Reps F r vs ds) (lo hi : Option Int) : Reps F r (cutV vs lo hi) (cutD ds lo hi) := by
  unfold cutV cutD
  rw [h.length]
  exact (h.drop _).take _
def slG (m : Bool) (st : Store) (d : D) (lo hi : Option Int) : R (D × Store) := match d with
  | .tup ds => .ok (.tup (cutD ds lo hi), st)
  | .str s => .ok (.str (cutD s lo hi), st)
  | d => match lstOf st d with
    | some ds => newL m (cutD ds lo hi) st
    | none => .bad
def eSl (m : Bool) (f : EV) (l h : Env → Store → R (Option Int × Store)) : EV := fun env st => (f env st).bind fun a => (l env a.2).bind fun b => (h env b.2).bind fun c => slG m c.2 a.1 b.1 c.1
theorem cutS_mk (s : List Nat) (lo hi : Option Int) : cutS ⟨s.toArray⟩ lo hi = ⟨(cutD s lo hi).toArray⟩ := by
  unfold cutS cutD
  simp [Str.length]
theorem cut_whole {A : Type} (xs : List A) (lo hi : Option Int) (h : HT.sIx xs.length 0 lo = 0 ∧ HT.sIx xs.length xs.length hi = xs.length) : cutD xs lo hi = xs := by
  unfold cutD
  rw [h.1, h.2]
  simp
theorem de_sl (m : Bool) {e : Expr} {lo hi : Option Expr} {f : EV} {l h : Env → Store → R (Option Int × Store)} {p2 pos : Pos} (hK : X.K = W.K) (he : DE W X E e f) (hl : DP W X E lo l) (hu : DP W X E hi h) : DE W X E (.Subscript e (.Slice lo hi none p2) pos) (eSl m f l h) := by
  obtain ⟨t, p, q⟩ := he.ex
  obtain ⟨tl, pl, ql⟩ := hl
  obtain ⟨tu, pu, qu⟩ := hu
  refine .mk (pe_slice (sl_tupA.or (sl_str.or sl_list)) p pl pu) fun Rs F H rr sg env st Q hH hE hP => ?_
  refine q Rs F H rr sg env st _ hH hE (bindX hP fun a ea z F1 H1 r1 v1 s1 x1 h1 k1 => ?_)
  refine ql Rs F1 H1 r1 sg env a.2 _ h1 (hE.mono s1 x1) (bindX (Post.later s1 x1 (res := (l env a.2).bind _) z) fun b eb z2 F2 H2 r2 s2 x2 h2 => ?_)
  refine qu Rs F2 H2 r2 sg env b.2 _ h2 (hE.mono (s1.trans s2) (x1.trans x2)) (bindX (Post.later s2 x2 (res := (h env b.2).bind _) z2) fun c ec z3 F3 H3 r3 s3 x3 h3 => ?_)
  replace z3 := Post.later s3 x3 z3
  replace k1 := k1.mono (s2.trans s3) (x2.trans x3)
  have lists : (match lstOf c.2 a.1 with
    | some ds => newL m (cutD ds b.1 c.1) c.2
    | none => (.bad : R (D × Store))) = slG m c.2 a.1 b.1 c.1 → rSlL X.K v1 b.1 c.1 H3 Q := fun eq => by
    rw [← eq] at z3
    split at z3
    · rename_i ds e1
      obtain ⟨p, vs, rfl, h4, k4⟩ := lstOf_ok h3 k1 e1
      exact ⟨p, vs, rfl, .of h4, fun pp hp => newL_post h3 (k4.cut _ _) z3 hp⟩
    · exact z3.elim
  obtain ⟨d, st1⟩ := a
  cases k1 with
  | @tup p vs ds q1 k1 =>
    refine .inl ⟨p, vs, rfl, .of (h3.sF _ _ q1), fun hw => ?_, fun _ pp hp => ?_⟩
    · have e : cutD ds b.1 c.1 = ds := cut_whole ds _ _ (by rw [← k1.length]; exact hw)
      refine onE_here h3 (.tup q1 k1) ?_
      have z4 : onE W Rs F3 r3 Q (.tup (cutD ds b.1 c.1), c.2) := z3
      rw [e] at z4; exact z4
    · exact tup_post h3 (k1.cut _ _) z3 hp
  | str s hs hl =>
    refine .inr (.inl ⟨_, rfl, by rw [len_mk]; exact lim_line hl, ?_⟩)
    rw [cutS_mk]
    refine onE_here h3 (.str _ ?_ (Nat.le_trans (cutD_le _ _ _) hl)) z3
    rw [List.all_eq_true] at hs ⊢
    intro x hx
    exact hs x (List.mem_of_mem_drop (List.mem_of_mem_take hx))
  | non => exact .inr (.inr (lists rfl))
  | bl b => exact .inr (.inr (lists rfl))
  | int b => exact .inr (.inr (lists rfl))
  | lst q k => exact .inr (.inr (lists rfl))
  | ref q => exact .inr (.inr (lists rfl))
  | scr q => exact .inr (.inr (lists rfl))
/-- xs[::-1] of a list -/
def eRevL (m : Bool) (f : EV) : EV := fun env st => (f env st).bind fun a => match lstOf a.2 a.1 with
  | some ds => newL m ds.reverse a.2
  | none => .bad
theorem de_revL (m : Bool) {e : Expr} {f : EV} {k : Nat} {p1 p2 p3 pos : Pos} (he : DE W X E e f) : DE W X E (.Subscript e (.Slice none none (some (.UnaryOp .USub (.Constant (.int 1) k p1) p2)) p3) pos) (eRevL m f) := by
  obtain ⟨t, p, q⟩ := he.ex
  refine .mk (pe_revL p) fun Rs F H rr sg env st Q hH hE hP => ?_
  refine q Rs F H rr sg env st _ hH hE (bindX hP fun a ea z F1 H1 r1 v1 s1 x1 h1 k1 => ?_)
  cases e : lstOf a.2 a.1 with
  | none => rw [e] at z; exact z.elim
  | some ds =>
    rw [e] at z
    obtain ⟨p, vs, rfl, h4, k4⟩ := lstOf_ok h1 k1 e
    exact ⟨p, vs, rfl, .of h4, fun pp hp => newL_post h1 k4.reverse (Post.later s1 x1 z) hp⟩

/-! ### functions -/
abbrev GA := Store → List D → R (D × Store)
def DC (W : Wd) (X : Cx) (v : Value) (g : GA) : Prop := ∃ r, CallR X v r ∧ ∀ Rs F H rr st vs ds Q E, Holds W Rs F H rr st → Reps F rr vs ds → Post W Rs F rr (g st ds) Q E → r vs H Q
def eB (g : GA) (ga : AV) : EV := fun env st => (ga env st).bind fun a => g a.2 a.1
section
variable {x : Str} {e : Expr} {es : List Expr} {p pos : Pos} {ga : AV} {g : GA} {id T : String}
theorem de_callB (hc : DC W X (.builtin id) g) (hg : Gl X x) (hm : X.mg x = none) (hv : bootBuiltins x = some (.builtin id)) (ha : DA W X E (e :: es) ga) (h : ∀ {r : List V → Hp → VK → Prop} {t : TA}, CallR X (.builtin id) r → PA X (e :: es) t → PE X (.Call (.Name x p) (e :: es) [] pos) (tCB r t)) :
    DE W X E (.Call (.Name x p) (e :: es) [] pos) (eB g ga) := by
  obtain ⟨r, hr, qr⟩ := hc
  obtain ⟨t, pa, q⟩ := ha.ex
  refine .mk (h hr pa) fun Rs F H rr sg env st Q hH hE hP => ?_
  exact q Rs F H rr sg env st _ hH hE (bindX hP fun a ea z F1 H1 r1 vs s1 x1 h1 k1 => qr Rs F1 H1 r1 a.2 vs a.1 Q E h1 k1 (Post.later s1 x1 z))
theorem de_callTy (hc : DC W X (.type T) g) (hg : Gl X x) (hm : X.mg x = none) (hv : bootBuiltins x = some (.type T)) (ha : DA W X E (e :: es) ga) (h : ∀ {r : List V → Hp → VK → Prop} {t : TA}, CallR X (.type T) r → PA X (e :: es) t → PE X (.Call (.Name x p) (e :: es) [] pos) (tCB r t)) :
    DE W X E (.Call (.Name x p) (e :: es) [] pos) (eB g ga) := by
  obtain ⟨r, hr, qr⟩ := hc
  obtain ⟨t, pa, q⟩ := ha.ex
  refine .mk (h hr pa) fun Rs F H rr sg env st Q hH hE hP => ?_
  exact q Rs F H rr sg env st _ hH hE (bindX hP fun a ea z F1 H1 r1 vs s1 x1 h1 k1 => qr Rs F1 H1 r1 a.2 vs a.1 Q E h1 k1 (Post.later s1 x1 z))
end
def lenG : GA := fun st ds => match ds with
  | [.str s] => .ok (.int s.length, st)
  | [.tup ds] => .ok (.int ds.length, st)
  | [.scr ns] => .ok (.int ns.length, st)
  | [d] => match lstOf st d with
    | some ds => .ok (.int ds.length, st)
    | none => .bad
  | _ => .bad
theorem dc_len : DC W X (.builtin "len") lenG := ⟨_, call_len, fun Rs F H rr st vs ds Q E h k hP => by
  match vs, ds, k with
  | [v], [d], .cons k .nil =>
    have lists : (match lstOf st d with
      | some ds => .ok (.int ds.length, st)
      | none => (.bad : R (D × Store))) = lenG st [d] → LenV X.K v H (match lstOf st d with | some ds => ds.length | none => 0) ∧ Q (.int (match lstOf st d with | some ds => (ds.length : Nat) | none => 0 : Nat)) H := fun eq => by
      rw [← eq] at hP
      split at hP
      · rename_i ds e1
        obtain ⟨p, vs, rfl, h1, k1⟩ := lstOf_ok h k e1
        exact ⟨.inl ⟨vs, .of h1, k1.length.symm⟩, onE_here h (.int _) hP⟩
      · exact hP.elim
    cases k with
    | str s hs hl => exact ⟨_, _, rfl, ⟨by rw [len_mk]; exact lim_line hl, (len_mk s).symm⟩, onE_here h (.int _) hP⟩
    | tup q k1 => exact ⟨_, _, rfl, .inr ⟨_, .of (h.sF _ _ q), k1.length.symm⟩, onE_here h (.int _) hP⟩
    | @scr a o ns q => exact ⟨_, ns.length, rfl, .inl ⟨_, .inl (.inr ⟨o, h.sF _ _ q⟩), by simp⟩, onE_here h (.int _) hP⟩
    | non => exact ⟨_, _, rfl, lists rfl⟩
    | bl b => exact ⟨_, _, rfl, lists rfl⟩
    | int b => exact ⟨_, _, rfl, lists rfl⟩
    | lst q k => exact ⟨_, _, rfl, lists rfl⟩
    | ref q => exact ⟨_, _, rfl, lists rfl⟩
  | [], [], _ => exact hP.elim
  | _ :: _ :: _, d :: e :: _, _ => cases d <;> exact hP.elim⟩
/-- all ints -/
def intsOf : List D → Option (List Int)
  | [] => some []
  | .int i :: r => match intsOf r with
    | some l => some (i :: l)
    | none => none
  | _ => none
theorem intsOf_ok {F : Hp} {r : List Addr} : ∀ {ds : List D} {vs : List V} {ns : List Int}, Reps F r vs ds → intsOf ds = some ns → vs = ns.map V.int
  | [], _, _, .nil, e => by cases e; rfl
  | .int i :: ds, _, ns, .cons (.int _) k, e => by
    unfold intsOf at e
    cases q : intsOf ds with
    | none => rw [q] at e; cases e
    | some l =>
      rw [q] at e
      cases e
      rw [intsOf_ok k q]; rfl
  | .non :: _, _, _, _, e => by cases e
  | .bl _ :: _, _, _, _, e => by cases e
  | .str _ :: _, _, _, _, e => by cases e
  | .tup _ :: _, _, _, _, e => by cases e
  | .lst _ :: _, _, _, _, e => by cases e
  | .ref _ :: _, _, _, _, e => by cases e
  | .scr _ :: _, _, _, _, e => by cases e
@[simp] theorem intsOf_map (ns : List Int) : intsOf (ns.map D.int) = some ns := by
  induction ns with
  | nil => rfl
  | cons n ns ih => simp [intsOf, ih]
/-- the greatest, the least of some -/
def maxL : List Int → Int
  | [] => 0
  | [a] => a
  | a :: b :: r => max a (maxL (b :: r))
def minL : List Int → Int
  | [] => 0
  | [a] => a
  | a :: b :: r => min a (minL (b :: r))
theorem maxL_mem : ∀ {l : List Int}, l ≠ [] → maxL l ∈ l ∧ ∀ y ∈ l, y ≤ maxL l
  | [], h => absurd rfl h
  | [a], _ => by simp [maxL]
  | a :: b :: r, _ => by
    obtain ⟨h1, h2⟩ := maxL_mem (l := b :: r) (by simp)
    unfold maxL
    refine ⟨?_, fun y hy => ?_⟩
    · by_cases e : a ≤ maxL (b :: r)
      · rw [Int.max_eq_right e]; exact List.mem_cons_of_mem _ h1
      · rw [Int.max_eq_left (by omega)]; exact List.mem_cons_self
    · rcases List.mem_cons.mp hy with rfl | hy
      · omega
      · have := h2 y hy
        omega
theorem minL_mem : ∀ {l : List Int}, l ≠ [] → minL l ∈ l ∧ ∀ y ∈ l, minL l ≤ y
  | [], h => absurd rfl h
  | [a], _ => by simp [minL]
  | a :: b :: r, _ => by
    obtain ⟨h1, h2⟩ := minL_mem (l := b :: r) (by simp)
    unfold minL
    refine ⟨?_, fun y hy => ?_⟩
    · by_cases e : a ≤ minL (b :: r)
      · rw [Int.min_eq_left e]; exact List.mem_cons_self
      · rw [Int.min_eq_right (by omega)]; exact List.mem_cons_of_mem _ h1
    · rcases List.mem_cons.mp hy with rfl | hy
      · omega
      · have := h2 y hy
        omega
def maxG : GA := fun st ds => match ds with
  | [.int i, .int j] => .ok (.int (max i j), st)
  | [d] => match (lstOf st d).bind intsOf with
    | some ns => if ns ≠ [] then .ok (.int (maxL ns), st) else .bad
    | none => .bad
  | _ => .bad
def minG : GA := fun st ds => match ds with
  | [.int i, .int j] => .ok (.int (min i j), st)
  | [d] => match (lstOf st d).bind intsOf with
    | some ns => if ns ≠ [] then .ok (.int (minL ns), st) else .bad
    | none => .bad
  | _ => .bad
theorem dc_max (hc : X.calm = true) : DC W X (.builtin "max") maxG := ⟨_, (call_max2 hc).or (cr_max hc), fun Rs F H rr st vs ds Q E h k hP => by
  unfold maxG at hP
  split at hP
  · rename_i i j
    match k with
    | .cons (.int _) (.cons (.int _) .nil) =>
      refine .inl ⟨i, j, rfl, ?_⟩
      have e : (if j > i then j else i) = max i j := by split <;> omega
      rw [e]
      exact onE_here h (.int _) hP
  · rename_i d
    match k with
    | .cons k .nil =>
      cases e1 : lstOf st d with
      | none => rw [e1] at hP; exact hP.elim
      | some ds =>
        rw [e1] at hP
        simp only [Option.bind_some] at hP
        split at hP
        · rename_i ns e2
          split at hP
          · rename_i hne
            obtain ⟨p, vs, rfl, h1, k1⟩ := lstOf_ok h k e1
            have ev := intsOf_ok k1 e2
            subst ev
            refine .inr ⟨p, ns, rfl, .of h1, List.length_pos_iff.mpr hne, fun m hm hmax => ?_⟩
            obtain ⟨m1, m2⟩ := maxL_mem hne
            have : m = maxL ns := by
              have a := m2 m hm
              have b := hmax _ m1
              omega
            rw [this]
            exact onE_here h (.int _) hP
          · exact hP.elim
        · exact hP.elim
  · exact hP.elim⟩
theorem dc_min (hc : X.calm = true) : DC W X (.builtin "min") minG := ⟨_, (call_min2 hc).or (cr_min hc), fun Rs F H rr st vs ds Q E h k hP => by
  unfold minG at hP
  split at hP
  · rename_i i j
    match k with
    | .cons (.int _) (.cons (.int _) .nil) =>
      refine .inl ⟨i, j, rfl, ?_⟩
      have e : (if j < i then j else i) = min i j := by split <;> omega
      rw [e]
      exact onE_here h (.int _) hP
  · rename_i d
    match k with
    | .cons k .nil =>
      cases e1 : lstOf st d with
      | none => rw [e1] at hP; exact hP.elim
      | some ds =>
        rw [e1] at hP
        simp only [Option.bind_some] at hP
        split at hP
        · rename_i ns e2
          split at hP
          · rename_i hne
            obtain ⟨p, vs, rfl, h1, k1⟩ := lstOf_ok h k e1
            have ev := intsOf_ok k1 e2
            subst ev
            refine .inr ⟨p, ns, rfl, .of h1, List.length_pos_iff.mpr hne, fun m hm hmin => ?_⟩
            obtain ⟨m1, m2⟩ := minL_mem hne
            have : m = minL ns := by
              have a := m2 m hm
              have b := hmin _ m1
              omega
            rw [this]
            exact onE_here h (.int _) hP
          · exact hP.elim
        · exact hP.elim
  · exact hP.elim⟩
def intG : GA := fun st ds => match ds with
  | [.int i] => .ok (.int i, st)
  | [.bl b] => .ok (.int (if b then 1 else 0), st)
  | _ => .bad
theorem dc_int : DC W X (.type "int") intG := ⟨_, call_int1, fun Rs F H rr st vs ds Q E h k hP => by
  unfold intG at hP
  split at hP
  · match k with
    | .cons (.int i) .nil => exact .inl ⟨i, rfl, onE_here h (.int _) hP⟩
  · match k with
    | .cons (.bl b) .nil => exact .inr ⟨b, rfl, onE_here h (.int _) hP⟩
  · exact hP.elim⟩
/-- the digits of a number -/
def strG : GA := fun st ds => match ds with
  | [.int i] => if 0 ≤ i ∧ i < 10 ^ 18 then .ok (.str (TL.numL i.toNat), st) else .bad
  | _ => .bad
theorem numL_ascii (n : Nat) : (TL.numL n).all (fun c => decide (c < 128)) = true := by
  rw [List.all_eq_true]
  intro c hc
  have := TL.numL_digits n
  have h : ¬ (c < 48 ∨ 57 < c) := fun z => TL.numL_free (n := n) z hc
  simp only [decide_eq_true_eq]
  omega
theorem dc_str : DC W X (.type "str") strG := ⟨_, call_str_int, fun Rs F H rr st vs ds Q E h k hP => by
  unfold strG at hP
  split at hP
  · split at hP
    · rename_i i hi
      match k with
      | .cons (.int i) .nil =>
        refine ⟨i, rfl, ?_, ?_⟩
        · have : i.natAbs < 2 ^ 64 := by omega
          exact Nat.lt_trans (PySem.Flt.log2_lt_of (by decide) this) (by decide)
        · have e : TL.tl (Str.ofString (toString i)) = TL.numL i.toNat := by
            have := TL.tl_num i.toNat
            rw [Int.toNat_of_nonneg hi.1] at this
            exact this
          refine onE_here h ?_ hP
          refine rep_str e ?_ F rr
          rw [numL_ascii]
          have := TL.numL_len (n := i.toNat) (k := 18) (by decide) (by omega)
          rw [Bool.true_and, decide_eq_true_eq]; exact Nat.le_trans this (by decide)
    · exact hP.elim
  · exact hP.elim⟩
def ordG : GA := fun st ds => match ds with
  | [.str [c]] => .ok (.int c, st)
  | _ => .bad
theorem dc_ord : DC W X (.builtin "ord") ordG := ⟨_, call_ord, fun Rs F H rr st vs ds Q E h k hP => by
  unfold ordG at hP
  split at hP
  · cases k with
    | cons k k2 =>
      cases k2
      cases k
      exact ⟨_, rfl, rfl, onE_here h (.int _) hP⟩
  · exact hP.elim⟩
def listG (m : Bool) : GA := fun st ds => match ds with
  | [.tup ds] => newL m ds st
  | [.scr ns] => newL m (ns.map .int) st
  | [d] => match lstOf st d with
    | some ds => newL m ds st
    | none => .bad
  | _ => .bad
theorem dc_list (m : Bool) : DC W X (.type "list") (listG m) := ⟨_, call_list_of, fun Rs F H rr st vs ds Q E h k hP => by
  unfold listG at hP
  split at hP
  · match k with
    | .cons (.tup q k) .nil => exact ⟨_, _, rfl, .inr (.of (h.sF _ _ q)), fun l hl => newL_post h k hP hl⟩
  · rename_i ns
    match k with
    | .cons (.scr (o := o) q) .nil => exact ⟨_, _, rfl, .inl (.inl (.inr ⟨o, h.sF _ _ q⟩)), fun l hl => newL_post h (reps_ints ns) hP hl⟩
  · rename_i d _ _
    match k with
    | .cons k .nil =>
      split at hP
      · rename_i ds e1
        obtain ⟨p, vs, rfl, h1, k1⟩ := lstOf_ok h k e1
        exact ⟨p, vs, rfl, .inl (.of h1), fun l hl => newL_post h k1 hP hl⟩
      · exact hP.elim
  · exact hP.elim⟩
def tupG : GA := fun st ds => match ds with
  | [.tup ds] => .ok (.tup ds, st)
  | [d] => match lstOf st d with
    | some ds => .ok (.tup ds, st)
    | none => .bad
  | _ => .bad
theorem dc_tup : DC W X (.type "tuple") tupG := ⟨_, call_tuple_of, fun Rs F H rr st vs ds Q E h k hP => by
  unfold tupG at hP
  split at hP
  · match k with
    | .cons (.tup q k) .nil => exact ⟨_, _, rfl, .inr ⟨.of (h.sF _ _ q), onE_here h (.tup q k) hP⟩⟩
  · rename_i d _
    match k with
    | .cons k .nil =>
      split at hP
      · rename_i ds e1
        obtain ⟨p, vs, rfl, h1, k1⟩ := lstOf_ok h k e1
        exact ⟨p, vs, rfl, .inl ⟨.of h1, fun l hl => tup_post h k1 hP hl⟩⟩
      · exact hP.elim
  · exact hP.elim⟩
/-! ### isinstance of a built-in class -/
def tyOf (st : Store) : D → Option String
  | .non => some "NoneType"
  | .bl _ => some "bool"
  | .int _ => some "int"
  | .str _ => some "str"
  | .tup _ => some "tuple"
  | .lst _ => some "list"
  | .scr _ => some "list"
  | .ref n => match st[n]? with
    | some (.lst _) => some "list"
    | some (.dK _) => some "dict"
    | some (.dT _) => some "dict"
    | _ => none
theorem tyOf_ok {Rs F H : Hp} {r : List Addr} {st : Store} {v : V} {d : D} {t : String} {K : PySem.W.Frag} (h : Holds W Rs F H r st) (k : Rep F r v d) (e : tyOf st d = some t) : TyX K H v (.type t) := by
  cases k with
  | non => cases e; exact .base .non
  | bl b => cases e; exact .base (.bl b)
  | int b => cases e; exact .base (.int b)
  | str b => cases e; exact .base (.str _)
  | tup q k => cases e; exact .base (.tup (h.sF _ _ q))
  | lst q k => cases e; exact .base (.lst (h.sF _ _ q))
  | scr q => cases e; exact .base (.frz (h.sF _ _ q))
  | @ref a n q =>
    unfold tyOf at e
    simp only at e
    split at e
    · rename_i e1; cases e; obtain ⟨vs, q1, _⟩ := h.ob n a _ q e1; exact .base (.lst q1)
    · rename_i e1; cases e; obtain ⟨vs, q1, _⟩ := h.ob n a _ q e1; exact .base (.dK q1)
    · rename_i e1; cases e; obtain ⟨vs, q1, _⟩ := h.ob n a _ q e1; exact .base (.dT q1)
    · cases e
/-- whether the class t is T or under it -/
def subTy (t T : String) : Bool := t == T || (t == "bool" && T == "int")
def isG1 (T : String) : GA := fun st ds => match ds with
  | [d] => match tyOf st d with
    | some t => .ok (.bl (subTy t T), st)
    | none => .bad
  | _ => .bad
def eIs (T : String) (f : EV) : EV := fun env st => (f env st).bind fun a => isG1 T a.2 [a.1]
theorem kits {T : String} (hT : T = "int" ∨ T = "bool" ∨ T = "str" ∨ T = "tuple" ∨ T = "list" ∨ T = "dict") {st : Store} {d : D} {t : String} (e : tyOf st d = some t) {K : PySem.W.Frag} : PySem.W.kitOne K (.type t) (.type T) = some (subTy t T) := by
  have ht : t = "NoneType" ∨ t = "bool" ∨ t = "int" ∨ t = "str" ∨ t = "tuple" ∨ t = "list" ∨ t = "dict" := by
    cases d with
    | ref n =>
      unfold tyOf at e
      simp only at e
      split at e <;> cases e <;> simp
    | _ => cases e <;> simp
  refine kit_ty ?_
  rcases hT with rfl | rfl | rfl | rfl | rfl | rfl <;> rcases ht with rfl | rfl | rfl | rfl | rfl | rfl | rfl <;> decide +kernel
theorem de_isinst {x y : Str} {e : Expr} {f : EV} {T : String} {p p2 pos : Pos} (hT : T = "int" ∨ T = "bool" ∨ T = "str" ∨ T = "tuple" ∨ T = "list" ∨ T = "dict") (he : DE W X E e f) (hy : PE X (.Name y p2) (tC (.ty T)))
    (h : ∀ {r : List V → Hp → VK → Prop} {t : TA}, CallR X (.builtin "isinstance") r → PA X [e, .Name y p2] t → PE X (.Call (.Name x p) [e, .Name y p2] [] pos) (tCB r t))
    (h2 : ∀ {te : TE}, PE X e te → PA X [e, .Name y p2] (tCons te (tCons (tC (.ty T)) tNil))) : DE W X E (.Call (.Name x p) [e, .Name y p2] [] pos) (eIs T f) := by
  obtain ⟨t, p, q⟩ := he.ex
  refine .mk (h call_isi (h2 p)) fun Rs F H rr sg env st Q hH hE hP => ?_
  refine q Rs F H rr sg env st _ hH hE (bindX hP fun a ea z F1 H1 r1 v1 s1 x1 h1 k1 => ?_)
  unfold isG1 at z
  simp only at z
  split at z
  · rename_i t e1
    exact ⟨v1, .ty T, .type t, .type T, _, rfl, .ty T, tyOf_ok h1 k1 e1, kits hT e1, z F1 H1 r1 _ s1 x1 h1 (.bl _)⟩
  · exact z.elim
end
end Dl
/-! ## DlMt -/
/-! Methods of built-in types. -/
namespace Dl
open PySem L2

section
variable {W : Wd} {X : Cx} {E : XK}
abbrev GM := Store → D → List D → R (D × Store)
def DM (W : Wd) (X : Cx) (id : String) (g : GM) : Prop := ∃ r, MtR X id r ∧ ∀ Rs F H rr st v d vs ds Q E, Holds W Rs F H rr st → Rep F rr v d → Reps F rr vs ds → Post W Rs F rr (g st d ds) Q E → r v vs H Q
/-- the type at which a method is looked up -/
def tyM (st : Store) : D → Option String
  | .str _ => some "str"
  | .lst _ => some "list"
  | .scr _ => some "list"
  | .ref n => match st[n]? with
    | some (.lst _) => some "list"
    | some (.dK _) => some "dict"
    | some (.dT _) => some "dict"
    | _ => none
  | _ => none
theorem tyM_ok {Rs F H : Hp} {r : List Addr} {st : Store} {v : V} {d : D} {t : String} {K : PySem.W.Frag} (h : Holds W Rs F H r st) (k : Rep F r v d) (e : tyM st d = some t) : tyV K t v H := by
  cases k with
  | str => cases e; rfl
  | lst q k => cases e; exact .inl ⟨rfl, _, .of (h.sF _ _ q)⟩
  | @scr a o ns q => cases e; exact .inl ⟨rfl, _, .inl (.inr ⟨o, h.sF _ _ q⟩)⟩
  | @ref a n q =>
    unfold tyM at e
    simp only at e
    split at e
    · rename_i e1; cases e; obtain ⟨vs, q1, _⟩ := h.ob _ a _ q e1; exact .inl ⟨rfl, _, .of q1⟩
    · rename_i e1; cases e; obtain ⟨vs, q1, _⟩ := h.ob _ a _ q e1; exact .inr (.inr (.inl ⟨rfl, .inl ⟨_, q1⟩⟩))
    · rename_i e1; cases e; obtain ⟨vs, q1, _⟩ := h.ob _ a _ q e1; exact .inr (.inr (.inl ⟨rfl, .inr ⟨_, q1⟩⟩))
    · cases e
  | _ => cases e
def eMt (T : String) (g : GM) (fo : EV) (ga : AV) : EV := fun env st => (fo env st).bind fun o => if tyM o.2 o.1 = some T then (ga env o.2).bind fun a => g a.2 o.1 a.1 else .bad
section
variable {o e : Expr} {es : List Expr} {fo : EV} {ga : AV} {name : Str} {apos cpos : Pos} {T id : String} {g : GM}
theorem de_mt (pa : PlainAttrs T) (slot : Slot T name id) (hty : typeOf (.builtin id) = pure (.type "method_descriptor")) (hm : DM W X id g) (ho : DE W X E o fo) (ha : DA W X E (e :: es) ga)
    (h : ∀ {r : V → List V → Hp → VK → Prop} {to : TE} {t : TA}, MtR X id r → PE X o to → PA X (e :: es) t → PE X (.Call (.Attribute o name apos) (e :: es) [] cpos) (tBM X.K T r to t)) :
    DE W X E (.Call (.Attribute o name apos) (e :: es) [] cpos) (eMt T g fo ga) := by
  obtain ⟨r, hr, qr⟩ := hm
  obtain ⟨to, po, qo⟩ := ho.ex
  obtain ⟨t, pa, qa⟩ := ha.ex
  refine .mk (h hr po pa) fun Rs F H rr sg env st Q hH hE hP => ?_
  refine qo Rs F H rr sg env st _ hH hE (bindX hP fun b eb z F1 H1 r1 v1 s1 x1 h1 k1 => ?_)
  split at z
  · rename_i ht
    refine ⟨tyM_ok h1 k1 ht, ?_⟩
    refine qa Rs F1 H1 r1 sg env b.2 _ h1 (hE.mono s1 x1) (bindX (Post.later s1 x1 z) fun c ec z2 F2 H2 r2 vs s2 x2 h2 k2 => ?_)
    exact qr Rs F2 H2 r2 c.2 v1 b.1 vs c.1 Q E h2 (k1.mono s2 x2) k2 (Post.later s2 x2 z2)
  · exact z.elim
theorem de_mt0 (pa : PlainAttrs T) (slot : Slot T name id) (hty : typeOf (.builtin id) = pure (.type "method_descriptor")) (hm : DM W X id g) (ho : DE W X E o fo)
    (h : ∀ {r : V → List V → Hp → VK → Prop} {to : TE}, MtR X id r → PE X o to → PE X (.Call (.Attribute o name apos) [] [] cpos) (tBM0 X.K T r to)) :
    DE W X E (.Call (.Attribute o name apos) [] [] cpos) (eMt T g fo aNil) := by
  obtain ⟨r, hr, qr⟩ := hm
  obtain ⟨to, po, qo⟩ := ho.ex
  refine .mk (h hr po) fun Rs F H rr sg env st Q hH hE hP => ?_
  refine qo Rs F H rr sg env st _ hH hE (bindX hP fun b eb z F1 H1 r1 v1 s1 x1 h1 k1 => ?_)
  split at z
  · rename_i ht
    exact ⟨tyM_ok h1 k1 ht, qr Rs F1 H1 r1 b.2 v1 b.1 [] [] Q E h1 k1 .nil (Post.later s1 x1 z)⟩
  · exact z.elim
end
/-! ### lists -/
def appendG : GM := fun st o ds => match o, ds with
  | .ref n, [d] => match st[n]? with
    | some (.lst xs) => if xs.length < LIM then .ok (.non, st.set n (.lst (xs ++ [d]))) else .bad
    | _ => .bad
  | _, _ => .bad
theorem dm_append : DM W X "list.append" appendG := ⟨_, mt_append, fun Rs F H rr st v d vs ds Q E h ko k hP => by
  unfold appendG at hP
  split at hP
  · split at hP
    · rename_i n d xs e1
      split at hP
      · rename_i hl
        cases ko with
        | @ref a n q =>
          match k with
          | .cons k .nil =>
            obtain ⟨ws, q1, k1⟩ := h.ob _ a _ q e1
            exact ⟨a, ws, _, rfl, rfl, q1, by rw [k1.length]; exact lim_lt (Nat.le_of_lt hl), onE_here (h.write (b := .lst _) q ⟨_, upd_same, Reps.snoc k1 k⟩) .non hP⟩
      · exact hP.elim
    · exact hP.elim
  · exact hP.elim⟩
def clearG : GM := fun st o ds => match o, ds with
  | .ref n, [] => match st[n]? with
    | some (.lst xs) => .ok (.non, st.set n (.lst []))
    | _ => .bad
  | _, _ => .bad
theorem dm_clear : DM W X "list.clear" clearG := ⟨_, mt_clear, fun Rs F H rr st v d vs ds Q E h ko k hP => by
  unfold clearG at hP
  split at hP
  · split at hP
    · rename_i n xs e1
      cases ko with
      | @ref a n q =>
        match k with
        | .nil =>
          obtain ⟨ws, q1, k1⟩ := h.ob _ a _ q e1
          exact ⟨a, ws, rfl, rfl, q1, onE_here (h.write (b := .lst _) q ⟨_, upd_same, .nil⟩) .non hP⟩
    · exact hP.elim
  · exact hP.elim⟩
def extendG : GM := fun st o ds => match o, ds with
  | .ref n, [d] => match st[n]?, lstOf st d with
    | some (.lst xs), some zs => if xs.length + zs.length ≤ LIM then .ok (.non, st.set n (.lst (xs ++ zs))) else .bad
    | _, _ => .bad
  | _, _ => .bad
theorem dm_extend : DM W X "list.extend" extendG := ⟨_, mt_extend, fun Rs F H rr st v d vs ds Q E h ko k hP => by
  unfold extendG at hP
  split at hP
  · split at hP
    · rename_i n d _ _ xs zs e1 e2
      split at hP
      · rename_i hl
        cases ko with
        | @ref a n q =>
          match k with
          | .cons k .nil =>
            obtain ⟨ws, q1, k1⟩ := h.ob _ a _ q e1
            obtain ⟨b, us, rfl, q2, k2⟩ := lstOf_ok h k e2
            exact ⟨a, b, ws, us, rfl, rfl, q1, q2, by rw [k1.length, k2.length]; exact lim_line hl, onE_here (h.write (b := .lst _) q ⟨_, upd_same, Reps.append k1 k2⟩) .non hP⟩
      · exact hP.elim
    · exact hP.elim
  · exact hP.elim⟩
def popG : GM := fun st o ds => match o, ds with
  | .ref n, [] => match st[n]? with
    | some (.lst xs) => match xs[xs.length - 1]? with
      | some y => .ok (y, st.set n (.lst xs.dropLast))
      | none => .bad
    | _ => .bad
  | .ref n, [.int i] => match st[n]? with
    | some (.lst xs) => match ixN xs.length i with
      | some j => match xs[j]? with
        | some y => if -1000000 ≤ i ∧ i ≤ 1000000 then .ok (y, st.set n (.lst (xs.eraseIdx j))) else .bad
        | none => .bad
      | none => .bad
    | _ => .bad
  | _, _ => .bad
theorem Reps.dropLast {F : Hp} {r : List Addr} {vs : List V} {ds : List D} (h : Reps F r vs ds) : Reps F r vs.dropLast ds.dropLast := by
  rw [List.dropLast_eq_take, List.dropLast_eq_take, h.length]
  exact h.take _
theorem dm_pop : DM W X "list.pop" popG := ⟨_, MtR.or mt_pop mt_popAt, fun Rs F H rr st v d vs ds Q E h ko k hP => by
  unfold popG at hP
  split at hP
  · split at hP
    · rename_i n xs e1
      split at hP
      · rename_i y e2
        cases ko with
        | @ref a n q =>
          match k with
          | .nil =>
            obtain ⟨ws, q1, k1⟩ := h.ob _ a _ q e1
            obtain ⟨z, e3, k3⟩ := k1.get e2
            exact .inl ⟨a, ws, z, rfl, rfl, q1, by rw [k1.length]; exact e3, onE_here (h.write (b := .lst _) q ⟨_, upd_same, k1.dropLast⟩) k3 hP⟩
      · exact hP.elim
    · exact hP.elim
  · split at hP
    · rename_i n i xs e1
      split at hP
      · rename_i j e2
        split at hP
        · rename_i y e3
          split at hP
          · rename_i hb
            cases ko with
            | @ref a n q =>
              match k with
              | .cons (.int _) .nil =>
                obtain ⟨ws, q1, k1⟩ := h.ob _ a _ q e1
                obtain ⟨z, e4, k4⟩ := k1.get e3
                exact .inr ⟨a, ws, _, j, z, rfl, rfl, q1, by omega, by omega, by rw [k1.length]; exact (ixN_seq e2).1, e4, onE_here (h.write (b := .lst _) q ⟨_, upd_same, k1.eraseIdx _⟩) k4 hP⟩
          · exact hP.elim
        · exact hP.elim
      · exact hP.elim
    · exact hP.elim
  · exact hP.elim⟩

/-! ### texts -/
def asciiS (s : List Nat) : Bool := s.all fun c => decide (c < 128)
def strsOf : List D → Option (List (List Nat))
  | [] => some []
  | .str s :: r => match strsOf r with
    | some l => some (s :: l)
    | none => none
  | _ => none
@[simp] theorem strsOf_map (ss : List (List Nat)) : strsOf (ss.map D.str) = some ss := by
  induction ss with
  | nil => rfl
  | cons s ss ih => simp [strsOf, ih]
theorem strsOf_ok {F : Hp} {r : List Addr} : ∀ {ds : List D} {vs : List V} {ss : List (List Nat)}, Reps F r vs ds → strsOf ds = some ss → vs = (ss.map fun s => (⟨s.toArray⟩ : Str)).map V.str ∧ ∀ s ∈ ss, asciiS s = true
  | [], _, _, .nil, e => by cases e; exact ⟨rfl, fun _ h => nomatch h⟩
  | .str s :: ds, _, ns, .cons (.str _ h1 h2) k, e => by
    unfold strsOf at e
    cases q : strsOf ds with
    | none => rw [q] at e; cases e
    | some l =>
      rw [q] at e
      cases e
      obtain ⟨a, b⟩ := strsOf_ok k q
      rw [a]
      refine ⟨rfl, fun t ht => ?_⟩
      rcases List.mem_cons.mp ht with rfl | ht
      · exact h1
      · exact b t ht
  | .non :: _, _, _, _, e => by cases e
  | .bl _ :: _, _, _, _, e => by cases e
  | .int _ :: _, _, _, _, e => by cases e
  | .tup _ :: _, _, _, _, e => by cases e
  | .lst _ :: _, _, _, _, e => by cases e
  | .ref _ :: _, _, _, _, e => by cases e
  | .scr _ :: _, _, _, _, e => by cases e
def joinG : GM := fun st o ds => match o, ds with
  | .str s, [d] => match (lstOf st d).bind strsOf with
    | some ss => if (ss.map List.length).sum + ss.length * s.length ≤ LIM then .ok (.str (TL.joinL s ss), st) else .bad
    | none => .bad
  | _, _ => .bad
theorem joinL_len (s : List Nat) : ∀ ss : List (List Nat), (TL.joinL s ss).length ≤ (ss.map List.length).sum + ss.length * s.length
  | [] => by simp [TL.joinL]
  | [p] => by simp [TL.joinL]
  | p :: q :: r => by
    have ih := joinL_len s (q :: r)
    simp only [TL.joinL, List.length_append, List.map_cons, List.sum_cons, List.length_cons, Nat.succ_mul] at ih ⊢
    omega
theorem joinL_all {s : List Nat} (hs : asciiS s = true) : ∀ {ss : List (List Nat)}, (∀ t ∈ ss, asciiS t = true) → asciiS (TL.joinL s ss) = true
  | [], _ => rfl
  | [p], h => by simpa [TL.joinL] using h p (by simp)
  | p :: q :: r, h => by
    have ih := joinL_all hs (ss := q :: r) fun t ht => h t (by simp at ht ⊢; exact .inr ht)
    have hp := h p (by simp)
    unfold asciiS at *
    simp only [TL.joinL, List.all_append, hp, hs, ih, Bool.and_self]
theorem join_mk (s : List Nat) (ss : List (List Nat)) : Txt.join ⟨s.toArray⟩ (ss.map fun s => (⟨s.toArray⟩ : Str)) = ⟨(TL.joinL s ss).toArray⟩ := by
  apply TL.ext_tl
  rw [TL.join_eq, TL.tl_join]
  have e : ∀ t : List Nat, TL.tl ⟨t.toArray⟩ = t := fun t => TL.tl_mk t
  rw [List.map_map]
  have e2 : (TL.tl ∘ fun s => (⟨List.toArray s⟩ : Str)) = fun (t : List Nat) => t := by funext t; exact e t
  rw [e, e, e2, List.map_id']
theorem dm_join : DM W X "str.join" joinG := ⟨_, mt_join, fun Rs F H rr st v d vs ds Q E h ko k hP => by
  unfold joinG at hP
  split at hP
  · rename_i s d
    match k with
    | .cons k .nil =>
      cases e1 : lstOf st d with
      | none => rw [e1] at hP; exact hP.elim
      | some ds =>
        rw [e1] at hP
        simp only [Option.bind_some] at hP
        split at hP
        · rename_i ss e2
          split at hP
          · rename_i hl
            cases ko with
            | str s hs hsl =>
              obtain ⟨p, ws, rfl, h1, k1⟩ := lstOf_ok h k e1
              obtain ⟨ev, ha⟩ := strsOf_ok k1 e2
              refine ⟨_, p, ss.map fun s => (⟨s.toArray⟩ : Str), rfl, rfl, .inl (.of (by rw [← ev]; exact h1)), ?_, ?_⟩
              · rw [List.map_map, List.length_map, len_mk]
                have e3 : ((fun (x : Str) => x.length) ∘ fun (s : List Nat) => (⟨s.toArray⟩ : Str)) = List.length := by funext t; exact len_mk t
                rw [e3]
                exact Nat.le_trans hl (by decide)
              · rw [join_mk]
                exact onE_here h (.str _ (joinL_all hs ha) (Nat.le_trans (joinL_len s ss) hl)) hP
          · exact hP.elim
        · exact hP.elim
  · exact hP.elim⟩
/-- s cut at each S -/
def splitL (S s : List Nat) : List (List Nat) := TL.spl S 0 [] s
theorem spl_in (S : List Nat) : ∀ (s : List Nat) (k : Nat) (acc : List Nat), asciiS acc = true → asciiS s = true → ∀ t ∈ TL.spl S k acc s, asciiS t = true ∧ t.length ≤ acc.length + s.length
  | [], k, acc, ha, hs, t, ht => by
    rw [TL.spl_nil] at ht
    simp at ht
    subst ht
    exact ⟨ha, by simp⟩
  | c :: r, 0, acc, ha, hs, t, ht => by
    have hs' : c < 128 ∧ asciiS r = true := by
      unfold asciiS at hs ⊢
      rw [List.all_cons, Bool.and_eq_true] at hs
      exact ⟨of_decide_eq_true hs.1, hs.2⟩
    unfold TL.spl at ht
    split at ht
    · rcases List.mem_cons.mp ht with rfl | ht
      · exact ⟨ha, by simp⟩
      · obtain ⟨a, b⟩ := spl_in S r _ [] rfl hs'.2 t ht
        exact ⟨a, by simp at b ⊢; omega⟩
    · obtain ⟨a, b⟩ := spl_in S r 0 (acc ++ [c]) (by unfold asciiS at ha ⊢; simp [ha, hs'.1]) hs'.2 t ht
      exact ⟨a, by simp at b ⊢; omega⟩
  | c :: r, k + 1, acc, ha, hs, t, ht => by
    have hs' : asciiS r = true := by
      unfold asciiS at hs ⊢
      rw [List.all_cons, Bool.and_eq_true] at hs
      exact hs.2
    unfold TL.spl at ht
    obtain ⟨a, b⟩ := spl_in S r k acc ha hs' t ht
    exact ⟨a, by simp at b ⊢; omega⟩
theorem reps_strs {F : Hp} {r : List Addr} : ∀ {ys : List Str} {ss : List (List Nat)}, ys.map TL.tl = ss → (∀ s ∈ ss, asciiS s = true ∧ s.length ≤ LIM) → Reps F r (ys.map V.str) (ss.map D.str)
  | [], _, e, _ => by subst e; exact .nil
  | y :: ys, _, e, h => by
    subst e
    rw [List.map_cons] at h
    refine .cons ?_ (reps_strs rfl fun s hs => h s (List.mem_cons_of_mem _ hs))
    have := h (TL.tl y) List.mem_cons_self
    have e : y = ⟨(TL.tl y).toArray⟩ := (TL.mk_tl y).symm
    rw [e, TL.tl_mk]
    exact .str _ this.1 this.2
def splitG (m : Bool) : GM := fun st o ds => match o, ds with
  | .str s, [.str t] => if t ≠ [] then newL m ((splitL t s).map D.str) st else .bad
  | _, _ => .bad
theorem dm_split (m : Bool) : DM W X "str.split" (splitG m) := ⟨_, mt_split, fun Rs F H rr st v d vs ds Q E h ko k hP => by
  unfold splitG at hP
  split at hP
  · rename_i s t
    split at hP
    · rename_i hne
      cases ko with
      | str s hs hsl =>
        cases k with
        | cons k k2 =>
          cases k2
          cases k with
          | str t ht htl =>
            refine ⟨_, _, rfl, rfl, ?_, ?_, ?_⟩
            · rw [len_mk, beq_eq_false_iff_ne]
              exact fun z => hne (List.length_eq_zero_iff.mp z)
            · rw [len_mk]
              exact Nat.le_trans (Nat.add_le_add_right hsl 2) (by decide)
            · intro p hp
              have e : (Txt.split ⟨s.toArray⟩ ⟨t.toArray⟩).map TL.tl = splitL t s := TL.split_spl _ _ (by rw [TL.tl_mk]; exact hne) (TL.kind_ok (by
                rw [List.all_eq_true] at ht
                simp only [List.size_toArray, List.all_toArray', List.all_eq_true, decide_eq_true_eq]
                intro x hx
                have := of_decide_eq_true (ht x hx)
                omega))
              exact newL_post h (reps_strs e fun u hu => by
                obtain ⟨a, b⟩ := spl_in t s 0 [] rfl hs u hu
                exact ⟨a, Nat.le_trans b (by simpa using hsl)⟩) hP hp
    · exact hP.elim
  · exact hP.elim⟩
end

/-! ### what was laid on the way is forgotten -/
mutual
def D.wf (n : Nat) : D → Bool
  | .ref k => decide (k < n)
  | .tup ds => D.wfs n ds
  | .lst ds => D.wfs n ds
  | _ => true
def D.wfs (n : Nat) : List D → Bool
  | [] => true
  | d :: ds => D.wf n d && D.wfs n ds
end
def Ob.wf (n : Nat) : Ob → Bool
  | .lst ds => D.wfs n ds
  | .ins _ fs => fs.all fun p => p.2.wf n
  | .dK kvs => kvs.all fun p => p.2.wf n
  | .dT kvs => kvs.all fun p => p.2.wf n
  | .dead => true
def wfS (st : Store) : Prop := ∀ o ∈ st, o.wf st.length = true
section
variable {F F' : Hp} {r : List Addr}
mutual
theorem Rep.wf : ∀ {d : D} {v : V}, Rep F r v d → d.wf r.length = true
  | _, _, .non => rfl
  | _, _, .bl _ => rfl
  | _, _, .int _ => rfl
  | _, _, .str _ _ _ => rfl
  | _, _, .tup _ k => by unfold D.wf; exact Reps.wf k
  | _, _, .lst _ k => by unfold D.wf; exact Reps.wf k
  | _, _, .ref h => by unfold D.wf; exact decide_eq_true (List.getElem?_eq_some_iff.mp h).1
  | _, _, .scr _ => rfl
theorem Reps.wf : ∀ {ds : List D} {vs : List V}, Reps F r vs ds → D.wfs r.length ds = true
  | _, _, .nil => rfl
  | _, _, .cons h k => by unfold D.wfs; rw [Rep.wf h, Reps.wf k]; rfl
end
theorem Flds.wf {vs : List (Str × V)} {fs : List (Str × D)} (h : Flds F r vs fs) : (fs.all fun p => p.2.wf r.length) = true := by
  induction fs generalizing vs with
  | nil => rfl
  | cons p fs ih =>
    cases vs with
    | nil => exact h.elim
    | cons q vs =>
      obtain ⟨_, k, t⟩ := h
      rw [List.all_cons, k.wf, ih t]; rfl
theorem KVr.wf {A : Type} {vs : List (A × V)} {fs : List (A × D)} (h : KVr F r vs fs) : (fs.all fun p => p.2.wf r.length) = true := by
  induction fs generalizing vs with
  | nil => rfl
  | cons p fs ih =>
    cases vs with
    | nil => exact h.elim
    | cons q vs =>
      obtain ⟨_, k, t⟩ := h
      rw [List.all_cons, k.wf, ih t]; rfl
theorem Holds.wf {W : Wd} {Rs H : Hp} {st : Store} (h : Holds W Rs F H r st) : wfS st := fun o m => by
  obtain ⟨i, hi, rfl⟩ := List.mem_iff_getElem.mp m
  obtain ⟨a, e, k⟩ := h.get (n := i) (o := st[i]) (by simp [hi])
  rw [← h.len]
  cases eo : st[i] with
  | lst ds => rw [eo] at k; obtain ⟨vs, _, k⟩ := k; exact k.wf
  | ins C fs => rw [eo] at k; obtain ⟨dx, vs, _, k⟩ := k; exact k.wf
  | dK kvs => rw [eo] at k; obtain ⟨vs, _, k⟩ := k; exact k.wf
  | dT kvs => rw [eo] at k; obtain ⟨vs, _, k⟩ := k; exact k.wf
  | dead => rfl
end
/-- the new references of d told by what they hold -/
def rsv (n : Nat) (st : Store) : Nat → D → Option D
  | 0, _ => none
  | k + 1, d => match d with
    | .tup ds => match optAll (ds.map (rsv n st k)) with
      | some es => some (.tup es)
      | none => none
    | .lst ds => match optAll (ds.map (rsv n st k)) with
      | some es => some (.lst es)
      | none => none
    | .ref i => if i < n then some (.ref i) else match st[i]? with
      | some (.lst ds) => match optAll (ds.map (rsv n st k)) with
        | some es => some (.lst es)
        | none => none
      | _ => none
    | d => some d
section
variable {W : Wd} {Rs F F' H H' : Hp} {r r' : List Addr} {st st1 junk : Store} {E : XK}
/-- the frozen part with all that was laid -/
def froz (F' H' : Hp) (js : List Addr) : Hp := fun a => if a ∈ js then H' a else F' a
theorem froz_same (h : Holds W Rs F' H' r' st) {js : List Addr} (hj : ∀ a ∈ js, a ∈ r') : Same F' (froz F' H' js) := fun a o e => by
  unfold froz
  rw [if_neg fun m => by rw [(h.own a (hj a m)).1] at e; cases e]
  exact e
theorem ext_take (h : Ext r r') : r'.take r.length = r := by
  apply List.ext_getElem?
  intro i
  by_cases hi : i < r.length
  · rw [List.getElem?_take_of_lt hi]
    have := h i r[i] (by simp [hi])
    rw [this]; simp [hi]
  · rw [List.getElem?_eq_none (by simp; omega), List.getElem?_eq_none (by omega)]
theorem rep_cut {n : Nat} : ∀ {d : D} {v : V}, Rep F' r' v d → d.wf n = true → Rep F' (r'.take n) v d := by
  have : (∀ (d : D) (v : V), Rep F' r' v d → d.wf n = true → Rep F' (r'.take n) v d) := by
    intro d
    refine D.rec (motive_1 := fun d => ∀ (v : V), Rep F' r' v d → d.wf n = true → Rep F' (r'.take n) v d) (motive_2 := fun ds => ∀ (vs : List V), Reps F' r' vs ds → D.wfs n ds = true → Reps F' (r'.take n) vs ds) ?_ ?_ ?_ ?_ ?_ ?_ ?_ ?_ ?_ ?_ d
    · intro v k _; cases k; exact .non
    · intro b v k _; cases k; exact .bl b
    · intro b v k _; cases k; exact .int b
    · intro b v k _; cases k with | str _ h1 h2 => exact .str b h1 h2
    · intro ds ih v k w; cases k with | tup q k => exact .tup q (ih _ k (by unfold D.wf at w; exact w))
    · intro ds ih v k w; cases k with | lst q k => exact .lst q (ih _ k (by unfold D.wf at w; exact w))
    · intro i v k w
      cases k with
      | ref q =>
        unfold D.wf at w
        exact .ref (by rw [List.getElem?_take_of_lt (of_decide_eq_true w)]; exact q)
    · intro ns v k _; cases k with | scr q => exact .scr q
    · intro vs k _; cases k; exact .nil
    · intro d ds ih1 ih2 vs k w
      cases k with
      | cons k1 k2 =>
        unfold D.wfs at w
        rw [Bool.and_eq_true] at w
        exact .cons (ih1 _ k1 w.1) (ih2 _ k2 w.2)
  exact fun {d v} => this d v
theorem reps_cut {n : Nat} : ∀ {ds : List D} {vs : List V}, Reps F' r' vs ds → D.wfs n ds = true → Reps F' (r'.take n) vs ds
  | [], _, .nil, _ => .nil
  | d :: ds, _, .cons k1 k2, w => by
    unfold D.wfs at w
    rw [Bool.and_eq_true] at w
    exact .cons (rep_cut k1 w.1) (reps_cut k2 w.2)
theorem flds_cut {n : Nat} : ∀ {vs : List (Str × V)} {fs : List (Str × D)}, Flds F' r' vs fs → (fs.all fun p => p.2.wf n) = true → Flds F' (r'.take n) vs fs
  | [], [], _, _ => trivial
  | _ :: _, _ :: _, ⟨e, k, t⟩, w => by
    rw [List.all_cons, Bool.and_eq_true] at w
    exact ⟨e, rep_cut k w.1, flds_cut t w.2⟩
  | [], _ :: _, h, _ => h.elim
  | _ :: _, [], h, _ => h.elim
theorem kvr_cut {A : Type} {n : Nat} : ∀ {vs : List (A × V)} {fs : List (A × D)}, KVr F' r' vs fs → (fs.all fun p => p.2.wf n) = true → KVr F' (r'.take n) vs fs
  | [], [], _, _ => trivial
  | _ :: _, _ :: _, ⟨e, k, t⟩, w => by
    rw [List.all_cons, Bool.and_eq_true] at w
    exact ⟨e, rep_cut k w.1, kvr_cut t w.2⟩
  | [], _ :: _, h, _ => h.elim
  | _ :: _, [], h, _ => h.elim
/-- the store cut off at n, the rest frozen -/
theorem Holds.cut (h : Holds W Rs F' H' r' (st1 ++ junk)) (w : ∀ o ∈ st1, o.wf st1.length = true) : Holds W Rs (froz F' H' (r'.drop st1.length)) H' (r'.take st1.length) st1 := by
  have sF := froz_same h (js := r'.drop st1.length) fun a m => List.mem_of_mem_drop m
  have hl : st1.length ≤ r'.length := by rw [h.len]; simp
  refine ⟨fun a o e => ?_, h.sR, fun a e => ?_, by simp [hl], h.nd.sublist (List.take_sublist _ _), fun a m => ?_, fun i a o e1 e2 => ?_⟩
  · unfold froz at e
    split at e
    · exact e
    · exact h.sF _ _ e
  · unfold froz at e
    split at e
    · rename_i m; exact (h.own a (List.mem_of_mem_drop m)).2
    · exact h.dj a e
  · have o := h.own a (List.mem_of_mem_take m)
    refine ⟨?_, o.2⟩
    unfold froz
    rw [if_neg fun m2 => ?_]
    · exact o.1
    · have nd := h.nd
      rw [← List.take_append_drop st1.length r', List.nodup_append] at nd
      exact nd.2.2 a m a m2 rfl
  · have hi : i < st1.length := (List.getElem?_eq_some_iff.mp e2).1
    rw [List.getElem?_take_of_lt hi] at e1
    have k := h.ob i a o e1 (by rw [List.getElem?_append_left hi]; exact e2)
    have wo := w o (List.mem_of_getElem? e2)
    cases o with
    | lst ds => obtain ⟨vs, q, k⟩ := k; exact ⟨vs, q, (reps_cut k wo).mono sF (Ext.refl _)⟩
    | ins C fs => obtain ⟨dx, vs, q, k⟩ := k; exact ⟨dx, vs, q, (flds_cut k wo).mono sF (Ext.refl _)⟩
    | dK kvs => obtain ⟨vs, q, k⟩ := k; exact ⟨vs, q, (kvr_cut k wo).mono sF (Ext.refl _)⟩
    | dT kvs => obtain ⟨vs, q, k⟩ := k; exact ⟨vs, q, (kvr_cut k wo).mono sF (Ext.refl _)⟩
    | dead => exact k
theorem rsv_ok (h : Holds W Rs F' H' r' st) (n : Nat) : ∀ (k : Nat) (d : D) (v : V) (e : D), Rep F' r' v d → rsv n st k d = some e → Rep (froz F' H' (r'.drop n)) (r'.take n) v e
  | 0, _, _, _, _, e => by cases e
  | k + 1, d, v, e, kd, eq => by
    have sF := froz_same h (js := r'.drop n) fun a m => List.mem_of_mem_drop m
    have all : ∀ (ds : List D) (vs : List V) (es : List D), Reps F' r' vs ds → optAll (ds.map (rsv n st k)) = some es → Reps (froz F' H' (r'.drop n)) (r'.take n) vs es := by
      intro ds
      induction ds with
      | nil => intro vs es kk q; cases kk; cases q; exact .nil
      | cons d ds ih =>
        intro vs es kk q
        cases kk with
        | cons k1 k2 =>
          rw [List.map_cons] at q
          cases e1 : rsv n st k d with
          | none => rw [e1] at q; cases q
          | some d1 =>
            rw [e1] at q
            unfold optAll at q
            cases e2 : optAll (ds.map (rsv n st k)) with
            | none => rw [e2] at q; cases q
            | some es2 =>
              rw [e2] at q
              cases q
              exact .cons (rsv_ok h n k d _ _ k1 e1) (ih _ _ k2 e2)
    unfold rsv at eq
    cases kd with
    | tup q kk =>
      simp only at eq
      split at eq
      · rename_i es e'; cases eq; exact .tup (sF _ _ q) (all _ _ _ kk e')
      · cases eq
    | lst q kk =>
      simp only at eq
      split at eq
      · rename_i es e'; cases eq; exact .lst (sF _ _ q) (all _ _ _ kk e')
      · cases eq
    | @ref a i q =>
      simp only at eq
      split at eq
      · rename_i hi
        cases eq
        exact .ref (by rw [List.getElem?_take_of_lt hi]; exact q)
      · rename_i hi
        split at eq
        · rename_i ds e0
          split at eq
          · rename_i es e'
            cases eq
            obtain ⟨vs, q', kk⟩ := h.ob i a _ q e0
            refine .lst ?_ (all _ _ _ kk e')
            unfold froz
            have hm : a ∈ r'.drop n := by
              have : (r'.drop n)[i - n]? = some a := by
                rw [List.getElem?_drop]
                rw [show n + (i - n) = i by omega]; exact q
              exact List.mem_of_getElem? this
            rw [if_pos hm]; exact q'
          · cases eq
        · cases eq
    | non => cases eq; exact .non
    | bl b => cases eq; exact .bl b
    | int b => cases eq; exact .int b
    | str b h1 h2 => cases eq; exact .str b h1 h2
    | scr q => cases eq; exact .scr (sF _ _ q)
/-- res is res' but for what was laid on the way -/
def Frz (n : Nat) (res res' : R (D × Store)) : Prop := match res' with
  | .ok (d', st1) => ∃ d junk, res = .ok (d, st1 ++ junk) ∧ st1.length = n ∧ (∀ o ∈ st1, o.wf n = true) ∧ rsv n (st1 ++ junk) 50 d = some d'
  | .exc c none st1 => ∃ junk, res = .exc c none (st1 ++ junk) ∧ st1.length = n ∧ (∀ o ∈ st1, o.wf n = true)
  | .exc c (some d') st1 => ∃ d junk, res = .exc c (some d) (st1 ++ junk) ∧ st1.length = n ∧ (∀ o ∈ st1, o.wf n = true) ∧ rsv n (st1 ++ junk) 50 d = some d'
  | .bad => True
theorem Frz.post {Q : VK} {res res' : R (D × Store)} (h0 : Holds W Rs F H r st) (f : Frz st.length res res') (q : Post W Rs F r res' Q E) : Post W Rs F r res Q E := by
  have rl := h0.len
  cases res' with
  | bad => exact q.elim
  | ok a =>
    obtain ⟨d', st1⟩ := a
    obtain ⟨d, junk, rfl, hl, hw, hr⟩ := f
    intro F' H' r' v s x h k
    have e : r'.take st1.length = r := by rw [hl, ← rl]; exact ext_take x
    have h' := h.cut (st1 := st1) (junk := junk) (by rw [hl]; exact hw)
    have k' := rsv_ok h st1.length 50 d v d' k (by rw [hl]; exact hr)
    rw [e] at h' k'
    exact q _ H' r v (s.trans (froz_same h fun a m => List.mem_of_mem_drop m)) (Ext.refl _) h' k'
  | exc c p st1 =>
    cases p with
    | none =>
      obtain ⟨junk, rfl, hl, hw⟩ := f
      intro F' H' r' od s x h k
      have e : r'.take st1.length = r := by rw [hl, ← rl]; exact ext_take x
      have h' := h.cut (st1 := st1) (junk := junk) (by rw [hl]; exact hw)
      rw [e] at h'
      exact q _ H' r od (s.trans (froz_same h fun a m => List.mem_of_mem_drop m)) (Ext.refl _) h' k
    | some d' =>
      obtain ⟨d, junk, rfl, hl, hw, hr⟩ := f
      intro F' H' r' od s x h k
      have e : r'.take st1.length = r := by rw [hl, ← rl]; exact ext_take x
      have h' := h.cut (st1 := st1) (junk := junk) (by rw [hl]; exact hw)
      obtain ⟨f, a, v, h1, h2, h3, k⟩ := k
      have k' := rsv_ok h st1.length 50 d v d' k (by rw [hl]; exact hr)
      rw [e] at h' k'
      exact q _ H' r od (s.trans (froz_same h fun a m => List.mem_of_mem_drop m)) (Ext.refl _) h' ⟨f, a, v, h1, h2, h3, k'⟩
theorem spD_frz {P : Program} {w : World} {mg : Str → Option Value} {base : Heap} {CX : CXT} {k n : Nat} {f : Addr} {fd : FuncData} {ps : List Str} {g g' : FV} (F : FnOk P w W.K mg base CX k f fd ps (spD W n g))
    (h : ∀ ds st, ds.length = n → wfS st → D.wfs st.length ds = true → Frz st.length (g ds st) (g' ds st)) : FnOk P w W.K mg base CX k f fd ps (spD W n g') :=
  spD_imp F fun Rs F H r st vs ds Q E a b c d => Frz.post a (h ds st c a.wf (by rw [← a.len]; exact b.wf)) d
end
end Dl
/-! ## DlGlue -/
/-! What the printed derivations lean on. -/
namespace Dl
open PySem L2

section
variable {P : Program} {w : World} {W : Wd} {mg : Str → Option Value} {base : Heap} {X : Cx} {E : XK}
/-- a def of the text that means g -/
structure Fn (P : Program) (w : World) (W : Wd) (mg : Str → Option Value) (base : Heap) (x : Str) (k n : Nat) (g : FV) : Prop where
  ex : ∃ f fd ps, FnOk P w W.K mg base (L2.CX P w) k f fd ps (spD W n g) ∧ mg x = some (.ref f) ∧ PySem.W.keepIn W.K (.ref f) = true ∧ Binds W.K fd ps []
/-- a method of the class c -/
structure Mt (P : Program) (w : World) (W : Wd) (mg : Str → Option Value) (base : Heap) (c : Nat) (m : Str) (k n : Nat) (g : FV) : Prop where
  ex : ∃ f fd ps, FnOk P w W.K mg base (L2.CX P w) k f fd ps (spD W n g) ∧ Meth W.K (W.cls c) m f ∧ Binds W.K fd ps []
  cl : Cls W.K (W.cls c)
/-- the class c by its __init__ -/
structure Nw (P : Program) (w : World) (W : Wd) (mg : Str → Option Value) (base : Heap) (x : Str) (c : Nat) (k n : Nat) (g : FV) : Prop where
  ex : ∃ f fd ps, FnOk P w W.K mg base (L2.CX P w) k f fd ps (spD W n g) ∧ Mk W.K (W.cls c) f ∧ mg x = some (.ref (W.cls c)) ∧ Binds W.K fd ps []
theorem Fn.as {x : Str} {k n : Nat} {g g' : FV} (h : Fn P w W mg base x k n g) (e : ∀ ds st, ds.length = n → wfS st → D.wfs st.length ds = true → Frz st.length (g ds st) (g' ds st)) : Fn P w W mg base x k n g' :=
  let ⟨f, fd, ps, F, a, b, c⟩ := h.ex; ⟨f, fd, ps, spD_frz F e, a, b, c⟩
theorem Mt.as {c : Nat} {x : Str} {k n : Nat} {g g' : FV} (h : Mt P w W mg base c x k n g) (e : ∀ ds st, ds.length = n → wfS st → D.wfs st.length ds = true → Frz st.length (g ds st) (g' ds st)) : Mt P w W mg base c x k n g' :=
  let ⟨f, fd, ps, F, a, b⟩ := h.ex; ⟨⟨f, fd, ps, spD_frz F e, a, b⟩, h.cl⟩
theorem Nw.as {c : Nat} {x : Str} {k n : Nat} {g g' : FV} (h : Nw P w W mg base x c k n g) (e : ∀ ds st, ds.length = n → wfS st → D.wfs st.length ds = true → Frz st.length (g ds st) (g' ds st)) : Nw P w W mg base x c k n g' :=
  let ⟨f, fd, ps, F, a, b, d⟩ := h.ex; ⟨f, fd, ps, spD_frz F e, a, b, d⟩
/-- the meaning said otherwise where it is said at all -/
theorem Frz.same {n : Nat} {res : R (D × Store)} : ∀ {d : D} {st : Store}, res = .ok (d, st) → st.length = n → (∀ o ∈ st, o.wf n = true) → rsv n st 50 d = some d → Frz n res (.ok (d, st)) := fun e h1 h2 h3 => ⟨_, [], by rw [List.append_nil]; exact e, h1, h2, by rw [List.append_nil]; exact h3⟩

theorem dv (i : Nat) {x : Str} {pos : Pos} (hN : X.N[i]? = some x := by rfl) (hv : Vis X.env.scope x := by first | exact Or.inl rfl | exact Or.inr (Or.inl rfl) | exact Or.inr (Or.inr rfl)) (hd : (x == ("__debug__" : Str)) = false := by decide)
    (hcd : (x == ("__classdict__" : Str)) = false := by decide) : DE W X E (.Name x pos) (eV i) := de_var hN hv hd hcd
def eNeg (f : EV) : EV := fun env st => (f env st).bind fun a => match a.1 with
  | .int i => .ok (.int (-i), a.2)
  | _ => .bad
theorem de_neg {e : Expr} {f : EV} {pos : Pos} (h : DE W X E e f) : DE W X E (.UnaryOp .USub e pos) (eNeg f) := by
  obtain ⟨t, p, q⟩ := h.ex
  refine .mk (pe_un un_neg p) fun Rs F H rr sg env st Q hH hE hP => ?_
  refine q Rs F H rr sg env st _ hH hE (bindX hP fun a ea z F1 H1 r1 v1 s1 x1 h1 k1 => ?_)
  obtain ⟨d, st1⟩ := a
  cases k1 with
  | int i => exact ⟨i, rfl, z F1 H1 r1 _ s1 x1 h1 (.int _)⟩
  | _ => exact z.elim
section
variable {k j n : Nat} {g : FV} {x : Str} {e : Expr} {es : List Expr} {p pos apos : Pos} {ga : AV}
theorem dcall (c : Fn X.prog X.w W X.mg X.base x k n g) (hr : Room j X.A) (hx : Passes (L2.CX X.prog X.w) X E) (ha : DA W X E (e :: es) ga) (hK : X.K = W.K := by rfl) (hj : k ≤ j := by decide) (hg : Gl X x := by rfl)
    (hdb : (x == ("__debug__" : Str)) = false := by decide) (he : starEach (e :: es) X.env = (false, eval e X.env) :: starEach es X.env := by rfl) (hpl : (backTo pos (starEach es X.env)).any (·.1) = false := by rfl) :
    DE W X E (.Call (.Name x p) (e :: es) [] pos) (eCall n g ga) := let ⟨f, fd, ps, F, a, b, c⟩ := c.ex; de_call hK F hr hj hg a b c hx ha hdb he hpl
theorem dcall0 (c : Fn X.prog X.w W X.mg X.base x k 0 g) (hr : Room j X.A) (hx : Passes (L2.CX X.prog X.w) X E) (hK : X.K = W.K := by rfl) (hj : k ≤ j := by decide) (hg : Gl X x := by rfl)
    (hdb : (x == ("__debug__" : Str)) = false := by decide) : DE W X E (.Call (.Name x p) [] [] pos) (eCall 0 g aNil) := let ⟨f, fd, ps, F, a, b, c⟩ := c.ex; de_call0 hK F hr hj hg a b c hx hdb
theorem dmake {c : Nat} (c' : Nw X.prog X.w W X.mg X.base x c k n g) (hr : Room (j + 1) X.A) (hx : Passes (L2.CX X.prog X.w) X E) (ha : DA W X E (e :: es) ga) (hK : X.K = W.K := by rfl) (hj : k ≤ j := by decide) (hg : Gl X x := by rfl)
    (hdb : (x == ("__debug__" : Str)) = false := by decide) (he : starEach (e :: es) X.env = (false, eval e X.env) :: starEach es X.env := by rfl) (hpl : (backTo pos (starEach es X.env)).any (·.1) = false := by rfl) :
    DE W X E (.Call (.Name x p) (e :: es) [] pos) (eMake c n g ga) := let ⟨f, fd, ps, F, a, b, c⟩ := c'.ex; de_make hK a F hr hj hg b c hx ha hdb he hpl
theorem dmeth {o : Expr} {fo : EV} {c : Nat} {m : Str} {pl : Sem Bool} (c' : Mt X.prog X.w W X.mg X.base c m k n g) (he : DE W X E o fo) (hr : Room j X.A) (hx : Passes (L2.CX X.prog X.w) X E) (ha : DA W X E (e :: es) ga) (hK : X.K = W.K := by rfl) (hj : k ≤ j := by decide)
    (hst : starEach (e :: es) X.env = (false, eval e X.env) :: starEach es X.env := by rfl) (hpl : (backTo pos (starEach es X.env)).any (·.1) = false := by rfl)
    (ht : eval (.Call (.Attribute o m apos) (e :: es) [] pos) X.env = (do
      let ov ← eval o X.env
      standAt apos.atName
      let (f, first) ← holding [ov] (getMethod ov m pl)
      callWith pos f first (backTo pos (starEach (e :: es) X.env)) (backToKw pos (keywordEach [] X.env))) := by rfl) :
    DE W X E (.Call (.Attribute o m apos) (e :: es) [] pos) (eMeth c m n g fo ga) := let ⟨f, fd, ps, F, a, b⟩ := c'.ex; de_meth (pl := pl) hK he c'.cl a F hr hj b hx ha hst hpl ht
theorem dmeth0 {o : Expr} {fo : EV} {c : Nat} {m : Str} {pl : Sem Bool} (c' : Mt X.prog X.w W X.mg X.base c m k n g) (he : DE W X E o fo) (hr : Room j X.A) (hx : Passes (L2.CX X.prog X.w) X E) (hK : X.K = W.K := by rfl) (hj : k ≤ j := by decide)
    (ht : eval (.Call (.Attribute o m apos) [] [] pos) X.env = (do
      let ov ← eval o X.env
      standAt apos.atName
      let (f, first) ← holding [ov] (getMethod ov m pl)
      callWith pos f first [] []) := by rfl) :
    DE W X E (.Call (.Attribute o m apos) [] [] pos) (eMeth c m n g fo aNil) := let ⟨f, fd, ps, F, a, b⟩ := c'.ex; de_meth0 (pl := pl) hK he c'.cl a F hr hj b hx fun {to} po => by
      refine pe_meth0 (pl := pl) (C := W.cls c) (sp := spD W n g) po (by rw [hK]; exact c'.cl) (by rw [hK]; exact a) (by rw [hK]; exact F) (hr.mono hj) (by rw [hK]; exact b) .nil hx ht
end
theorem passD {qual : Str} {N : List Str} {sc : Scope} {f : Addr} {cd : Value} {A : Around} {outer : List PySem.Env} {s : Shared} {H : Hp} {K : PySem.W.Frag} : Passes (L2.CX P w) (cxOf (L2.CX P w) P w K mg base N qual sc f cd A outer s H E) E :=
  passes_call (takes_of rfl rfl rfl rfl) fun _ _ _ _ h => h
theorem passF {qual : Str} {N : List Str} {sc : Scope} {f : Addr} {cd : Value} {A : Around} {outer : List PySem.Env} {s : Shared} {H : Hp} {K : PySem.W.Frag} : PassesOwn (model P w) (cxOf (L2.CX P w) P w K mg base N qual sc f cd A outer s H E).A (cxOf (L2.CX P w) P w K mg base N qual sc f cd A outer s H E).env (cxOf (L2.CX P w) P w K mg base N qual sc f cd A outer s H E).xe :=
  passes_of (X := cxOf (L2.CX P w) P w K mg base N qual sc f cd A outer s H E) rfl
end
end Dl
/-! ## DlSimp -/
/-! Running meanings by simp. -/
namespace Dl
open PySem L2

def SR.andThen (r : SR) (g : SV) : SR := match r with
  | .nx e s => g e s
  | .rt d s => .rt d s
  | .bk e s => .bk e s
  | .ct e s => .ct e s
  | .exc c p s => .exc c p s
  | .bad => .bad
@[simp] theorem then_nx (e : Env) (s : Store) (g : SV) : (SR.nx e s).andThen g = g e s := (rfl)
@[simp] theorem then_rt (d : D) (s : Store) (g : SV) : (SR.rt d s).andThen g = .rt d s := (rfl)
@[simp] theorem then_bk (e : Env) (s : Store) (g : SV) : (SR.bk e s).andThen g = .bk e s := (rfl)
@[simp] theorem then_ct (e : Env) (s : Store) (g : SV) : (SR.ct e s).andThen g = .ct e s := (rfl)
@[simp] theorem then_exc (c : Nat) (p : Option D) (s : Store) (g : SV) : (SR.exc c p s).andThen g = .exc c p s := (rfl)
@[simp] theorem then_bad (g : SV) : (SR.bad).andThen g = .bad := (rfl)
def R.ifS (r : R (Bool × Store)) (f g : SV) (env : Env) : SR := match r with
  | .ok a => if a.1 = true then f env a.2 else g env a.2
  | .exc c p st => .exc c p st
  | .bad => .bad
@[simp] theorem ifS_ok (a : Bool × Store) (f g : SV) (env : Env) : (R.ok a).ifS f g env = if a.1 = true then f env a.2 else g env a.2 := (rfl)
@[simp] theorem ifS_exc (c : Nat) (p : Option D) (st : Store) (f g : SV) (env : Env) : (R.exc c p st : R (Bool × Store)).ifS f g env = .exc c p st := (rfl)
@[simp] theorem ifS_bad (f g : SV) (env : Env) : (R.bad : R (Bool × Store)).ifS f g env = .bad := (rfl)

def R.forS (r : R (Wk × Store)) (g : GV) (b : SV) (env : Env) : SR := match r with
  | .ok a => forGo a.1.2 g b a.1.1 env a.2
  | .exc c p st => .exc c p st
  | .bad => .bad
@[simp] theorem forS_ok (ds : List D) (sub : List (Nat × List D)) (s : Store) (g : GV) (b : SV) (env : Env) : (R.ok ((ds, sub), s)).forS g b env = forGo sub g b ds env s := (rfl)
@[simp] theorem forS_exc (c : Nat) (p : Option D) (st : Store) (g : GV) (b : SV) (env : Env) : (R.exc c p st : R (Wk × Store)).forS g b env = .exc c p st := (rfl)
@[simp] theorem forS_bad (g : GV) (b : SV) (env : Env) : (R.bad : R (Wk × Store)).forS g b env = .bad := (rfl)
def R.lcS (r : R (Wk × Store)) (m : Bool) (t : Tg1) (tt : TV) (te : EV) (env : Env) : R (D × Store) := match r with
  | .ok a => if a.1.1.length ≤ LIM then (lcGo a.1.2 t tt te env a.1.1 [] a.2).bind fun b => newL m b.1 b.2 else .bad
  | .exc c p st => .exc c p st
  | .bad => .bad
@[simp] theorem lcS_ok (ds : List D) (sub : List (Nat × List D)) (s : Store) (m : Bool) (t : Tg1) (tt : TV) (te : EV) (env : Env) : (R.ok ((ds, sub), s)).lcS m t tt te env = if ds.length ≤ LIM then (lcGo sub t tt te env ds [] s).bind fun b => newL m b.1 b.2 else .bad := (rfl)
@[simp] theorem lcS_exc (c : Nat) (p : Option D) (st : Store) (m : Bool) (t : Tg1) (tt : TV) (te : EV) (env : Env) : (R.exc c p st : R (Wk × Store)).lcS m t tt te env = .exc c p st := (rfl)
@[simp] theorem lcS_bad (m : Bool) (t : Tg1) (tt : TV) (te : EV) (env : Env) : (R.bad : R (Wk × Store)).lcS m t tt te env = .bad := (rfl)

section
variable (env : Env) (st : Store)
@[simp] theorem r_eV (i : Nat) : eV i env st = match env[i]? with
  | some (some d) => .ok (d, st)
  | _ => .bad := (rfl)
@[simp] theorem r_eC (d : D) : eC d env st = .ok (d, st) := (rfl)
@[simp] theorem r_eOp (g : G2) (fa fb : EV) : eOp g fa fb env st = (fa env st).bind fun a => (fb env a.2).bind fun b => g b.2 a.1 b.1 := (rfl)
@[simp] theorem r_tv (f : EV) : tv f env st = (f env st).bind fun a => match a.1 with
  | .bl b => .ok (b, a.2)
  | _ => .bad := (rfl)
@[simp] theorem r_eChain (g g' : G2) (fa fb fc : EV) : eChain g g' fa fb fc env st = (fa env st).bind fun a => (fb env a.2).bind fun b => (g b.2 a.1 b.1).bind fun z => match z.1 with
  | .bl true => (fc env z.2).bind fun c => g' c.2 b.1 c.1
  | .bl false => .ok (.bl false, z.2)
  | _ => .bad := (rfl)
@[simp] theorem r_tAndD (f g : TV) : tAndD f g env st = (f env st).bind fun a => if a.1 = true then g env a.2 else .ok (false, a.2) := (rfl)
@[simp] theorem r_tOrD (f g : TV) : tOrD f g env st = (f env st).bind fun a => if a.1 = true then .ok (true, a.2) else g env a.2 := (rfl)
@[simp] theorem r_tNotD (f : TV) : tNotD f env st = (f env st).bind fun a => .ok (!a.1, a.2) := (rfl)
@[simp] theorem r_eAnd (f g : EV) : eAnd f g env st = (f env st).bind fun a => match a.1 with
  | .bl true => g env a.2
  | .bl false => .ok (.bl false, a.2)
  | _ => .bad := (rfl)
@[simp] theorem r_eOr (f g : EV) : eOr f g env st = (f env st).bind fun a => match a.1 with
  | .bl true => .ok (.bl true, a.2)
  | .bl false => g env a.2
  | _ => .bad := (rfl)
@[simp] theorem r_eNot (f : EV) : eNot f env st = (f env st).bind fun a => match a.1 with
  | .bl b => .ok (.bl (!b), a.2)
  | _ => .bad := (rfl)
@[simp] theorem r_eIf (t : TV) (f g : EV) : eIf t f g env st = (t env st).bind fun a => if a.1 = true then f env a.2 else g env a.2 := (rfl)
@[simp] theorem r_aNil : aNil env st = .ok ([], st) := (rfl)
@[simp] theorem r_aCons (f : EV) (g : AV) : aCons f g env st = (f env st).bind fun a => (g env a.2).bind fun b => .ok (a.1 :: b.1, b.2) := (rfl)
@[simp] theorem r_newF (ds : List D) : newL false ds st = .ok (.lst ds, st) := (rfl)
@[simp] theorem r_newT (ds : List D) : newL true ds st = .ok (.ref st.length, st ++ [.lst ds]) := (rfl)
@[simp] theorem r_eTup (g : AV) : eTup g env st = (g env st).bind fun a => if a.1.length ≤ LIM then .ok (.tup a.1, a.2) else .bad := (rfl)
@[simp] theorem r_eLst (m : Bool) (g : AV) : eLst m g env st = (g env st).bind fun a => if a.1.length ≤ LIM then newL m a.1 a.2 else .bad := (rfl)
@[simp] theorem r_sNext : sNext env st = .nx env st := (rfl)
@[simp] theorem r_sCons (f g : SV) : sCons f g env st = (f env st).andThen g := by unfold sCons SR.andThen; cases f env st <;> rfl
@[simp] theorem r_sPass : sPass env st = .nx env st := (rfl)
@[simp] theorem r_sBreak : sBreak env st = .bk env st := (rfl)
@[simp] theorem r_sCont : sCont env st = .ct env st := (rfl)
@[simp] theorem r_sExpr (f : EV) : sExpr f env st = sOf (f env st) fun a => .nx env a.2 := (rfl)
@[simp] theorem r_sRet (f : EV) : sRet f env st = sOf (f env st) fun a => .rt a.1 a.2 := (rfl)
@[simp] theorem r_sRetN : sRetN env st = .rt .non st := (rfl)
@[simp] theorem r_sIf (t : TV) (f g : SV) : sIf t f g env st = (t env st).ifS f g env := by unfold sIf R.ifS sOf; cases t env st <;> rfl
@[simp] theorem r_sBad : sBad env st = .bad := (rfl)
@[simp] theorem r_sAsg (f : EV) (g : GV) : sAsg f g env st = sOf (f env st) fun a => sOf (g a.1 env a.2) fun b => .nx b.1 b.2 := (rfl)
@[simp] theorem r_sPar (i j : Nat) (f : AV) : sPar i j f env st = sOf (f env st) fun a => match a.1 with
  | [d, e] => .nx ((env.set i (some d)).set j (some e)) a.2
  | _ => .bad := (rfl)
@[simp] theorem r_sPar3 (i j l : Nat) (f : AV) : sPar3 i j l f env st = sOf (f env st) fun a => match a.1 with
  | [d, e, c] => .nx (((env.set i (some d)).set j (some e)).set l (some c)) a.2
  | _ => .bad := (rfl)
@[simp] theorem r_gN (i : Nat) (d : D) : gN i d env st = .ok (env.set i (some d), st) := (rfl)
@[simp] theorem r_gsNil : gsNil [] env st = .ok (env, st) := (rfl)
@[simp] theorem r_gsCons (g : GV) (h : GVs) (d : D) (ds : List D) : gsCons g h (d :: ds) env st = (g d env st).bind fun a => h ds a.1 a.2 := (rfl)
@[simp] theorem r_gTp (n : Nat) (h : GVs) (ds : List D) : gTp n h (.tup ds) env st = if ds.length = n then h ds env st else .bad := (rfl)
@[simp] theorem r_gSb (fo fi : EV) (g : SetV) (d : D) : gSb fo fi g d env st = (fo env st).bind fun a => (fi env a.2).bind fun b => match g b.2 a.1 b.1 d with
  | some st' => .ok (env, st')
  | none => .bad := (rfl)
@[simp] theorem r_iSeq (f : EV) : iSeq f env st = (f env st).bind fun a => match itemsOf a.2 a.1 with
  | some w => .ok (w, a.2)
  | none => .bad := (rfl)
@[simp] theorem r_sFor (it : IV) (g : GV) (b : SV) : sFor it g b env st = (it env st).forS g b env := by unfold sFor R.forS sOf; cases it env st <;> rfl
@[simp] theorem r_tYesD : tYesD env st = .ok (true, st) := (rfl)
@[simp] theorem r_eLc (m : Bool) (it : IV) (vs : List Nat) (t : Tg1) (tt : TV) (te : EV) : eLc m it vs t tt te env st = (it env st).lcS m t tt te (wipeD env vs) := by unfold eLc R.lcS R.bind; cases it env st <;> rfl
@[simp] theorem r_iR1 (g : AV) : iR1 g env st = (g env st).bind fun a => match a.1 with
  | [.int n] => if -1000000 ≤ n ∧ n ≤ 1000000 then .ok ((intsD 0 n.toNat, []), a.2) else .bad
  | _ => .bad := (rfl)
@[simp] theorem r_iR2 (g : AV) : iR2 g env st = (g env st).bind fun a => match a.1 with
  | [.int i, .int n] => if (-1000000 ≤ i ∧ i ≤ 1000000) ∧ -1000000 ≤ n ∧ n ≤ 1000000 then .ok ((intsD i (n - i).toNat, []), a.2) else .bad
  | _ => .bad := (rfl)
@[simp] theorem r_iEn (g : AV) : iEn g env st = (g env st).bind fun a => match a.1 with
  | [d] => match listOf a.2 d with
    | some w => .ok ((pairUp w.1, w.2), a.2)
    | none => .bad
  | _ => .bad := (rfl)
@[simp] theorem r_iZp (g : AV) : iZp g env st = (g env st).bind fun a => match a.1 with
  | [d, e] => match listOf a.2 d, listOf a.2 e with
    | some w, some w' => .ok ((zipUp w.1 w'.1, w.2 ++ w'.2), a.2)
    | _, _ => .bad
  | _ => .bad := (rfl)
@[simp] theorem r_eCall (n : Nat) (g : FV) (ga : AV) : eCall n g ga env st = (ga env st).bind fun a => if a.1.length = n then g a.1 a.2 else .bad := (rfl)
@[simp] theorem r_eB (g : GA) (ga : AV) : eB g ga env st = (ga env st).bind fun a => g a.2 a.1 := (rfl)
@[simp] theorem r_eIs (T : String) (f : EV) : eIs T f env st = (f env st).bind fun a => isG1 T a.2 [a.1] := (rfl)
@[simp] theorem r_eMt (T : String) (g : GM) (fo : EV) (ga : AV) : eMt T g fo ga env st = (fo env st).bind fun o => if tyM o.2 o.1 = some T then (ga env o.2).bind fun a => g a.2 o.1 a.1 else .bad := (rfl)
@[simp] theorem r_eSl (m : Bool) (f : EV) (l h : Env → Store → R (Option Int × Store)) : eSl m f l h env st = (f env st).bind fun a => (l env a.2).bind fun b => (h env b.2).bind fun c => slG m c.2 a.1 b.1 c.1 := (rfl)
@[simp] theorem r_poNone : poNone env st = .ok (none, st) := (rfl)
@[simp] theorem r_poSome (f : EV) : poSome f env st = (f env st).bind fun a => match a.1 with
  | .int i => .ok (some i, a.2)
  | _ => .bad := (rfl)
@[simp] theorem r_eNeg (f : EV) : eNeg f env st = (f env st).bind fun a => match a.1 with
  | .int i => .ok (.int (-i), a.2)
  | _ => .bad := (rfl)
@[simp] theorem r_eFld (c : Nat) (f : Str) (fo : EV) : eFld c f fo env st = (fo env st).bind fun o => match o.1 with
  | .ref i => match o.2[i]? with
    | some (.ins c' fs) => if c' = c then (match fs.lookup f with
      | some d => .ok (d, o.2)
      | none => .bad) else .bad
    | _ => .bad
  | _ => .bad := (rfl)
@[simp] theorem r_isG1 (T : String) (d : D) : isG1 T st [d] = match tyOf st d with
    | some t => .ok (.bl (subTy t T), st)
    | none => .bad := (rfl)
end
theorem LIM_val : LIM = 1000000 := rfl
theorem le_LIM {n : Nat} (h : n ≤ 1000000) : n ≤ LIM := h
theorem lt_LIM {n : Nat} (h : n < 1000000) : n < LIM := h

/-! ### comprehensions and loops over known items -/
theorem lcGo_nil {sub : List (Nat × List D)} {t : Tg1} {tt : TV} {te : EV} {env : Env} {acc : List D} {st : Store} (h : still sub st = true) : lcGo sub t tt te env [] acc st = .ok (acc, st) := by
  unfold lcGo; rw [if_pos h]
theorem lcGo_cons {sub : List (Nat × List D)} {t : Tg1} {tt : TV} {te : EV} {env : Env} {d : D} {ds acc : List D} {st : Store} (h : still sub st = true) : lcGo sub t tt te env (d :: ds) acc st = match t.put d env with
    | some env1 => (noX (tt env1 st)).bind fun b => if b.1 = true then (noX (te env1 b.2)).bind fun y => lcGo sub t tt te env ds (acc ++ [y.1]) y.2 else lcGo sub t tt te env ds acc b.2
    | none => .bad := by
  rw [lcGo, if_pos h]
  all_goals rfl
theorem forGo_nil {sub : List (Nat × List D)} {g : GV} {b : SV} {env : Env} {st : Store} (h : still sub st = true) : forGo sub g b [] env st = .nx env st := by
  unfold forGo; rw [if_pos h]
theorem forGo_cons {sub : List (Nat × List D)} {g : GV} {b : SV} {d : D} {ds : List D} {env : Env} {st : Store} (h : still sub st = true) : forGo sub g b (d :: ds) env st = sOf (g d env st) fun a => (match b a.1 a.2 with
      | .nx e s => forGo sub g b ds e s
      | .ct e s => forGo sub g b ds e s
      | .bk e s => .nx e s
      | .rt d s => .rt d s
      | .exc c p s => .exc c p s
      | .bad => .bad) := by
  rw [forGo, if_pos h]
  all_goals rfl
/-- a comprehension that changes nothing -/
theorem lc_pure {sub : List (Nat × List D)} {t : Tg1} {tt : TV} {te : EV} {env : Env} {st : Store} (hs : still sub st = true) (p : D → Bool) (f : D → D) : ∀ (ds acc : List D),
    (∀ d ∈ ds, ∃ env1, t.put d env = some env1 ∧ tt env1 st = .ok (p d, st) ∧ (p d = true → te env1 st = .ok (f d, st))) → lcGo sub t tt te env ds acc st = .ok (acc ++ (ds.filter p).map f, st)
  | [], acc, _ => by rw [lcGo_nil hs]; simp
  | d :: ds, acc, h => by
    obtain ⟨env1, h1, h2, h3⟩ := h d (by simp)
    have ih := fun acc => lc_pure hs p f ds acc fun e he => h e (by simp [he])
    rw [lcGo_cons hs, h1]
    simp only [h2, noX_ok, R.bind_ok]
    cases e : p d with
    | true => simp [h3 e, ih, e]
    | false => simp [ih, e]
theorem lc_map {sub : List (Nat × List D)} {t : Tg1} {te : EV} {env : Env} {st : Store} (hs : still sub st = true) (f : D → D) (ds : List D) (h : ∀ d ∈ ds, ∃ env1, t.put d env = some env1 ∧ te env1 st = .ok (f d, st)) : lcGo sub t tYesD te env ds [] st = .ok (ds.map f, st) := by
  have := lc_pure (tt := tYesD) hs (fun _ => true) f ds [] fun d hd => let ⟨e, a, b⟩ := h d hd; ⟨e, a, rfl, fun _ => b⟩
  rw [this, List.filter_eq_self.mpr (by simp)]
  simp
/-- a loop by its invariant: what is so ahead of the i-th turn -/
theorem for_inv {sub : List (Nat × List D)} {g : GV} {b : SV} (I : Nat → Env → Store → Prop) {ds : List D} {env : Env} {st : Store} (h0 : I 0 env st) (hst : ∀ i env st, i ≤ ds.length → I i env st → still sub st = true)
    (turn : ∀ i d env st, ds[i]? = some d → I i env st → ∃ e1 s1 e2 s2, g d env st = .ok (e1, s1) ∧ (b e1 s1 = .nx e2 s2 ∨ b e1 s1 = .ct e2 s2) ∧ I (i + 1) e2 s2) : ∃ e s, forGo sub g b ds env st = .nx e s ∧ I ds.length e s := by
  have gen : ∀ (es : List D) (i : Nat) (env : Env) (st : Store), i + es.length = ds.length → ds.drop i = es → I i env st → ∃ e s, forGo sub g b es env st = .nx e s ∧ I ds.length e s := by
    intro es
    induction es with
    | nil =>
      intro i env st hl hd hI
      refine ⟨env, st, forGo_nil (hst i env st (by omega) hI), ?_⟩
      have : i = ds.length := by simpa using hl
      rw [← this]; exact hI
    | cons d es ih =>
      intro i env st hl hd hI
      have hi : ds[i]? = some d := by
        have := congrArg (fun l => l[0]?) hd
        simpa using this
      obtain ⟨e1, s1, e2, s2, a1, a2, a3⟩ := turn i d env st hi hI
      obtain ⟨e, s, r1, r2⟩ := ih (i + 1) e2 s2 (by simp at hl; omega) (by
        have : ds.drop (i + 1) = (ds.drop i).drop 1 := by rw [List.drop_drop]
        rw [this, hd]; rfl) a3
      refine ⟨e, s, ?_, r2⟩
      rw [forGo_cons (hst i env st (by simp at hl; omega) hI), a1]
      rcases a2 with a2 | a2 <;> simp [a2, r1]
  exact gen ds 0 env st (by simp) (by simp) h0
/-- a loop that looks for something, and returns or raises -/
theorem for_inv_end {sub : List (Nat × List D)} {g : GV} {b : SV} (I : Nat → Env → Store → Prop) (P : SR → Prop) {ds : List D} {env : Env} {st : Store} (h0 : I 0 env st) (hst : ∀ i env st, i ≤ ds.length → I i env st → still sub st = true)
    (turn : ∀ i d env st, ds[i]? = some d → I i env st → ∃ e1 s1, g d env st = .ok (e1, s1) ∧ ((∃ e2 s2, (b e1 s1 = .nx e2 s2 ∨ b e1 s1 = .ct e2 s2) ∧ I (i + 1) e2 s2) ∨ (∃ e2 s2, b e1 s1 = .bk e2 s2 ∧ P (.nx e2 s2)) ∨ (∃ d s2, b e1 s1 = .rt d s2 ∧ P (.rt d s2)) ∨ (∃ c p s2, b e1 s1 = .exc c p s2 ∧ P (.exc c p s2))))
    (done : ∀ e s, I ds.length e s → P (.nx e s)) : P (forGo sub g b ds env st) := by
  have gen : ∀ (es : List D) (i : Nat) (env : Env) (st : Store), i + es.length = ds.length → ds.drop i = es → I i env st → P (forGo sub g b es env st) := by
    intro es
    induction es with
    | nil =>
      intro i env st hl hd hI
      rw [forGo_nil (hst i env st (by omega) hI)]
      have : i = ds.length := by simpa using hl
      exact done env st (by rw [← this]; exact hI)
    | cons d es ih =>
      intro i env st hl hd hI
      have hi : ds[i]? = some d := by
        have := congrArg (fun l => l[0]?) hd
        simpa using this
      obtain ⟨e1, s1, a1, a2⟩ := turn i d env st hi hI
      rw [forGo_cons (hst i env st (by simp at hl; omega) hI), a1]
      rcases a2 with ⟨e2, s2, a2, a3⟩ | ⟨e2, s2, a2, a3⟩ | ⟨d', s2, a2, a3⟩ | ⟨c, p, s2, a2, a3⟩
      · have r := ih (i + 1) e2 s2 (by simp at hl; omega) (by
          have : ds.drop (i + 1) = (ds.drop i).drop 1 := by rw [List.drop_drop]
          rw [this, hd]; rfl) a3
        rcases a2 with a2 | a2 <;> simpa [a2] using r
      · simpa [a2] using a3
      · simpa [a2] using a3
      · simpa [a2] using a3
  exact gen ds 0 env st (by simp) (by simp) h0
end Dl
/-! ## DlLaw -/
/-! The head of a law, recursion. -/
namespace Dl
open PySem L2

section
variable {P : Program} {w : World} {W : Wd} {mg : Str → Option Value} {base : Heap} {X : Cx} {E : XK}
/-- the meaning that says nothing -/
def fvBad : FV := fun _ _ => .bad
theorem fn_bad {x : Str} {f : Addr} {fd : FuncData} {ps : List Str} {k n : Nat} (h1 : mg x = some (.ref f)) (h2 : PySem.W.keepIn W.K (.ref f) = true) (h3 : Binds W.K fd ps []) : Fn P w W mg base x k n fvBad :=
  ⟨f, fd, ps, ⟨fun _ _ _ _ ⟨_, _, _, _, _, _, _, _, z⟩ => z.elim, fun _ _ _ _ _ _ _ _ _ _ _ _ _ ⟨_, _, _, _, _, _, _, _, z⟩ => z.elim⟩, h1, h2, h3⟩
theorem dcallR {k n : Nat} {g : FV} {x : Str} {e : Expr} {es : List Expr} {p pos : Pos} {ga : AV} (c : Fn X.prog X.w W X.mg X.base x k n g) (hr : Room k X.A) (hx : Passes (L2.CX X.prog X.w) X E) (ha : DA W X E (e :: es) ga) (hK : X.K = W.K := by rfl) (hg : Gl X x := by rfl)
    (hdb : (x == ("__debug__" : Str)) = false := by decide) (he : starEach (e :: es) X.env = (false, eval e X.env) :: starEach es X.env := by rfl) (hpl : (backTo pos (starEach es X.env)).any (·.1) = false := by rfl) :
    DE W X E (.Call (.Name x p) (e :: es) [] pos) (eCall n g ga) := let ⟨f, fd, ps, F, a, b, c⟩ := c.ex; de_call hK F hr (Nat.le_refl _) hg a b c hx ha hdb he hpl
end
theorem fnE {P : Program} {w : World} {W : Wd} {mg : Str → Option Value} {base : Heap} {x qual : Str} {s : Stmt} {f : Addr} {fd : FuncData} {N ps : List Str} {k n q : Nat} {b : SV} (F : Fun W.K x qual s f fd) (S : FnScope N ps (defScope s)) (hn : ps.length = n) (hq : N.length = q)
    (hbody : ∀ (cdv : Value) (A : Around) (outer : List PySem.Env) (sh : Shared) (H : Hp) (E : XK), Room k (A.deeper (PyProof.Rows.envOfC qual (defScope s) sh.heap.objs.size f cdv)) →
      DB W (cxOf (L2.CX P w) P w W.K mg base N qual (defScope s) f cdv A outer sh H E) E (defBody s) b) : FnOk P w W.K mg base (L2.CX P w) (k + 1) f fd ps (spD W n (funD q b)) := by
  subst hq
  exact fnD F S hn hbody
/-- the law's promise: from a script that the caller holds -/
def spLaw (n : Nat) : Sp := fun vs H Q _ => ∃ (a : Addr) (o : Obj) (ns : List Int), vs = [.ref a] ∧ H a = some (.frz o (.lst (ns.map V.int))) ∧ ns.length ≤ n ∧ ∀ H', Q (.bl true) H'
theorem law_of {P : Program} {w : World} {W : Wd} {mg : Str → Option Value} {base : Heap} {k n : Nat} {g : FV} {f : Addr} {fd : FuncData} {ps : List Str} (F : FnOk P w W.K mg base (L2.CX P w) k f fd ps (spD W 1 g))
    (h : ∀ ns : List Int, ns.length ≤ n → ∃ st, g [.scr ns] [] = .ok (.bl true, st)) : FnOk P w W.K mg base (L2.CX P w) k f fd ps (spLaw n) := by
  refine F.imp fun vs H Q E ⟨a, o, ns, e, hH, hl, hQ⟩ => ?_
  subst e
  obtain ⟨st, hst⟩ := h ns hl
  refine ⟨fun _ => none, H, [], [], [.scr ns], ⟨fun _ _ z => z, fun _ _ z => (by cases z), fun _ _ => rfl, rfl, List.nodup_nil, fun _ m => (by cases m), fun i a o e1 _ => (by simp at e1)⟩, .cons (.scr hH) .nil, rfl, ?_⟩
  rw [hst]
  intro F' H' r' v s x h1 k
  cases k
  exact hQ _
/-- no object of the written part is a list -/
def noList (K : PySem.W.Frag) : Prop := ∀ a o, K.lookup a = some o → o.cls ≠ .type "list"
theorem mem_of_look {A B : Type} [BEq A] [LawfulBEq A] {a : A} {b : B} : ∀ {l : List (A × B)}, l.lookup a = some b → (a, b) ∈ l
  | [], e => by simp at e
  | (x, y) :: l, e => by
    rw [List.lookup_cons] at e
    cases h : a == x with
    | true => rw [h] at e; cases e; rw [eq_of_beq h]; exact List.mem_cons_self
    | false => rw [h] at e; exact List.mem_cons_of_mem _ (mem_of_look e)
def noListB (K : PySem.W.Frag) : Bool := K.all fun p => match p.2.cls with
  | .type s => !(s == "list")
  | _ => true
theorem noList_of {K : PySem.W.Frag} (h : noListB K = true) : noList K := fun a o e z => by
  have m : (a, o) ∈ K := by
    exact mem_of_look e
  have q := List.all_eq_true.mp h _ m
  simp only at q
  rw [z] at q
  revert q
  decide +kernel
theorem law_walk {l : PySem.W.OpenLaw} {n k : Nat} {q : Program} {loose : List Str} {XP : (Str → Option Value) → Heap → Prop} {YP : World → Heap → Prop} {d : DefRec} {K : Params → PySem.W.Frag} {x : Str} (hn : l.most = some n) (hn2 : n ≤ sizeLine) (hdf : d.params.defaults = []) (hr : Room k callerA)
    (hL : ∀ w : World, noList (K w.params))
    (hY : ∀ (w : World) (h : Heap), YP w h → (K w.params).In h)
    (F : ∀ (w : World) (mg : Str → Option Value) (fa : Addr) (h : Heap), (K w.params).In h → h.Ns mainGlobals mg → mg d.name = some (.ref fa) →
      ∃ fd : FuncData, (∀ (s : Shared) (u : Value), BindsTo s fd ⟨[u], []⟩ [(x, u)]) ∧ ∀ base : Heap, (K w.params).In base → base.Ns mainGlobals mg → FnOk l.prog w (K w.params) mg base (L2.CX l.prog w) k fa fd [x] (spLaw n)) :
    PySem.W.WalkO q loose XP YP l.row.toRowW d [] (fun f vs => PySem.call f vs) :=
  L2.walk_of (n := n) (k := k) (x := x) (CX := fun w => L2.CX l.prog w) (sp := fun _ => spLaw n) hn hn2 hdf hr hY F (fun w H a ns hl hO hS => by
    rcases hS with hS | ⟨o, its, m, h1, h2, _⟩
    · rcases hS with hS | ⟨o, hS⟩
      · rcases hO a with z | ⟨o, xs, z⟩
        · rw [hS] at z; cases z
        · rw [hS] at z; cases z
      · exact ⟨a, o, ns, rfl, hS, hl, fun _ => rfl⟩
    · exact absurd h2 (hL w a o h1)) fun _ _ _ _ _ ⟨_, _, _, _, _, _, _, _, _, _, _, _, z⟩ => z
end Dl
/-! ## B0 -/
/-! Plain data, equality, loops. -/
namespace Dl
open PySem L2

mutual
def D.toQ : D → PyData
  | .non => .none
  | .bl b => .bool b
  | .int i => .int i
  | .str s => .str ⟨s.toArray⟩
  | .tup ds => .tuple (D.toQs ds)
  | .lst ds => .list (D.toQs ds)
  | .ref _ => .none
  | .scr _ => .none
def D.toQs : List D → List PyData
  | [] => []
  | d :: ds => D.toQ d :: D.toQs ds
end
mutual
/-- no reference, no truth value -/
def D.pl : D → Bool
  | .bl _ => false
  | .tup ds => D.pls ds
  | .lst ds => D.pls ds
  | .ref _ => false
  | .scr _ => false
  | _ => true
def D.pls : List D → Bool
  | [] => true
  | d :: ds => D.pl d && D.pls ds
end
mutual
def D.dp : D → Nat
  | .tup ds => D.dps ds + 1
  | .lst ds => D.dps ds + 1
  | _ => 1
def D.dps : List D → Nat
  | [] => 0
  | d :: ds => max (D.dp d) (D.dps ds)
end
theorem pls_iff : ∀ {ds : List D}, D.pls ds = true ↔ ∀ d ∈ ds, D.pl d = true
  | [] => by simp [D.pls]
  | d :: ds => by simp [D.pls, pls_iff (ds := ds)]
theorem dps_le {n : Nat} : ∀ {ds : List D}, D.dps ds ≤ n ↔ ∀ d ∈ ds, D.dp d ≤ n
  | [] => by simp [D.dps]
  | d :: ds => by simp [D.dps, Nat.max_le, dps_le (ds := ds)]
mutual
theorem toP_pl {st : Store} : ∀ (n : Nat) (d : D), D.pl d = true → D.dp d ≤ n → toP st n d = some (D.toQ d)
  | 0, d, _, h => by cases d <;> simp [D.dp] at h
  | n + 1, .non, _, _ => rfl
  | n + 1, .bl _, h, _ => by simp [D.pl] at h
  | n + 1, .int _, _, _ => rfl
  | n + 1, .str _, _, _ => rfl
  | n + 1, .tup ds, h, k => by
    rw [D.pl] at h
    rw [D.dp] at k
    rw [toP]
    simp only [toPs_pl n ds h (by omega), D.toQ]
  | n + 1, .lst ds, h, k => by
    rw [D.pl] at h
    rw [D.dp] at k
    rw [toP]
    simp only [toPs_pl n ds h (by omega), D.toQ]
  | n + 1, .ref _, h, _ => by simp [D.pl] at h
  | n + 1, .scr _, h, _ => by simp [D.pl] at h
theorem toPs_pl {st : Store} : ∀ (n : Nat) (ds : List D), D.pls ds = true → D.dps ds ≤ n → optAll (ds.map (toP st n)) = some (D.toQs ds)
  | n, [], _, _ => by simp [optAll, D.toQs]
  | n, d :: ds, h, k => by
    simp only [D.pls, Bool.and_eq_true] at h
    simp only [D.dps, Nat.max_le] at k
    rw [List.map_cons, toP_pl n d h.1 k.1, optAll, toPs_pl n ds h.2 k.2]
    simp only [D.toQs]
end
mutual
theorem eqv_pl : ∀ (d e : D), D.pl d = true → D.pl e = true → PyData.eqv d.toQ e.toQ = D.beq d e
  | .non, e, _, h => by cases e <;> simp_all [D.toQ, PyData.eqv, D.beq, D.pl]
  | .bl _, e, h, _ => by simp [D.pl] at h
  | .int _, e, _, h => by cases e <;> simp_all [D.toQ, PyData.eqv, D.beq, D.pl]
  | .str s, e, _, h => by
    cases e with
    | str t => simp only [D.toQ, PyData.eqv, D.beq, str_beq]
    | _ => simp_all [D.toQ, PyData.eqv, D.beq, D.pl]
  | .tup ds, e, h1, h => by
    cases e with
    | tup es =>
      simp only [D.pl] at h1 h
      simp only [D.toQ, PyData.eqv, D.beq]
      exact eqvs_pl ds es h1 h
    | _ => simp_all [D.toQ, PyData.eqv, D.beq, D.pl]
  | .lst ds, e, h1, h => by
    cases e with
    | lst es =>
      simp only [D.pl] at h1 h
      simp only [D.toQ, PyData.eqv, D.beq]
      exact eqvs_pl ds es h1 h
    | _ => simp_all [D.toQ, PyData.eqv, D.beq, D.pl]
  | .ref _, e, h, _ => by simp [D.pl] at h
  | .scr _, e, h, _ => by simp [D.pl] at h
theorem eqvs_pl : ∀ (ds es : List D), D.pls ds = true → D.pls es = true → PyData.eqvAll (D.toQs ds) (D.toQs es) = D.beqs ds es
  | [], [], _, _ => by simp only [D.toQs, PyData.eqvAll, D.beqs]
  | [], e :: es, _, _ => by simp only [D.toQs, PyData.eqvAll, D.beqs]
  | d :: ds, [], _, _ => by simp only [D.toQs, PyData.eqvAll, D.beqs]
  | d :: ds, e :: es, h1, h2 => by
    simp only [D.pls, Bool.and_eq_true] at h1 h2
    simp only [D.toQs, PyData.eqvAll, D.beqs]
    rw [eqv_pl d e h1.1 h2.1, eqvs_pl ds es h1.2 h2.2]
end
instance : DecidableEq D := fun d e => if h : D.beq d e = true then isTrue (D.eq_of_beq d e h) else isFalse fun z => h (z ▸ D.beq_refl d)
theorem beq_dec (d e : D) : D.beq d e = decide (d = e) := by
  by_cases h : d = e
  · subst h; simp [D.beq_refl]
  · simp only [h, decide_false]
    cases q : D.beq d e with
    | true => exact absurd (D.eq_of_beq d e q) h
    | false => rfl
/-- equality of plain data -/
theorem eqG_pl {neg : Bool} {st : Store} {d e : D} (h1 : D.pl d = true) (h2 : D.pl e = true) (k1 : D.dp d ≤ 40) (k2 : D.dp e ≤ 40) : eqG neg st d e = .ok (.bl (if neg = true then !decide (d = e) else decide (d = e)), st) := by
  unfold eqG
  rw [toP_pl 40 d h1 k1, toP_pl 40 e h2 k2]
  simp only [eqv_pl d e h1 h2, beq_dec]
theorem toP_ref {n k : Nat} {st : Store} {ds : List D} (h : st[k]? = some (.lst ds)) : toP st (n + 1) (.ref k) = toP st (n + 1) (.lst ds) := by
  rw [toP, toP]
  simp only [h]
theorem eqG_refL {neg : Bool} {st : Store} {k : Nat} {ds : List D} {e : D} (h : st[k]? = some (.lst ds)) : eqG neg st (.ref k) e = eqG neg st (.lst ds) e := by
  unfold eqG; rw [toP_ref (n := 39) h]
theorem eqG_refR {neg : Bool} {st : Store} {k : Nat} {ds : List D} {e : D} (h : st[k]? = some (.lst ds)) : eqG neg st e (.ref k) = eqG neg st e (.lst ds) := by
  unfold eqG; rw [toP_ref (n := 39) h]
@[simp] theorem eqG_int {neg : Bool} {st : Store} (i j : Int) : eqG neg st (.int i) (.int j) = .ok (.bl (if neg = true then !decide (i = j) else decide (i = j)), st) := by
  rw [eqG_pl rfl rfl (by simp [D.dp]) (by simp [D.dp])]
  simp
@[simp] theorem eqG_str {neg : Bool} {st : Store} (i j : List Nat) : eqG neg st (.str i) (.str j) = .ok (.bl (if neg = true then !decide (i = j) else decide (i = j)), st) := by
  rw [eqG_pl rfl rfl (by simp [D.dp]) (by simp [D.dp])]
  simp
@[simp] theorem eqG_bl {neg : Bool} {st : Store} (i j : Bool) : eqG neg st (.bl i) (.bl j) = .ok (.bl (if neg = true then !(i == j) else (i == j)), st) := by
  unfold eqG
  simp [toP, PyData.eqv]
@[simp] theorem pl_int (i : Int) : D.pl (.int i) = true := rfl
@[simp] theorem pl_str (s : List Nat) : D.pl (.str s) = true := rfl
@[simp] theorem pl_non : D.pl .non = true := rfl
@[simp] theorem pl_tup (ds : List D) : D.pl (.tup ds) = D.pls ds := by rw [D.pl]
@[simp] theorem pl_lst (ds : List D) : D.pl (.lst ds) = D.pls ds := by rw [D.pl]
@[simp] theorem pls_nil : D.pls [] = true := rfl
@[simp] theorem pls_cons (d : D) (ds : List D) : D.pls (d :: ds) = (D.pl d && D.pls ds) := by rw [D.pls]
@[simp] theorem dp_int (i : Int) : D.dp (.int i) = 1 := rfl
@[simp] theorem dp_str (s : List Nat) : D.dp (.str s) = 1 := rfl
@[simp] theorem dp_non : D.dp .non = 1 := rfl
@[simp] theorem dp_tup (ds : List D) : D.dp (.tup ds) = D.dps ds + 1 := by rw [D.dp]
@[simp] theorem dp_lst (ds : List D) : D.dp (.lst ds) = D.dps ds + 1 := by rw [D.dp]
@[simp] theorem dps_nil : D.dps [] = 0 := rfl
@[simp] theorem dps_cons (d : D) (ds : List D) : D.dps (d :: ds) = max (D.dp d) (D.dps ds) := by rw [D.dps]
@[simp] theorem pls_strs (ss : List (List Nat)) : D.pls (ss.map D.str) = true := pls_iff.mpr fun d h => by
  obtain ⟨s, _, rfl⟩ := List.mem_map.mp h; rfl
@[simp] theorem pls_ints (ss : List Int) : D.pls (ss.map D.int) = true := pls_iff.mpr fun d h => by
  obtain ⟨s, _, rfl⟩ := List.mem_map.mp h; rfl
theorem dps_strs (ss : List (List Nat)) : D.dps (ss.map D.str) ≤ 1 := dps_le.mpr fun d h => by
  obtain ⟨s, _, rfl⟩ := List.mem_map.mp h; exact Nat.le_refl _
theorem dps_ints (ss : List Int) : D.dps (ss.map D.int) ≤ 1 := dps_le.mpr fun d h => by
  obtain ⟨s, _, rfl⟩ := List.mem_map.mp h; exact Nat.le_refl _

@[simp] theorem lim_0 : (0 ≤ LIM) = True := eq_true (le_LIM (by decide))
@[simp] theorem lim_1 : (1 ≤ LIM) = True := eq_true (le_LIM (by decide))
@[simp] theorem lim_2 : (2 ≤ LIM) = True := eq_true (le_LIM (by decide))
@[simp] theorem lim_3 : (3 ≤ LIM) = True := eq_true (le_LIM (by decide))
@[simp] theorem lim_4 : (4 ≤ LIM) = True := eq_true (le_LIM (by decide))
@[simp] theorem lim_5 : (5 ≤ LIM) = True := eq_true (le_LIM (by decide))
@[simp] theorem lim_6 : (6 ≤ LIM) = True := eq_true (le_LIM (by decide))
@[simp] theorem lim_7 : (7 ≤ LIM) = True := eq_true (le_LIM (by decide))
@[simp] theorem lim_8 : (8 ≤ LIM) = True := eq_true (le_LIM (by decide))
@[simp] theorem lim_9 : (9 ≤ LIM) = True := eq_true (le_LIM (by decide))
@[simp] theorem lim_10 : (10 ≤ LIM) = True := eq_true (le_LIM (by decide))
@[simp] theorem lim_11 : (11 ≤ LIM) = True := eq_true (le_LIM (by decide))
@[simp] theorem lim_12 : (12 ≤ LIM) = True := eq_true (le_LIM (by decide))
@[simp] theorem lim_13 : (13 ≤ LIM) = True := eq_true (le_LIM (by decide))
@[simp] theorem lim_14 : (14 ≤ LIM) = True := eq_true (le_LIM (by decide))
@[simp] theorem lim_15 : (15 ≤ LIM) = True := eq_true (le_LIM (by decide))
@[simp] theorem wipe_nil (env : Env) : wipeD env [] = env := rfl
@[simp] theorem wipe_cons (env : Env) (v : Nat) (vs : List Nat) : wipeD env (v :: vs) = (wipeD env vs).set v none := rfl
@[simp] theorem intsD_len (lo : Int) (n : Nat) : (intsD lo n).length = n := by simp [intsD]
/-! ### running: only the first part of a sequence is looked into -/
@[simp ↓] theorem bind_m {A B : Type} (r : R A) (f : A → R B) : r.bind f = match r with
  | .ok a => f a
  | .exc c p st => .exc c p st
  | .bad => .bad := (rfl)
@[simp ↓] theorem sOf_m {A : Type} (r : R A) (f : A → SR) : sOf r f = match r with
  | .ok a => f a
  | .exc c p st => .exc c p st
  | .bad => .bad := (rfl)
/-- a turn's end that goes on -/
def SR.turn (r : SR) (J : Env → Store → Prop) : Prop := match r with
  | .nx e s => J e s
  | .ct e s => J e s
  | _ => False
@[simp] theorem turn_nx (e : Env) (s : Store) (J : Env → Store → Prop) : (SR.nx e s).turn J = J e s := rfl
@[simp] theorem turn_ct (e : Env) (s : Store) (J : Env → Store → Prop) : (SR.ct e s).turn J = J e s := rfl
theorem turn_ex {r : SR} {J : Env → Store → Prop} (h : r.turn J) : ∃ e s, (r = .nx e s ∨ r = .ct e s) ∧ J e s := by
  cases r with
  | nx e s => exact ⟨e, s, .inl rfl, h⟩
  | ct e s => exact ⟨e, s, .inr rfl, h⟩
  | _ => exact h.elim
theorem for_at {sub : List (Nat × List D)} {g : GV} {b : SV} {ds : List D} {env : Env} {st : Store} {r : SR} (hf : forGo sub g b ds env st = r) (I : Nat → Env → Store → Prop) (h0 : I 0 env st)
    (hst : ∀ i env st, i ≤ ds.length → I i env st → still sub st = true)
    (turn : ∀ i d env st, ds[i]? = some d → I i env st → (sOf (g d env st) fun a => b a.1 a.2).turn (I (i + 1))) : ∃ e s, r = .nx e s ∧ I ds.length e s := by
  subst hf
  refine for_inv I h0 hst fun i d env st hd hI => ?_
  have t := turn i d env st hd hI
  cases q : g d env st with
  | ok a =>
    obtain ⟨e1, s1⟩ := a
    rw [q] at t
    obtain ⟨e2, s2, t1, t2⟩ := turn_ex t
    exact ⟨e1, s1, e2, s2, rfl, t1, t2⟩
  | exc c p s => rw [q] at t; exact t.elim
  | bad => rw [q] at t; exact t.elim
/-- a turn's end: on, or out -/
def SR.turnE (r : SR) (J : Env → Store → Prop) (P : SR → Prop) : Prop := match r with
  | .nx e s => J e s
  | .ct e s => J e s
  | .bk e s => P (.nx e s)
  | .rt d s => P (.rt d s)
  | .exc c p s => P (.exc c p s)
  | .bad => False
@[simp] theorem turnE_nx (e : Env) (s : Store) (J : Env → Store → Prop) (P : SR → Prop) : (SR.nx e s).turnE J P = J e s := rfl
@[simp] theorem turnE_ct (e : Env) (s : Store) (J : Env → Store → Prop) (P : SR → Prop) : (SR.ct e s).turnE J P = J e s := rfl
@[simp] theorem turnE_bk (e : Env) (s : Store) (J : Env → Store → Prop) (P : SR → Prop) : (SR.bk e s).turnE J P = P (.nx e s) := rfl
@[simp] theorem turnE_rt (d : D) (s : Store) (J : Env → Store → Prop) (P : SR → Prop) : (SR.rt d s).turnE J P = P (.rt d s) := rfl
@[simp] theorem turnE_exc (c : Nat) (p : Option D) (s : Store) (J : Env → Store → Prop) (P : SR → Prop) : (SR.exc c p s).turnE J P = P (.exc c p s) := rfl
theorem for_atE {sub : List (Nat × List D)} {g : GV} {b : SV} {ds : List D} {env : Env} {st : Store} {r : SR} (hf : forGo sub g b ds env st = r) (I : Nat → Env → Store → Prop) (P : SR → Prop) (h0 : I 0 env st)
    (hst : ∀ i env st, i ≤ ds.length → I i env st → still sub st = true)
    (turn : ∀ i d env st, ds[i]? = some d → I i env st → ∃ e1 s1, g d env st = .ok (e1, s1) ∧ (b e1 s1).turnE (I (i + 1)) P)
    (done : ∀ e s, I ds.length e s → P (.nx e s)) : P r := by
  subst hf
  refine for_inv_end I P h0 hst (fun i d env st hd hI => ?_) done
  obtain ⟨e1, s1, q, t⟩ := turn i d env st hd hI
  refine ⟨e1, s1, q, ?_⟩
  cases w : b e1 s1 with
  | nx e s => rw [w] at t; exact .inl ⟨e, s, .inl rfl, t⟩
  | ct e s => rw [w] at t; exact .inl ⟨e, s, .inr rfl, t⟩
  | bk e s => rw [w] at t; exact .inr (.inl ⟨e, s, rfl, t⟩)
  | rt d s => rw [w] at t; exact .inr (.inr (.inl ⟨d, s, rfl, t⟩))
  | exc c p s => rw [w] at t; exact .inr (.inr (.inr ⟨c, p, s, rfl, t⟩))
  | bad => rw [w] at t; exact t.elim
/-- the value of an expression, with what is so behind it -/
def R.to {A : Type} (r : R (A × Store)) (J : A → Store → Prop) : Prop := match r with
  | .ok a => J a.1 a.2
  | _ => False
@[simp] theorem to_ok {A : Type} (a : A × Store) (J : A → Store → Prop) : (R.ok a).to J = J a.1 a.2 := rfl
theorem lc_at {sub : List (Nat × List D)} {t : Tg1} {tt : TV} {te : EV} {env : Env} {ds : List D} {st : Store} {r : R (List D × Store)} (hf : lcGo sub t tt te env ds [] st = r) (I : Nat → List D → Store → Prop) (h0 : I 0 [] st)
    (hst : ∀ i acc st, i ≤ ds.length → I i acc st → still sub st = true)
    (turn : ∀ i d acc st, ds[i]? = some d → I i acc st → ∃ env1, t.put d env = some env1 ∧ (tt env1 st).to fun b st1 => if b = true then (te env1 st1).to fun y st2 => I (i + 1) (acc ++ [y]) st2 else I (i + 1) acc st1) :
    ∃ acc s, r = .ok (acc, s) ∧ I ds.length acc s := by
  subst hf
  have gen : ∀ (es : List D) (i : Nat) (acc : List D) (st : Store), i + es.length = ds.length → ds.drop i = es → I i acc st → ∃ acc' s, lcGo sub t tt te env es acc st = .ok (acc', s) ∧ I ds.length acc' s := by
    intro es
    induction es with
    | nil =>
      intro i acc st hl hd hI
      have : i = ds.length := by simpa using hl
      exact ⟨acc, st, lcGo_nil (hst i acc st (by omega) hI), this ▸ hI⟩
    | cons d es ih =>
      intro i acc st hl hd hI
      have hi : ds[i]? = some d := by
        have := congrArg (fun l => l[0]?) hd
        simpa using this
      have hd' : ds.drop (i + 1) = es := by
        have : ds.drop (i + 1) = (ds.drop i).drop 1 := by rw [List.drop_drop]
        rw [this, hd]; rfl
      have hl' : i + 1 + es.length = ds.length := by simp at hl; omega
      obtain ⟨env1, p1, p2⟩ := turn i d acc st hi hI
      rw [lcGo_cons (hst i acc st (by simp at hl; omega) hI), p1]
      show ∃ acc' s, ((noX (tt env1 st)).bind fun b => if b.1 = true then (noX (te env1 b.2)).bind fun y => lcGo sub t tt te env es (acc ++ [y.1]) y.2 else lcGo sub t tt te env es acc b.2) = .ok (acc', s) ∧ I ds.length acc' s
      cases q : tt env1 st with
      | ok b =>
        obtain ⟨b, st1⟩ := b
        rw [q] at p2
        simp only [to_ok] at p2
        simp only [noX_ok, R.bind_ok]
        cases b with
        | true =>
          simp only [if_true] at p2 ⊢
          cases q2 : te env1 st1 with
          | ok y =>
            rw [q2] at p2
            simp only [noX_ok, R.bind_ok]
            exact ih _ _ _ hl' hd' p2
          | exc c p s => rw [q2] at p2; exact p2.elim
          | bad => rw [q2] at p2; exact p2.elim
        | false => exact ih _ _ _ hl' hd' p2
      | exc c p s => rw [q] at p2; exact p2.elim
      | bad => rw [q] at p2; exact p2.elim
  exact gen ds 0 [] st (by simp) (by simp) h0
end Dl
/-! ## D1 -/
/-! The meanings of some defs (printed by pick.py). -/
namespace Dl
open PySem L2
/-- is_sign: 1 slots, 1 parameters -/
def d_is_sign : SV := sRet (eAnd (eChain leG leG (eC (.str [32])) (eV 0) (eC (.str [126]))) (eOp (eqG true) (eB ordG (aCons (eV 0) (aNil))) (eC (.int 37))))
/-- is_cell: 2 slots, 1 parameters -/
def d_is_cell (m_is_sign : FV) : SV := sCons (sIf (tOrD (tNotD (tv (eIs "str" (eV 0)))) (tv (eOp gtG (eB lenG (aCons (eV 0) (aNil))) (eC (.int 10))))) (sRet (eC (.bl false))) (sNext)) (sRet (eOp (eqG false) (eLc false (iSeq (eV 0)) [1] (.one 1) (tNotD (tv (eCall 1 m_is_sign (aCons (eV 1) (aNil))))) (eV 1)) (eLst false (aNil))))
/-- is_row: 2 slots, 1 parameters -/
def d_is_row (m_is_cell : FV) : SV := sCons (sIf (tOrD (tNotD (tv (eIs "tuple" (eV 0)))) (tNotD (tv (eChain leG leG (eC (.int 1)) (eB lenG (aCons (eV 0) (aNil))) (eC (.int 6)))))) (sRet (eC (.bl false))) (sNext)) (sRet (eOp (eqG false) (eLc false (iSeq (eV 0)) [1] (.one 1) (tNotD (tv (eCall 1 m_is_cell (aCons (eV 1) (aNil))))) (eV 1)) (eLst false (aNil))))
/-- need_page: 3 slots, 1 parameters -/
def d_need_page (m_is_row : FV) : SV := sCons (sIf (tOrD (tNotD (tv (eIs "list" (eV 0)))) (tv (eOp (eqG false) (eV 0) (eLst false (aNil))))) (sBad) (sNext)) (sFor (iEn (aCons (eV 0) (aNil))) (gTp 2 (gsCons (gN 1) (gsCons (gN 2) (gsNil)))) (sIf (tOrD (tv (eOp geG (eV 1) (eC (.int 30)))) (tNotD (tv (eCall 1 m_is_row (aCons (eV 2) (aNil)))))) (sBad) (sNext)))
/-- written: 2 slots, 1 parameters -/
def d_written (m_need_page : FV) : SV := sCons (sExpr (eCall 1 m_need_page (aCons (eV 0) (aNil)))) (sRet (eMt "str" (joinG) (eC (.str [10])) (aCons (eLc false (iSeq (eV 0)) [1] (.one 1) (tYesD) (eMt "str" (joinG) (eC (.str [9])) (aCons (eB (listG false) (aCons (eV 1) (aNil))) (aNil)))) (aNil))))
/-- read: 5 slots, 1 parameters -/
def d_read (m_is_row : FV) : SV := sCons (sAsg (eLst true (aNil)) (gN 1)) (sCons (sFor (iEn (aCons (eMt "str" (splitG false) (eV 0) (aCons (eC (.str [10])) (aNil))) (aNil))) (gTp 2 (gsCons (gN 2) (gsCons (gN 3) (gsNil)))) (sCons (sAsg (eB tupG (aCons (eMt "str" (splitG false) (eV 3) (aCons (eC (.str [9])) (aNil))) (aNil))) (gN 4)) (sCons (sIf (tOrD (tv (eOp geG (eV 2) (eC (.int 30)))) (tNotD (tv (eCall 1 m_is_row (aCons (eV 4) (aNil)))))) (sBad) (sNext)) (sExpr (eMt "list" (appendG) (eV 1) (aCons (eV 4) (aNil))))))) (sRet (eV 1)))
/-- law_begun: 3 slots, 1 parameters -/
def d_law_begun : SV := sCons (sAsg (eC (.int 0)) (gN 1)) (sCons (sFor (iSeq (eV 0)) (gN 2) (sAsg (eOp modG (eOp (addG true) (eOp (addG true) (eOp (mulG true) (eV 1) (eC (.int 48271))) (eOp (mulG true) (eV 2) (eC (.int 69621)))) (eC (.int 11))) (eC (.int 2147483647))) (gN 1))) (sRet (eLst true (aCons (eB (listG true) (aCons (eV 0) (aNil))) (aCons (eOp (mulG true) (eV 1) (eB intG (aCons (eOp gtG (eB lenG (aCons (eV 0) (aNil))) (eC (.int 2))) (aNil)))) (aNil))))))
/-- law_take: 3 slots, 2 parameters -/
def d_law_take : SV := sCons (sIf (tv (eOp (eqG false) (eOp ixG (eV 0) (eC (.int 0))) (eLst false (aNil)))) (sCons (sAsg (eOp modG (eOp (mulG false) (eOp ixG (eV 0) (eC (.int 1))) (eC (.int 48271))) (eC (.int 2147483647))) (gSb (eV 0) (eC (.int 1)) setLG)) (sRet (eOp modG (eOp divG (eOp ixG (eV 0) (eC (.int 1))) (eC (.int 7))) (eV 1)))) (sNext)) (sCons (sAsg (eOp ixG (eOp ixG (eV 0) (eC (.int 0))) (eC (.int 0))) (gN 2)) (sCons (sAsg (eOp divG (eV 2) (eV 1)) (gSb (eOp ixG (eV 0) (eC (.int 0))) (eC (.int 0)) setLG)) (sCons (sIf (tOrD (tv (eOp (eqG false) (eOp ixG (eOp ixG (eV 0) (eC (.int 0))) (eC (.int 0))) (eC (.int 0)))) (tv (eOp (eqG false) (eOp ixG (eOp ixG (eV 0) (eC (.int 0))) (eC (.int 0))) (eNeg (eC (.int 1)))))) (sExpr (eMt "list" (popG) (eOp ixG (eV 0) (eC (.int 0))) (aCons (eC (.int 0)) (aNil)))) (sNext)) (sRet (eOp modG (eV 2) (eV 1))))))
/-- law_alike: 3 slots, 2 parameters -/
def d_law_alike (rec_ : FV) : SV := sCons (sIf (tv (eOp (isG false) (eV 1) (eC .non))) (sRet (eOp (isG false) (eV 0) (eC .non))) (sNext)) (sCons (sIf (tv (eIs "bool" (eV 1))) (sRet (eAnd (eIs "bool" (eV 0)) (eOp (eqG false) (eV 0) (eV 1)))) (sNext)) (sCons (sIf (tv (eIs "int" (eV 1))) (sRet (eAnd (eIs "int" (eV 0)) (eAnd (eNot (eIs "bool" (eV 0))) (eOp (eqG false) (eV 0) (eV 1))))) (sNext)) (sCons (sIf (tv (eIs "str" (eV 1))) (sRet (eAnd (eIs "str" (eV 0)) (eOp (eqG false) (eV 0) (eV 1)))) (sNext)) (sCons (sIf (tOrD (tv (eOp (eqG true) (eIs "tuple" (eV 1)) (eIs "tuple" (eV 0)))) (tv (eOp (eqG true) (eIs "list" (eV 1)) (eIs "list" (eV 0))))) (sRet (eC (.bl false))) (sNext)) (sCons (sIf (tv (eOp (eqG true) (eB lenG (aCons (eV 0) (aNil))) (eB lenG (aCons (eV 1) (aNil))))) (sRet (eC (.bl false))) (sNext)) (sCons (sFor (iR1 (aCons (eB lenG (aCons (eV 1) (aNil))) (aNil))) (gN 2) (sIf (tNotD (tv (eCall 2 rec_ (aCons (eOp ixG (eV 0) (eV 2)) (aCons (eOp ixG (eV 1) (eV 2)) (aNil)))))) (sRet (eC (.bl false))) (sNext))) (sRet (eC (.bl true)))))))))
/-- law_sign: 2 slots, 1 parameters -/
def d_law_sign (m_law_take : FV) : SV := sCons (sAsg (eC (.str [32, 33, 34, 35, 36, 38, 39, 40, 41, 42, 43, 44, 45, 46, 47, 48, 49, 50, 51, 52, 53, 54, 55, 56, 57, 58, 59, 60, 61, 62, 63, 64, 65, 66, 67, 68, 69, 70, 71, 72, 73, 74, 75, 76, 77, 78, 79, 80, 81, 82, 83, 84, 85, 86, 87, 88, 89, 90, 91, 92, 93, 94, 95, 96, 97, 98, 99, 100, 101, 102, 103, 104, 105, 106, 107, 108, 109, 110, 111, 112, 113, 114, 115, 116, 117, 118, 119, 120, 121, 122, 123, 124, 125, 126])) (gN 1)) (sRet (eOp ixG (eV 1) (eCall 2 m_law_take (aCons (eV 0) (aCons (eC (.int 94)) (aNil))))))
/-- law_cell: 6 slots, 2 parameters -/
def d_law_cell (m_law_take : FV) (m_law_sign : FV) : SV := sCons (sAsg (eCall 2 m_law_take (aCons (eV 0) (aCons (eC (.int 9)) (aNil)))) (gN 2)) (sCons (sIf (tv (eOp (eqG false) (eV 2) (eC (.int 0)))) (sRet (eC (.str []))) (sNext)) (sCons (sIf (tOrD (tv (eOp (eqG false) (eV 2) (eC (.int 1)))) (tAndD (tv (eOp (eqG false) (eV 1) (eC (.int 0)))) (tv (eOp ltG (eV 2) (eC (.int 7)))))) (sRet (eOp (addG false) (eOp ixG (eLst false (aCons (eC (.str [])) (aCons (eC (.str [45])) (aNil)))) (eOp divG (eCall 2 m_law_take (aCons (eV 0) (aCons (eC (.int 3)) (aNil)))) (eC (.int 2)))) (eB strG (aCons (eCall 2 m_law_take (aCons (eV 0) (aCons (eOp ixG (eLst false (aCons (eC (.int 10)) (aCons (eC (.int 1000)) (aCons (eOp powG (eC (.int 10)) (eC (.int 9))) (aNil))))) (eCall 2 m_law_take (aCons (eV 0) (aCons (eC (.int 3)) (aNil))))) (aNil)))) (aNil))))) (sNext)) (sCons (sIf (tv (eOp (eqG false) (eV 2) (eC (.int 2)))) (sCons (sAsg (eLst false (aCons (eC (.str [45])) (aCons (eC (.str [45, 45, 49])) (aCons (eC (.str [49, 45])) (aCons (eC (.str [48, 120])) (aCons (eC (.str [32, 49])) (aCons (eC (.str [49, 32])) (aCons (eC (.str [45, 48])) (aCons (eC (.str [48, 48, 55])) (aCons (eC (.str [32])) (aCons (eC (.str [32, 32, 32])) (aCons (eC (.str [49, 50, 51, 52, 53, 54, 55, 120])) (aCons (eC (.str [49, 50, 51, 52, 53, 54, 55, 56, 45])) (aCons (eC (.str [45, 48, 48, 48, 48, 48, 48, 48, 32, 49])) (aNil))))))))))))))) (gN 3)) (sRet (eOp ixG (eV 3) (eCall 2 m_law_take (aCons (eV 0) (aCons (eC (.int 13)) (aNil))))))) (sNext)) (sCons (sAsg (eOp (addG false) (eC (.int 1)) (eCall 2 m_law_take (aCons (eV 0) (aCons (eOp ixG (eLst false (aCons (eC (.int 3)) (aCons (eC (.int 10)) (aNil)))) (eCall 2 m_law_take (aCons (eV 0) (aCons (eC (.int 2)) (aNil))))) (aNil))))) (gN 4)) (sCons (sIf (tv (eOp ltG (eV 2) (eC (.int 6)))) (sRet (eMt "str" (joinG) (eC (.str [])) (aCons (eLc false (iR1 (aCons (eV 4) (aNil))) [5] (.one 5) (tYesD) (eOp ixG (eC (.str [97, 98, 99, 100, 101, 102, 103, 104, 105, 106])) (eCall 2 m_law_take (aCons (eV 0) (aCons (eC (.int 10)) (aNil)))))) (aNil)))) (sNext)) (sRet (eMt "str" (joinG) (eC (.str [])) (aCons (eLc false (iR1 (aCons (eV 4) (aNil))) [5] (.one 5) (tYesD) (eCall 1 m_law_sign (aCons (eV 0) (aNil)))) (aNil)))))))))
/-- law_row: 4 slots, 3 parameters -/
def d_law_row (m_law_cell : FV) : SV := sRet (eB tupG (aCons (eLc false (iR1 (aCons (eV 2) (aNil))) [3] (.one 3) (tYesD) (eCall 2 m_law_cell (aCons (eV 0) (aCons (eOp ixG (eV 1) (eV 3)) (aNil))))) (aNil)))
/-- law_page: 8 slots, 2 parameters -/
def d_law_page (m_law_take : FV) (m_law_row : FV) : SV := sCons (sAsg (eLc false (iR1 (aCons (eC (.int 6)) (aNil))) [7] (.one 7) (tYesD) (eCall 2 m_law_take (aCons (eV 0) (aCons (eC (.int 2)) (aNil))))) (gN 2)) (sCons (sPar 3 4 (aCons (eOp (addG false) (eC (.int 1)) (eCall 2 m_law_take (aCons (eV 0) (aCons (eC (.int 6)) (aNil))))) (aCons (eLst true (aNil)) (aNil)))) (sCons (sFor (iR1 (aCons (eOp (addG false) (eC (.int 1)) (eCall 2 m_law_take (aCons (eV 0) (aCons (eV 1) (aNil))))) (aNil))) (gN 5) (sCons (sAsg (eCall 2 m_law_take (aCons (eV 0) (aCons (eC (.int 8)) (aNil)))) (gN 6)) (sCons (sAsg (eOp ixG (eLst false (aCons (eOp (addG false) (eC (.int 1)) (eCall 2 m_law_take (aCons (eV 0) (aCons (eC (.int 6)) (aNil))))) (aCons (eB maxG (aCons (eC (.int 1)) (aCons (eOp subG (eV 3) (eC (.int 1))) (aNil)))) (aCons (eB minG (aCons (eC (.int 6)) (aCons (eOp (addG false) (eV 3) (eC (.int 1))) (aNil)))) (aCons (eV 3) (aNil)))))) (eB minG (aCons (eV 6) (aCons (eC (.int 3)) (aNil))))) (gN 3)) (sCons (sExpr (eMt "list" (appendG) (eV 4) (aCons (eCall 3 m_law_row (aCons (eV 0) (aCons (eV 2) (aCons (eV 3) (aNil))))) (aNil)))) (sIf (tv (eOp (eqG false) (eV 6) (eC (.int 7)))) (sCons (sAsg (eOp ixG (eV 4) (eCall 2 m_law_take (aCons (eV 0) (aCons (eB lenG (aCons (eV 4) (aNil))) (aNil))))) (gSb (eV 4) (eNeg (eC (.int 1))) setLG)) (sAsg (eB lenG (aCons (eOp ixG (eV 4) (eNeg (eC (.int 1)))) (aNil))) (gN 3))) (sNext)))))) (sRet (eV 4))))
/-- law_style: 2 slots, 1 parameters -/
def d_law_style (m_law_take : FV) : SV := sCons (sAsg (eOp ixG (eLst false (aCons (eCall 2 m_law_take (aCons (eV 0) (aCons (eC (.int 5)) (aNil)))) (aCons (eC (.int 1)) (aCons (eC (.int 2)) (aNil))))) (eCall 2 m_law_take (aCons (eV 0) (aCons (eC (.int 3)) (aNil))))) (gN 1)) (sRet (eTup (aCons (eV 1) (aCons (eOp ixG (eLst false (aCons (eC (.int 0)) (aCons (eCall 2 m_law_take (aCons (eV 0) (aCons (eC (.int 13)) (aNil)))) (aCons (eCall 2 m_law_take (aCons (eV 0) (aCons (eC (.int 13)) (aNil)))) (aNil))))) (eCall 2 m_law_take (aCons (eV 0) (aCons (eC (.int 3)) (aNil))))) (aNil)))))
/-- law_k25: 10 slots, 1 parameters -/
def d_law_k25 (m_law_begun : FV) (m_law_page : FV) (m_law_take : FV) (m_law_alike : FV) (m_written : FV) (m_read : FV) : SV := sCons (sAsg (eCall 1 m_law_begun (aCons (eV 0) (aNil))) (gN 1)) (sCons (sFor (iR1 (aCons (eC (.int 4)) (aNil))) (gN 2) (sCons (sAsg (eCall 2 m_law_page (aCons (eV 1) (aCons (eOp ixG (eLst false (aCons (eC (.int 4)) (aCons (eC (.int 12)) (aCons (eC (.int 30)) (aNil))))) (eCall 2 m_law_take (aCons (eV 1) (aCons (eC (.int 3)) (aNil))))) (aNil)))) (gN 3)) (sCons (sAsg (eC (.str [])) (gN 4)) (sCons (sFor (iR1 (aCons (eB lenG (aCons (eV 3) (aNil))) (aNil))) (gN 5) (sCons (sAsg (eOp (addG false) (eOp (addG false) (eV 4) (eOp (mulG false) (eC (.str [10])) (eB intG (aCons (eOp gtG (eV 5) (eC (.int 0))) (aNil))))) (eOp ixG (eOp ixG (eV 3) (eV 5)) (eC (.int 0)))) (gN 4)) (sFor (iSeq (eSl false (eOp ixG (eV 3) (eV 5)) (poSome (eC (.int 1))) (poNone))) (gN 6) (sAsg (eOp (addG false) (eOp (addG false) (eV 4) (eC (.str [9]))) (eV 6)) (gN 4))))) (sCons (sAsg (eB (listG false) (aCons (eV 3) (aNil))) (gN 7)) (sCons (sIf (tOrD (tNotD (tv (eCall 2 m_law_alike (aCons (eCall 1 m_written (aCons (eV 7) (aNil))) (aCons (eV 4) (aNil)))))) (tv (eOp (eqG true) (eV 7) (eV 3)))) (sRet (eC (.bl false))) (sNext)) (sCons (sFor (iR1 (aCons (eC (.int 2)) (aNil))) (gN 8) (sCons (sAsg (eCall 1 m_read (aCons (eV 4) (aNil))) (gN 9)) (sCons (sIf (tNotD (tv (eCall 2 m_law_alike (aCons (eV 9) (aCons (eV 3) (aNil)))))) (sRet (eC (.bl false))) (sNext)) (sExpr (eMt "list" (appendG) (eV 9) (aCons (eTup (aNil)) (aNil))))))) (sIf (tv (eOp (eqG true) (eCall 1 m_written (aCons (eCall 1 m_read (aCons (eV 4) (aNil))) (aNil))) (eV 4))) (sRet (eC (.bl false))) (sNext))))))))) (sRet (eAnd (eOp (eqG false) (eCall 1 m_read (aCons (eC (.str [])) (aNil))) (eLst false (aCons (eTup (aCons (eC (.str [])) (aNil))) (aNil)))) (eOp (eqG false) (eCall 1 m_written (aCons (eLst false (aCons (eTup (aCons (eC (.str [])) (aCons (eC (.str [])) (aNil)))) (aNil))) (aNil))) (eC (.str [9]))))))
end Dl
/-! ## B1 -/
/-! Pages: signs, cells, rows. -/
namespace Dl
open PySem L2

def okSign (c : Nat) : Bool := decide (32 ≤ c) && decide (c ≤ 126) && decide (c ≠ 37)
def okCell (s : List Nat) : Bool := decide (s.length ≤ 10) && s.all okSign
def okRow (r : List (List Nat)) : Bool := decide (1 ≤ r.length) && decide (r.length ≤ 6) && r.all okCell
abbrev Row := List (List Nat)
abbrev Page := List Row
def okPage (p : Page) : Bool := decide (1 ≤ p.length) && decide (p.length ≤ 30) && p.all okRow
def encR (r : Row) : D := .tup (r.map .str)
def encP (p : Page) : List D := p.map encR
@[simp] theorem encP_len (p : Page) : (encP p).length = p.length := by simp [encP]
@[simp] theorem pl_encR (r : Row) : D.pl (encR r) = true := by simp [encR]
@[simp] theorem pls_encP (p : Page) : D.pls (encP p) = true := pls_iff.mpr fun d h => by
  obtain ⟨s, _, rfl⟩ := List.mem_map.mp h; exact pl_encR s
theorem dp_encR (r : Row) : D.dp (encR r) ≤ 2 := by
  have := dps_strs r
  simp only [encR, dp_tup]; omega
theorem dps_encP (p : Page) : D.dps (encP p) ≤ 2 := dps_le.mpr fun d h => by
  obtain ⟨s, _, rfl⟩ := List.mem_map.mp h; exact dp_encR s
theorem str_inj : Function.Injective D.str := fun a b h => by cases h; rfl
theorem strs_inj {a b : List (List Nat)} (h : a.map D.str = b.map D.str) : a = b := (List.map_inj_right fun x y e => str_inj e).mp h
theorem encR_inj {a b : Row} (h : encR a = encR b) : a = b := strs_inj (by simpa [encR] using h)
theorem encP_inj {a b : Page} (h : encP a = encP b) : a = b := (List.map_inj_right fun x y e => encR_inj e).mp h
theorem ltc (a b : Nat) : ([a] < [b]) ↔ a < b := by
  rw [List.cons_lt_cons_iff]
  simp
def m_is_sign : FV := funD 1 d_is_sign
theorem is_sign_str (c : Nat) (st : Store) : m_is_sign [.str [c]] st = .ok (.bl (okSign c), st) := by
  unfold m_is_sign funD d_is_sign
  simp [leG, ordG, ltc]
  by_cases h1 : 32 ≤ c
  · by_cases h2 : c ≤ 126
    · simp [okSign, h1, h2, Nat.not_lt.mpr h1, Nat.not_lt.mpr h2]
      omega
    · simp [okSign, h1, h2, Nat.not_lt.mpr h1, Nat.lt_of_not_le h2]
  · simp [okSign, h1, Nat.lt_of_not_le h1]
theorem still_list {st : Store} {d : D} {w : Wk} (h : listOf st d = some w) : still w.2 st = true := by
  unfold listOf at h
  split at h
  · cases h; rfl
  · split at h
    · cases h; exact still_one ‹_›
    · cases h
  · cases h
theorem items_list {st : Store} {d : D} {w : Wk} (h : listOf st d = some w) : itemsOf st d = some w := by
  unfold listOf at h
  split at h
  · exact h
  · exact h
  · cases h
theorem lst_list {st : Store} {d : D} {w : Wk} (h : listOf st d = some w) : lstOf st d = some w.1 := by
  unfold listOf at h
  split at h
  · cases h; rfl
  · split at h
    · cases h
      rename_i e
      simp [lstOf, e]
    · cases h
  · cases h
theorem ty_list {st : Store} {d : D} {w : Wk} (h : listOf st d = some w) : tyOf st d = some "list" := by
  unfold listOf at h
  split at h
  · rfl
  · split at h
    · cases h
      rename_i e
      simp [tyOf, e]
    · cases h
  · cases h
theorem len_list {st : Store} {d : D} {w : Wk} (h : listOf st d = some w) : lenG st [d] = .ok (.int w.1.length, st) := by
  have e := lst_list h
  unfold listOf at h
  split at h
  · simp [lenG, e]
  · simp [lenG, e]
  · cases h
theorem eq_list {neg : Bool} {st : Store} {d e : D} {w : Wk} (h : listOf st d = some w) : eqG neg st d e = eqG neg st (.lst w.1) e := by
  unfold listOf at h
  split at h
  · cases h; rfl
  · split at h
    · cases h; exact eqG_refL ‹_›
    · cases h
  · cases h
/-- a comprehension that keeps what p likes -/
theorem lc_keep {sub : List (Nat × List D)} {j : Nat} {tt : TV} {env : Env} {st : Store} (hs : still sub st = true) (p : D → Bool) (ds : List D)
    (h : ∀ d ∈ ds, tt (env.set j (some d)) st = .ok (p d, st)) (hj : j < env.length) : lcGo sub (.one j) tt (eV j) env ds [] st = .ok (ds.filter p, st) := by
  have := lc_pure (t := .one j) (te := eV j) (env := env) (tt := tt) hs p (fun d => d) ds [] fun d hd => ⟨_, rfl, h d hd, fun _ => by simp [hj]⟩
  simpa using this
theorem eq_nilD {st : Store} {ds : List D} (h : D.pls ds = true) (k : D.dps ds ≤ 39) : eqG false st (.lst ds) (.lst []) = .ok (.bl (decide (ds = [])), st) := by
  rw [eqG_pl (by simpa using h) rfl (by simp; omega) (by simp)]
  simp
def m_is_cell : FV := funD 2 (d_is_cell m_is_sign)
theorem is_cell_str (s : List Nat) (st : Store) : m_is_cell [.str s] st = .ok (.bl (okCell s), st) := by
  unfold m_is_cell funD d_is_cell
  simp [tyOf, subTy, gtG, lenG, itemsOf]
  by_cases h : s.length ≤ 10
  · have h' : ¬ ((10 : Int) < s.length) := by omega
    simp only [h', if_false]
    have hl : s.length ≤ LIM := le_LIM (by omega)
    simp [hl, itemsOf]
    rw [lc_keep rfl (fun d => match d with | .str [c] => !okSign c | _ => true) _ (fun d hd => ?_) (by simp [wipeD])]
    · have e : (s.map fun c => D.str [c]).filter (fun d => match d with | .str [c] => !okSign c | _ => true) = ((s.filter fun c => !okSign c).map fun c => [c]).map D.str := by
        rw [List.filter_map, List.map_map]; rfl
      simp only [R.bind_ok, e]
      rw [eq_nilD (pls_strs _) (Nat.le_trans (dps_strs _) (by decide))]
      simp only [R.bind_ok, sOf_ok, List.map_eq_nil_iff]
      congr 3
      rw [okCell, decide_eq_true h, Bool.true_and, Bool.eq_iff_iff]
      simp [List.filter_eq_nil_iff]
    · obtain ⟨c, _, rfl⟩ := List.mem_map.mp hd
      simp [wipeD, is_sign_str]
  · have h' : (10 : Int) < s.length := by omega
    simp [h', h, okCell]
def m_is_row : FV := funD 2 (d_is_row m_is_cell)
theorem is_row_tup (r : Row) (st : Store) : m_is_row [encR r] st = .ok (.bl (okRow r), st) := by
  unfold m_is_row funD d_is_row encR
  simp [tyOf, subTy, leG, lenG, itemsOf]
  by_cases h : 1 ≤ r.length
  · have h1 : (1 : Int) ≤ r.length := by omega
    by_cases h2 : r.length ≤ 6
    · have h3 : (r.length : Int) ≤ 6 := by omega
      have hl : r.length ≤ LIM := le_LIM (by omega)
      simp [h1, h3, hl, itemsOf]
      rw [lc_keep rfl (fun d => match d with | .str c => !okCell c | _ => true) _ (fun d hd => ?_) (by simp [wipeD])]
      · have e : (r.map D.str).filter (fun d => match d with | .str c => !okCell c | _ => true) = (r.filter fun c => !okCell c).map D.str := by
          rw [List.filter_map]; rfl
        simp only [R.bind_ok, e]
        rw [eq_nilD (pls_strs _) (Nat.le_trans (dps_strs _) (by decide))]
        simp only [R.bind_ok, sOf_ok, List.map_eq_nil_iff]
        congr 3
        rw [okRow, decide_eq_true h, decide_eq_true h2, Bool.true_and, Bool.true_and, Bool.eq_iff_iff]
        simp [List.filter_eq_nil_iff]
      · obtain ⟨c, _, rfl⟩ := List.mem_map.mp hd
        simp [wipeD, is_cell_str]
    · have h3 : ¬ (r.length : Int) ≤ 6 := by omega
      simp [h1, h3, h2, okRow]
  · have h1 : ¬ (1 : Int) ≤ r.length := by omega
    simp [h1, h, okRow]
def m_need_page : FV := funD 3 (d_need_page m_is_row)
theorem need_page_ok {p : Page} {d : D} {w : List (Nat × List D)} {st : Store} (h : listOf st d = some (encP p, w)) (hp : okPage p = true) : m_need_page [d] st = .ok (.non, st) := by
  unfold m_need_page funD d_need_page
  simp only [okPage, Bool.and_eq_true, decide_eq_true_eq, List.all_eq_true] at hp
  obtain ⟨⟨h1, h2⟩, h3⟩ := hp
  have ne : encP p ≠ [] := fun z => by rw [← encP_len, z] at h1; simp at h1
  simp [ty_list h, subTy, eq_list h, eq_nilD (pls_encP p) (Nat.le_trans (dps_encP p) (by decide)), ne, h]
  generalize hf : forGo _ _ _ _ _ _ = r
  obtain ⟨e, s, rfl, rfl, e2⟩ := for_at hf (fun i env st' => st' = st ∧ ∃ a b, env = [some d, a, b]) ⟨rfl, _, _, rfl⟩ (fun i env st' _ hI => by rw [hI.1]; exact still_list h) (fun i x env st' hi hI => by
      obtain ⟨rfl, a, b, rfl⟩ := hI
      obtain ⟨y, hy, rfl⟩ := pairUp_at hi
      unfold encP at hy
      rw [List.getElem?_map] at hy
      cases q : p[i]? with
      | none => rw [q] at hy; cases hy
      | some r =>
        rw [q] at hy
        cases hy
        have hr := h3 r (List.mem_of_getElem? q)
        have hi := (List.getElem?_eq_some_iff.mp q).1
        have hi2 : ¬ (30 : Int) ≤ i := by omega
        simp [geG, hi2, is_row_tup, hr])
  rfl
end Dl
/-! ## B2 -/
/-! The script's box: what is taken from it. -/
namespace Dl
open PySem L2

/-- the box stands first in the store -/
structure Box where
  ns : List Int
  s : Int
def Bx (b : Box) (rest : Store) : Store := .lst (b.ns.map .int) :: .lst [.ref 0, .int b.s] :: rest
@[simp] theorem Bx_len (b : Box) (rest : Store) : (Bx b rest).length = rest.length + 2 := rfl
@[simp] theorem Bx_app (b : Box) (rest more : Store) : Bx b rest ++ more = Bx b (rest ++ more) := rfl
@[simp high] theorem Bx_get (b : Box) (rest : Store) (k : Nat) : (Bx b rest)[k + 2]? = rest[k]? := by simp [Bx]
@[simp] theorem Bx_set (b : Box) (rest : Store) (k : Nat) (o : Ob) : (Bx b rest).set (k + 2) o = Bx b (rest.set k o) := by simp [Bx]
/-- what is taken, and the box behind -/
def tk (b : Box) (n : Int) : Int × Box := match b.ns with
  | [] => (b.s * 48271 % 2147483647 / 7 % n, ⟨[], b.s * 48271 % 2147483647⟩)
  | x :: ns => (x % n, if x / n = 0 ∨ x / n = -1 then ⟨ns, b.s⟩ else ⟨x / n :: ns, b.s⟩)
theorem tk_lo (b : Box) {n : Int} (h : 0 < n) : 0 ≤ (tk b n).1 := by
  obtain ⟨ns, s⟩ := b
  cases ns <;> exact Int.emod_nonneg _ (by omega)
theorem tk_hi (b : Box) {n : Int} (h : 0 < n) : (tk b n).1 < n := by
  obtain ⟨ns, s⟩ := b
  cases ns <;> exact Int.emod_lt_of_pos _ h
@[simp] theorem atI_0 {A : Type} (a : A) (l : List A) : atI (a :: l) 0 = some a := by
  have : (0 : Int) < ↑(l.length + 1) := by omega
  simp [atI, ixN, this]
@[simp] theorem atI_1 {A : Type} (a b : A) (l : List A) : atI (a :: b :: l) 1 = some b := by
  have : (1 : Int) < (l.length : Int) + 1 + 1 := by omega
  simp [atI, ixN, this]
theorem atI_nat {A : Type} (l : List A) (i : Nat) : atI l (i : Int) = l[i]? := by
  by_cases h : i < l.length
  · have : (i : Int) < l.length := by omega
    simp [atI, ixN, h]
  · have : ¬ (i : Int) < l.length := by omega
    simp [atI, ixN, h]
theorem atI_int {A : Type} (l : List A) (i : Int) (h0 : 0 ≤ i) : atI l i = l[i.toNat]? := by
  have := atI_nat l i.toNat
  rwa [Int.toNat_of_nonneg h0] at this
theorem atI_last {A : Type} (l : List A) (a : A) : atI (l ++ [a]) (-1) = some a := by
  have h : -(((l ++ [a]).length : Nat) : Int) ≤ -1 := by simp; omega
  have h1 : ¬ (0 : Int) ≤ -1 := by decide
  simp only [atI, ixN, if_neg h1, if_pos h]
  have : (-1 + (((l ++ [a]).length : Nat) : Int)).toNat = l.length := by simp; omega
  rw [Option.bind_some, this]
  simp
theorem eq_intsR {st : Store} {k : Nat} {ns : List Int} (h : st[k]? = some (.lst (ns.map .int))) : eqG false st (.ref k) (.lst []) = .ok (.bl (decide (ns = [])), st) := by
  rw [eqG_refL h, eq_nilD (pls_ints _) (Nat.le_trans (dps_ints _) (by decide))]
  simp
def m_law_begun : FV := funD 3 d_law_begun
def m_law_take : FV := funD 3 d_law_take
theorem begun_ok (ns : List Int) : ∃ b, m_law_begun [.scr ns] [] = .ok (.ref 1, Bx b []) := by
  unfold m_law_begun funD d_law_begun
  simp [itemsOf]
  generalize hf : forGo _ _ _ _ _ _ = r
  obtain ⟨e, s, rfl, rfl, i, v, rfl⟩ := for_at hf (fun i env st' => st' = [] ∧ ∃ i v, env = [some (.scr ns), some (.int i), v]) ⟨rfl, 0, none, rfl⟩ (fun i env st' _ hI => rfl) (fun i x env st' hi hI => by
    obtain ⟨rfl, a, b, rfl⟩ := hI
    rw [List.getElem?_map] at hi
    cases q : ns[i]? with
    | none => rw [q] at hi; cases hi
    | some r =>
      rw [q] at hi
      cases hi
      simp [mulG, addG, modG])
  have h3 : ∀ b : Bool, -18446744073709551616 < (if b = true then (1 : Int) else 0) ∧ (if b = true then (1 : Int) else 0) < 18446744073709551616 := fun b => by cases b <;> decide
  simp [listG, lenG, gtG, intG, mulG, newL]
  by_cases hb : (2 : Int) < ns.length
  · exact ⟨⟨ns, _⟩, by simp [hb, Bx]; rfl⟩
  · exact ⟨⟨ns, _⟩, by simp [hb, Bx]; rfl⟩
theorem take_eq (b : Box) (rest : Store) (n : Int) (h : 0 < n) (hn : n < 18446744073709551616) : m_law_take [.ref 1, .int n] (Bx b rest) = .ok (.int (tk b n).1, Bx (tk b n).2 rest) := by
  unfold m_law_take funD d_law_take
  obtain ⟨ns, s⟩ := b
  cases ns with
  | nil =>
    have e := eq_intsR (st := Bx ⟨[], s⟩ rest) (k := 0) (ns := []) rfl
    simp only [Bx, List.map_nil] at e
    simp [Bx, ixG, lstOf, e, mulG, modG, divG, setLG, ixN, h, tk]
  | cons x ns =>
    have e := eq_intsR (st := Bx ⟨x :: ns, s⟩ rest) (k := 0) (ns := x :: ns) rfl
    simp only [Bx, List.map_cons] at e
    have hl : (0 : Int) < (ns.length : Int) + 1 := by omega
    by_cases h1 : x / n = 0
    · simp [Bx, ixG, lstOf, e, mulG, modG, divG, setLG, ixN, h, hl, hn, h1, tyM, popG, tk]
    · by_cases h2 : x / n = -1
      · simp [Bx, ixG, lstOf, e, mulG, modG, divG, setLG, ixN, h, hl, hn, h2, tyM, popG, tk]
      · simp [Bx, ixG, lstOf, e, mulG, modG, divG, setLG, ixN, h, hl, hn, h1, h2, tk]
theorem take_ok (b : Box) (rest : Store) (n : Int) (h : 0 < n) (hn : n < 2 ^ 64) : ∃ i b', (0 ≤ i ∧ i < n) ∧ m_law_take [.ref 1, .int n] (Bx b rest) = .ok (.int i, Bx b' rest) :=
  ⟨_, _, ⟨tk_lo b h, tk_hi b h⟩, take_eq b rest n h hn⟩
/-! ### alike -/
def l_law_alike : Nat → FV
  | 0 => fvBad
  | n + 1 => funD 3 (d_law_alike (l_law_alike n))
def m_law_alike : FV := l_law_alike 8
theorem alike_str (n : Nat) (s t : List Nat) (st : Store) : l_law_alike (n + 1) [.str s, .str t] st = .ok (.bl (decide (s = t)), st) := by
  rw [l_law_alike]
  unfold funD d_law_alike
  simp [isG, tyOf, subTy]
theorem alike_int (n : Nat) (s t : Int) (st : Store) : l_law_alike (n + 1) [.int s, .int t] st = .ok (.bl (decide (s = t)), st) := by
  rw [l_law_alike]
  unfold funD d_law_alike
  simp [isG, tyOf, subTy]
/-! ### signs, cells -/
theorem atI_mem {A : Type} {l : List A} {i : Int} (h0 : 0 ≤ i) (h1 : i < l.length) : ∃ x, atI l i = some x ∧ x ∈ l := by
  rw [atI_int l i h0]
  have : i.toNat < l.length := by omega
  exact ⟨l[i.toNat], by simp [this], by simp⟩
def m_law_sign : FV := funD 2 (d_law_sign m_law_take)
def everySign : List Nat := [32, 33, 34, 35, 36, 38, 39, 40, 41, 42, 43, 44, 45, 46, 47, 48, 49, 50, 51, 52, 53, 54, 55, 56, 57, 58, 59, 60, 61, 62, 63, 64, 65, 66, 67, 68, 69, 70, 71, 72, 73, 74, 75, 76, 77, 78, 79, 80, 81, 82, 83, 84, 85, 86, 87, 88, 89, 90, 91, 92, 93, 94, 95, 96, 97, 98, 99, 100, 101, 102, 103, 104, 105, 106, 107, 108, 109, 110, 111, 112, 113, 114, 115, 116, 117, 118, 119, 120, 121, 122, 123, 124, 125, 126]
theorem sign_ok (b : Box) (rest : Store) : ∃ c b', okSign c = true ∧ m_law_sign [.ref 1] (Bx b rest) = .ok (.str [c], Bx b' rest) := by
  obtain ⟨c, e, m⟩ := atI_mem (l := everySign) (tk_lo b (n := 94) (by decide)) (tk_hi b (n := 94) (by decide))
  refine ⟨c, (tk b 94).2, ?_, ?_⟩
  · have : ∀ c ∈ everySign, okSign c = true := by decide
    exact this c m
  · unfold m_law_sign funD d_law_sign
    unfold everySign at e
    simp [take_eq, ixG, e]
theorem joinL_ones (cs : List Nat) : TL.joinL [] (cs.map fun c => [c]) = cs := by
  induction cs with
  | nil => rfl
  | cons c cs ih =>
    cases cs with
    | nil => rfl
    | cons d cs =>
      simp only [List.map_cons] at ih ⊢
      rw [TL.joinL, ih]; rfl
theorem join_ones (cs : List Nat) (st : Store) (h : cs.length ≤ LIM) : joinG st (.str []) [.lst ((cs.map fun c => [c]).map D.str)] = .ok (.str cs, st) := by
  unfold joinG
  simp only [lstOf, Option.bind_some, strsOf_map]
  have e : ((cs.map fun c => [c]).map List.length).sum = cs.length := by
    induction cs with
    | nil => rfl
    | cons c cs ih => simp_all; omega
  rw [e, joinL_ones]
  simp [h]
theorem join_ones' (cs : List Nat) (st : Store) (h : cs.length ≤ LIM) : joinG st (.str []) [.lst (cs.map (D.str ∘ fun c => [c]))] = .ok (.str cs, st) := by
  rw [← List.map_map]; exact join_ones cs st h
def m_law_cell : FV := funD 6 (d_law_cell m_law_take m_law_sign)
theorem okCell_num {k : Int} (h0 : 0 ≤ k) (h : k < 10 ^ 9) : okCell (TL.numL k.toNat) = true ∧ okCell (45 :: TL.numL k.toNat) = true := by
  have hl : (TL.numL k.toNat).length ≤ 9 := TL.numL_len (by decide) (by omega)
  have ha : ∀ c ∈ TL.numL k.toNat, okSign c = true := fun c hc => by
    have := TL.numL_digits _ c hc
    simp [okSign]
    omega
  have hb : okSign 45 = true := by decide
  refine ⟨?_, ?_⟩
  · simp only [okCell, Bool.and_eq_true, decide_eq_true_eq, List.all_eq_true]
    exact ⟨by omega, ha⟩
  · simp only [okCell, Bool.and_eq_true, decide_eq_true_eq, List.all_eq_true, List.length_cons, List.mem_cons]
    refine ⟨by omega, fun c hc => ?_⟩
    rcases hc with rfl | hc
    · exact hb
    · exact ha c hc
theorem cell_ok (b : Box) (rest : Store) (sort : Int) : ∃ s b', okCell s = true ∧ m_law_cell [.ref 1, .int sort] (Bx b rest) = .ok (.str s, Bx b' rest) := by
  unfold m_law_cell funD d_law_cell
  simp [take_eq]
  have h0 := tk_lo b (n := 9) (by decide)
  have h9 := tk_hi b (n := 9) (by decide)
  generalize tk b 9 = p at h0 h9 ⊢
  obtain ⟨way, b⟩ := p
  simp only at h0 h9 ⊢
  by_cases h : way = 0
  · exact ⟨[], by decide, b, by simp [h]⟩
  simp [h]
  have len2 : (([D.str [], D.str [45]] : List D).length : Int) = 2 := rfl
  have t3 := tk_lo b (n := 3) (by decide)
  have t3' := tk_hi b (n := 3) (by decide)
  obtain ⟨x, ex, mx⟩ := atI_mem (l := [D.str [], D.str [45]]) (i := (tk b 3).1 / 2) (by omega) (by rw [len2]; omega)
  obtain ⟨y, ey, my⟩ := atI_mem (l := [D.int 10, D.int 1000, D.int 1000000000]) (i := (tk (tk b 3).2 3).1) (tk_lo _ (by decide)) (tk_hi _ (by decide))
  have hy : ∃ n : Int, y = .int n ∧ 0 < n ∧ n ≤ 1000000000 := by
    simp at my
    rcases my with rfl | rfl | rfl <;> exact ⟨_, rfl, by decide, by decide⟩
  obtain ⟨n, rfl, n0, n9⟩ := hy
  have n64 : n < 18446744073709551616 := by omega
  have k0 := tk_lo (tk (tk b 3).2 3).2 n0
  have k1 := tk_hi (tk (tk b 3).2 3).2 n0
  by_cases hc : way = 1 ∨ sort = 0 ∧ way < 7
  · have q := okCell_num k0 (by omega)
    have ql : (TL.numL (tk (tk (tk b 3).2 3).2 n).1.toNat).length + 1 ≤ LIM := le_LIM (by have := q.2; simp [okCell] at this; omega)
    have ql' : (TL.numL (tk (tk (tk b 3).2 3).2 n).1.toNat).length ≤ LIM := Nat.le_trans (Nat.le_succ _) ql
    have e18 : (tk (tk (tk b 3).2 3).2 n).1 < 1000000000000000000 := by omega
    simp at mx
    rcases hc with hc | ⟨hc, hc'⟩ <;> rcases mx with rfl | rfl <;> simp [*, Nat.add_comm 1, ltG, ixG, lstOf, divG, powG, strG, addG, take_eq]
    all_goals first | exact ⟨_, q.1, _, rfl, rfl⟩ | exact ⟨_, q.2, _, rfl, rfl⟩ | exact ⟨_, q.1, rfl, _, rfl⟩ | exact ⟨_, q.2, rfl, _, rfl⟩
  · have c1 : ¬ way = 1 := fun z => hc (.inl z)
    have step : ∀ st : Store, (if way = 1 then R.ok (true, st) else if sort = 0 then R.ok (decide (way < 7), st) else R.ok (false, st)) = R.ok (false, st) := fun st => by
      by_cases hs : sort = 0
      · have : ¬ way < 7 := fun z => hc (.inr ⟨hs, z⟩)
        simp [c1, hs, this]
      · simp [c1, hs]
    simp [ltG, step]
    by_cases h2 : way = 2
    · obtain ⟨z, ez, mz⟩ := atI_mem (l := [D.str [45], D.str [45, 45, 49], D.str [49, 45], D.str [48, 120], D.str [32, 49], D.str [49, 32], D.str [45, 48], D.str [48, 48, 55], D.str [32], D.str [32, 32, 32], D.str [49, 50, 51, 52, 53, 54, 55, 120], D.str [49, 50, 51, 52, 53, 54, 55, 56, 45], D.str [45, 48, 48, 48, 48, 48, 48, 48, 32, 49]]) (i := (tk b 13).1) (tk_lo _ (by decide)) (tk_hi _ (by decide))
      have hz : ∃ s, z = .str s ∧ okCell s = true := by
        simp at mz
        rcases mz with rfl | rfl | rfl | rfl | rfl | rfl | rfl | rfl | rfl | rfl | rfl | rfl | rfl <;> exact ⟨_, rfl, by decide⟩
      obtain ⟨s, rfl, hs⟩ := hz
      simp [h2, take_eq, ixG, lstOf, ez]
      exact ⟨s, hs, rfl, _, rfl⟩
    · obtain ⟨y, ey, my⟩ := atI_mem (l := [D.int 3, D.int 10]) (i := (tk b 2).1) (tk_lo _ (by decide)) (tk_hi _ (by decide))
      have hy : ∃ n : Int, y = .int n ∧ 0 < n ∧ n ≤ 10 := by
        simp at my
        rcases my with rfl | rfl <;> exact ⟨_, rfl, by decide, by decide⟩
      obtain ⟨n, rfl, n0, n9⟩ := hy
      have n64 : n < 18446744073709551616 := by omega
      have k0 := tk_lo (tk b 2).2 n0
      have k1 := tk_hi (tk b 2).2 n0
      simp [h2, take_eq, ixG, lstOf, addG, ey, n0, n64]
      generalize tk (tk b 2).2 n = p at k0 k1 ⊢
      obtain ⟨m, b⟩ := p
      simp only at k0 k1 ⊢
      have m1 : -1000000 ≤ 1 + m ∧ 1 + m ≤ 1000000 := by omega
      have m2 : (1 + m).toNat ≤ LIM := le_LIM (by omega)
      by_cases h6 : way < 6
      · simp [ltG, h6, m1, m2]
        generalize hf : lcGo _ _ _ _ _ _ _ _ = r
        obtain ⟨acc, s, rfl, cs, b', hc1, hc2, rfl, hc3⟩ := lc_at hf (fun i acc st' => ∃ cs b', cs.length = i ∧ (∀ c ∈ cs, okSign c = true) ∧ acc = (cs.map fun c => [c]).map D.str ∧ st' = Bx b' rest) ⟨[], b, rfl, by simp, rfl, rfl⟩ (fun _ _ _ _ _ => rfl) (fun i x acc st' hi ⟨cs, b', e1, e2, e3, e4⟩ => by
          subst e3 e4
          obtain ⟨c, ec, mc⟩ := atI_mem (l := [97, 98, 99, 100, 101, 102, 103, 104, 105, 106]) (i := (tk b' 10).1) (tk_lo _ (by decide)) (tk_hi _ (by decide))
          have hc : okSign c = true := by
            have : ∀ c ∈ ([97, 98, 99, 100, 101, 102, 103, 104, 105, 106] : List Nat), okSign c = true := by decide
            exact this c mc
          refine ⟨_, rfl, ?_⟩
          simp [take_eq, ixG, ec]
          exact ⟨cs ++ [c], by simp [e1], fun x hx => by simp at hx; rcases hx with hx | rfl <;> first | exact e2 _ hx | exact hc, by simp, _, rfl⟩)
        have hcl : cs.length ≤ 10 := by simp at hc1; omega
        have hk : okCell cs = true := by
          simp only [okCell, Bool.and_eq_true, decide_eq_true_eq, List.all_eq_true]
          exact ⟨hcl, hc2⟩
        subst hc3
        simp [tyM, join_ones' cs _ (le_LIM (by omega))]
        exact ⟨cs, hk, rfl, _, rfl⟩
      · simp [ltG, h6, m1, m2]
        generalize hf : lcGo _ _ _ _ _ _ _ _ = r
        obtain ⟨acc, s, rfl, cs, b', hc1, hc2, rfl, hc3⟩ := lc_at hf (fun i acc st' => ∃ cs b', cs.length = i ∧ (∀ c ∈ cs, okSign c = true) ∧ acc = (cs.map fun c => [c]).map D.str ∧ st' = Bx b' rest) ⟨[], b, rfl, by simp, rfl, rfl⟩ (fun _ _ _ _ _ => rfl) (fun i x acc st' hi ⟨cs, b', e1, e2, e3, e4⟩ => by
          subst e3 e4
          obtain ⟨c, b2, hc, ec⟩ := sign_ok b' rest
          refine ⟨_, rfl, ?_⟩
          simp [ec]
          exact ⟨cs ++ [c], by simp [e1], fun x hx => by simp at hx; rcases hx with hx | rfl <;> first | exact e2 _ hx | exact hc, by simp, _, rfl⟩)
        have hcl : cs.length ≤ 10 := by simp at hc1; omega
        have hk : okCell cs = true := by
          simp only [okCell, Bool.and_eq_true, decide_eq_true_eq, List.all_eq_true]
          exact ⟨hcl, hc2⟩
        subst hc3
        simp [tyM, join_ones' cs _ (le_LIM (by omega))]
        exact ⟨cs, hk, rfl, _, rfl⟩
end Dl
/-! ## B3 -/
/-! Rows, pages from the box. -/
namespace Dl
open PySem L2
theorem ints_get {n : Nat} {i : Nat} {x : D} (h : (intsD 0 n)[i]? = some x) : i < n ∧ x = .int i := by
  have hi := (List.getElem?_eq_some_iff.mp h).1
  rw [intsD_len] at hi
  rw [ints_at 0 n i hi] at h
  cases h
  exact ⟨hi, by simp⟩
theorem ixN_last (n : Nat) : ixN (n + 1) (-1) = some n := by
  have h1 : ¬ (0 : Int) ≤ -1 := by decide
  have h2 : -(((n + 1 : Nat)) : Int) ≤ -1 := by omega
  rw [ixN, if_neg h1, if_pos h2]
  congr 1
  omega
theorem mem_encP {p : Page} {y : D} (h : y ∈ encP p) : ∃ r, r ∈ p ∧ y = encR r := by
  obtain ⟨r, hr, rfl⟩ := List.mem_map.mp h; exact ⟨r, hr, rfl⟩
def m_law_row : FV := funD 4 (d_law_row m_law_cell)
theorem row_ok (b : Box) (rest : Store) (sorts : List Int) (n : Int) (h1 : 1 ≤ n) (h6 : n ≤ 6) (hs : sorts.length = 6) : ∃ r b', okRow r = true ∧ m_law_row [.ref 1, .lst (sorts.map .int), .int n] (Bx b rest) = .ok (encR r, Bx b' rest) := by
  unfold m_law_row funD d_law_row
  have m1 : -1000000 ≤ n ∧ n ≤ 1000000 := by omega
  have m2 : n.toNat ≤ LIM := le_LIM (by omega)
  simp [m1, m2]
  generalize hf : lcGo _ _ _ _ _ _ _ _ = r
  obtain ⟨acc, s, rfl, cs, b', hc1, hc2, rfl, hc3⟩ := lc_at hf (fun i acc st' => ∃ cs b', cs.length = i ∧ (∀ c ∈ cs, okCell c = true) ∧ acc = cs.map D.str ∧ st' = Bx b' rest) ⟨[], b, rfl, by simp, rfl, rfl⟩ (fun _ _ _ _ _ => rfl) (fun i x acc st' hi ⟨cs, b', e1, e2, e3, e4⟩ => by
    subst e3 e4
    obtain ⟨hi, rfl⟩ := ints_get hi
    have his : i < sorts.length := by omega
    obtain ⟨c, b2, hc, ec⟩ := cell_ok b' rest sorts[i]
    have ei : atI (sorts.map D.int) (i : Int) = some (.int sorts[i]) := by rw [atI_nat]; simp [his]
    refine ⟨_, rfl, ?_⟩
    simp [ixG, lstOf, ei, ec]
    exact ⟨cs ++ [c], by simp [e1], fun x hx => by simp at hx; rcases hx with hx | rfl <;> first | exact e2 _ hx | exact hc, by simp, _, rfl⟩)
  subst hc3
  rw [intsD_len] at hc1
  simp [tupG, lstOf]
  refine ⟨cs, ?_, rfl, _, rfl⟩
  simp only [okRow, Bool.and_eq_true, decide_eq_true_eq, List.all_eq_true]
  exact ⟨⟨by omega, by omega⟩, hc2⟩
def m_law_page : FV := funD 8 (d_law_page m_law_take m_law_row)
theorem page_ok (b : Box) (rest : Store) (n : Int) (h1 : 1 ≤ n) (h6 : n ≤ 30) : ∃ p b', okPage p = true ∧ (p.length : Int) ≤ n ∧ m_law_page [.ref 1, .int n] (Bx b rest) = .ok (.ref (rest.length + 2), Bx b' (rest ++ [.lst (encP p)])) := by
  unfold m_law_page funD d_law_page
  have m1 : -1000000 ≤ n ∧ n ≤ 1000000 := by omega
  have m2 : n.toNat ≤ LIM := le_LIM (by omega)
  simp [show (6 : Int).toNat = 6 from rfl]
  generalize hf : lcGo _ _ _ _ _ _ _ _ = r
  obtain ⟨acc, s, rfl, cs, b', hc1, rfl, hc3⟩ := lc_at hf (fun i acc st' => ∃ cs b', cs.length = i ∧ acc = cs.map D.int ∧ st' = Bx b' rest) ⟨[], b, rfl, rfl, rfl⟩ (fun _ _ _ _ _ => rfl) (fun i x acc st' hi ⟨cs, b', e1, e3, e4⟩ => by
    subst e3 e4
    refine ⟨_, rfl, ?_⟩
    simp [take_eq]
    exact ⟨cs ++ [_], by simp [e1], by simp; rfl, _, rfl⟩)
  subst hc3
  rw [intsD_len] at hc1
  simp [take_eq, addG]
  have k0 := tk_lo b' (n := 6) (by decide)
  have k1 := tk_hi b' (n := 6) (by decide)
  generalize tk b' 6 = q at k0 k1 ⊢
  obtain ⟨m, b⟩ := q
  simp only at k0 k1 ⊢
  have n0 : 0 < n := by omega
  have n64 : n < 18446744073709551616 := by omega
  have z0 := tk_lo b n0
  have z1 := tk_hi b n0
  simp [n0, n64, take_eq, addG]
  generalize tk b n = q at z0 z1 ⊢
  obtain ⟨t, b⟩ := q
  simp only at z0 z1 ⊢
  have m1 : -1000000 ≤ 1 + t ∧ 1 + t ≤ 1000000 := by omega
  simp [m1]
  generalize hf : forGo _ _ _ _ _ _ = r
  obtain ⟨e, st, rfl, p, b', many, a5, a6, a7, e1, e2, rfl, e4, he⟩ := for_at hf (fun i env st' => ∃ p b' many a5 a6 a7, p.length = i ∧ (∀ r ∈ p, okRow r = true) ∧ st' = Bx b' (rest ++ [.lst (encP p)]) ∧ (1 ≤ many ∧ many ≤ 6) ∧ env = [some (.ref 1), some (.int n), some (.lst (cs.map D.int)), some (.int many), some (.ref (rest.length + 2)), a5, a6, a7])
    ⟨[], b, _, _, _, _, rfl, by simp, rfl, by omega, rfl⟩ (fun _ _ _ _ _ => rfl) (fun i x env st' hi ⟨p, b, many, a5, a6, a7, e1, e2, e3, e4, e5⟩ => by
      subst e3 e5
      obtain ⟨hi, rfl⟩ := ints_get hi
      have w0 := tk_lo b (n := 8) (by decide)
      have w1 := tk_hi b (n := 8) (by decide)
      have v0 := tk_lo (tk b 8).2 (n := 6) (by decide)
      have v1 := tk_hi (tk b 8).2 (n := 6) (by decide)
      obtain ⟨y, ey, my⟩ := atI_mem (l := [D.int (1 + (tk (tk b 8).2 6).1), D.int (max 1 (many - 1)), D.int (min 6 (many + 1)), D.int many]) (i := min (tk b 8).1 3) (by omega) (by
        show min (tk b 8).1 3 < 4
        omega)
      have hy : ∃ n : Int, y = .int n ∧ 1 ≤ n ∧ n ≤ 6 := by
        simp at my
        rcases my with rfl | rfl | rfl | rfl <;> exact ⟨_, rfl, by omega, by omega⟩
      obtain ⟨k, rfl, k1, k2⟩ := hy
      obtain ⟨r, b2, hr, er⟩ := row_ok (tk (tk b 8).2 6).2 (rest ++ [.lst (encP p)]) cs k k1 k2 hc1
      have pl : p.length < LIM := lt_LIM (by omega)
      simp [take_eq, addG, subG, maxG, minG, ixG, lstOf, ey, er, tyM, appendG, pl]
      by_cases h7 : (tk b 8).1 = 7
      · have c0 : (0 : Int) < p.length + 1 := by omega
        have c1 : (p.length : Int) + 1 < 18446744073709551616 := by omega
        have u0 := tk_lo b2 c0
        have u1 := tk_hi b2 c0
        obtain ⟨y, ey2, my2⟩ := atI_mem (l := encP p ++ [encR r]) (i := (tk b2 ((p.length : Int) + 1)).1) u0 (by simp; omega)
        have hy : ∃ r2, okRow r2 = true ∧ y = encR r2 := by
          rcases List.mem_append.mp my2 with h | h
          · obtain ⟨r2, m, rfl⟩ := mem_encP h; exact ⟨r2, e2 _ m, rfl⟩
          · simp at h; exact ⟨r, hr, h⟩
        obtain ⟨r2, hr2, rfl⟩ := hy
        have er2 : lenG (Bx (tk b2 ((p.length : Int) + 1)).2 (rest ++ [.lst (encP p ++ [encR r2])])) [encR r2] = .ok (.int r2.length, Bx (tk b2 ((p.length : Int) + 1)).2 (rest ++ [.lst (encP p ++ [encR r2])])) := by simp [lenG, encR]
        have es : (encP p ++ [encR r]).set p.length (encR r2) = encP p ++ [encR r2] := by
          rw [← encP_len p, List.set_append_right _ _ (Nat.le_refl _)]; simp
        have el : lenG (Bx b2 (rest ++ [.lst (encP p ++ [encR r])])) [.ref (rest.length + 2)] = .ok (.int ((p.length : Int) + 1), Bx b2 (rest ++ [.lst (encP p ++ [encR r])])) := by simp [lenG, lstOf]
        simp [h7, el, ixG, lstOf, take_eq, c0, c1, ey2, setLG, ixN_last, es, atI_last, er2]
        simp only [okRow, Bool.and_eq_true, decide_eq_true_eq] at hr2
        refine ⟨p ++ [r2], by simp [e1], fun x hx => ?_, ⟨_, by simp [encP]; rfl⟩, by omega, by omega⟩
        simp at hx
        rcases hx with hx | rfl
        · exact e2 _ hx
        · simp only [okRow, Bool.and_eq_true, decide_eq_true_eq]; exact hr2
      · simp [h7]
        refine ⟨p ++ [r], by simp [e1], fun x hx => ?_, ⟨_, by simp [encP]; rfl⟩, k1, k2⟩
        simp at hx
        rcases hx with hx | rfl
        · exact e2 _ hx
        · exact hr)
  subst he
  rw [intsD_len] at e1
  simp
  refine ⟨p, ?_, by omega, _, rfl⟩
  simp only [okPage, Bool.and_eq_true, decide_eq_true_eq, List.all_eq_true]
  exact ⟨⟨by omega, by omega⟩, e2⟩
end Dl
/-! ## B4 -/
/-! Pages as texts. -/
namespace Dl
open PySem L2
def txtR (r : Row) : List Nat := TL.joinL [9] r
def txtP (p : Page) : List Nat := TL.joinL [10] (p.map txtR)
theorem sum_le {k : Nat} : ∀ {ss : List (List Nat)}, (∀ s ∈ ss, s.length ≤ k) → (ss.map List.length).sum ≤ ss.length * k
  | [], _ => by simp
  | s :: ss, h => by
    have h1 := h s (by simp)
    have h2 := sum_le (ss := ss) fun t ht => h t (by simp [ht])
    simp [Nat.add_mul]; omega
theorem okRow_parts {r : Row} (h : okRow r = true) : 1 ≤ r.length ∧ r.length ≤ 6 ∧ ∀ c ∈ r, okCell c = true := by
  simp only [okRow, Bool.and_eq_true, decide_eq_true_eq, List.all_eq_true] at h
  exact ⟨h.1.1, h.1.2, h.2⟩
theorem okPage_parts {p : Page} (h : okPage p = true) : 1 ≤ p.length ∧ p.length ≤ 30 ∧ ∀ r ∈ p, okRow r = true := by
  simp only [okPage, Bool.and_eq_true, decide_eq_true_eq, List.all_eq_true] at h
  exact ⟨h.1.1, h.1.2, h.2⟩
theorem okCell_parts {c : List Nat} (h : okCell c = true) : c.length ≤ 10 ∧ ∀ x ∈ c, 32 ≤ x ∧ x ≤ 126 ∧ x ≠ 37 := by
  simp only [okCell, Bool.and_eq_true, decide_eq_true_eq, List.all_eq_true] at h
  refine ⟨h.1, fun x hx => ?_⟩
  have := h.2 x hx
  simp only [okSign, Bool.and_eq_true, decide_eq_true_eq] at this
  omega
theorem row_join (r : Row) (h : okRow r = true) : (r.map List.length).sum + r.length * ([9] : List Nat).length ≤ 66 := by
  obtain ⟨h1, h2, h3⟩ := okRow_parts h
  have := sum_le (k := 10) fun c hc => (okCell_parts (h3 c hc)).1
  simp; omega
theorem txtR_len (r : Row) (h : okRow r = true) : (txtR r).length ≤ 66 := Nat.le_trans (joinL_len _ _) (row_join r h)
theorem page_join (p : Page) (h : okPage p = true) : ((p.map txtR).map List.length).sum + (p.map txtR).length * ([10] : List Nat).length ≤ 2010 := by
  obtain ⟨h1, h2, h3⟩ := okPage_parts h
  have := sum_le (k := 66) (ss := p.map txtR) fun c hc => by
    obtain ⟨r, hr, rfl⟩ := List.mem_map.mp hc
    exact txtR_len r (h3 r hr)
  simp at this ⊢; omega
theorem txtP_len (p : Page) (h : okPage p = true) : (txtP p).length ≤ 2010 := Nat.le_trans (joinL_len _ _) (page_join p h)
theorem joinL_mem {S : List Nat} {x : Nat} : ∀ {ss : List (List Nat)}, x ∈ TL.joinL S ss → x ∈ S ∨ ∃ s ∈ ss, x ∈ s
  | [], h => by simp [TL.joinL] at h
  | [p], h => .inr ⟨p, by simp, by simpa [TL.joinL] using h⟩
  | p :: q :: r, h => by
    rw [TL.joinL] at h
    rcases List.mem_append.mp h with h | h
    · exact .inr ⟨p, by simp, h⟩
    · rcases List.mem_append.mp h with h | h
      · exact .inl h
      · rcases joinL_mem h with h | ⟨s, h1, h2⟩
        · exact .inl h
        · exact .inr ⟨s, by simp at h1 ⊢; exact .inr h1, h2⟩
theorem split_row (r : Row) (h : okRow r = true) : splitL [9] (txtR r) = r := by
  obtain ⟨h1, h2, h3⟩ := okRow_parts h
  refine TL.spl_join (fun z => by rw [z] at h1; simp at h1) fun c hc hx => ?_
  have := (okCell_parts (h3 c hc)).2 _ hx
  omega
theorem split_page (p : Page) (h : okPage p = true) : splitL [10] (txtP p) = p.map txtR := by
  obtain ⟨h1, h2, h3⟩ := okPage_parts h
  refine TL.spl_join (fun z => by
    have := congrArg List.length z
    simp at this
    rw [this] at h1; simp at h1) fun c hc hx => ?_
  obtain ⟨r, hr, rfl⟩ := List.mem_map.mp hc
  rcases joinL_mem hx with hx | ⟨s, h1, h2⟩
  · simp at hx
  · have := (okCell_parts ((okRow_parts (h3 r hr)).2.2 s h1)).2 _ h2
    omega
theorem joinL_snoc (S : List Nat) (q : List Nat) : ∀ {ps : List (List Nat)}, ps ≠ [] → TL.joinL S (ps ++ [q]) = TL.joinL S ps ++ (S ++ q)
  | [], h => absurd rfl h
  | [p], _ => by simp [TL.joinL]
  | p :: p2 :: ps, _ => by
    have := joinL_snoc S q (ps := p2 :: ps) (by simp)
    simp only [List.cons_append] at this ⊢
    rw [TL.joinL, this, TL.joinL]
    simp
def m_written : FV := funD 2 (d_written m_need_page)
theorem take_snoc {A : Type} {l : List A} {i : Nat} {a : A} (h : l[i]? = some a) : l.take (i + 1) = l.take i ++ [a] := by
  rw [List.take_add_one, h]; rfl
theorem written_ok {p : Page} {d : D} {w : List (Nat × List D)} {st : Store} (h : listOf st d = some (encP p, w)) (hp : okPage p = true) : m_written [d] st = .ok (.str (txtP p), st) := by
  unfold m_written funD d_written
  obtain ⟨h1, h2, h3⟩ := okPage_parts hp
  have hl : p.length ≤ LIM := le_LIM (by omega)
  simp [need_page_ok h hp, items_list h, hl]
  generalize hf : lcGo _ _ _ _ _ _ _ _ = r
  obtain ⟨acc, s, rfl, rfl, rfl⟩ := lc_at hf (fun i acc st' => st' = st ∧ acc = ((p.take i).map txtR).map D.str) ⟨rfl, by simp⟩ (fun i acc st' _ hI => by rw [hI.1]; exact still_list h) (fun i x acc st' hi ⟨e1, e2⟩ => by
    subst e1 e2
    unfold encP at hi
    rw [List.getElem?_map] at hi
    cases q : p[i]? with
    | none => rw [q] at hi; cases hi
    | some r =>
      rw [q] at hi
      cases hi
      have hr := h3 r (List.mem_of_getElem? q)
      have hj : (r.map List.length).sum + r.length ≤ LIM := le_LIM (by have := row_join r hr; simp at this; omega)
      refine ⟨_, rfl, ?_⟩
      simp [tyM, encR, listG, joinG, lstOf, hj, take_snoc q, txtR])
  have hj : ((p.map txtR).map List.length).sum + (p.map txtR).length ≤ LIM := le_LIM (by have := page_join p hp; simp at this ⊢; omega)
  have e : (encP p).length = p.length := encP_len p
  simp only [e, List.take_length]
  have e2 : strsOf (List.map D.str (List.map txtR p)) = some (p.map txtR) := strsOf_map _
  simp only [R.bind_ok, r_newF, bind_m, sOf_m, tyM, joinG, lstOf, Option.bind_some, e2, if_true, txtP, hj]
  simp only [List.map_map, List.length_map] at hj
  simp [hj]
def m_read : FV := funD 5 (d_read m_is_row)
theorem read_ok {p : Page} (st : Store) (hp : okPage p = true) : m_read [.str (txtP p)] st = .ok (.ref st.length, st ++ [.lst (encP p)]) := by
  unfold m_read funD d_read
  obtain ⟨h1, h2, h3⟩ := okPage_parts hp
  simp [tyM, splitG, split_page p hp, listOf]
  generalize hf : forGo _ _ _ _ _ _ = r
  obtain ⟨e, s, rfl, e1, a, b, c, e2⟩ := for_at hf (fun i env st' => st' = st ++ [.lst (encP (p.take i))] ∧ ∃ a b c, env = [some (.str (txtP p)), some (.ref st.length), a, b, c]) ⟨by simp [encP], _, _, _, rfl⟩ (fun _ _ _ _ _ => rfl) (fun i x env st' hi ⟨e1, a, b, c, e2⟩ => by
    subst e1 e2
    obtain ⟨y, hy, rfl⟩ := pairUp_at hi
    rw [List.getElem?_map] at hy
    cases q : p[i]? with
    | none => rw [q] at hy; cases hy
    | some r =>
      rw [q] at hy
      cases hy
      have hr := h3 r (List.mem_of_getElem? q)
      have hi := (List.getElem?_eq_some_iff.mp q).1
      have hi2 : ¬ (30 : Int) ≤ i := by omega
      have ir := is_row_tup r (st ++ [.lst (encP (p.take i))])
      rw [hr] at ir
      unfold encR at ir
      have hl : min i p.length < LIM := lt_LIM (by omega)
      simp [tyM, splitG, split_row r hr, tupG, lstOf, geG, hi2, ir, appendG, hl, take_snoc q]
      simp [encP, encR])
  subst e1 e2
  simp [pairUp_len]
/-! ### alike -/
theorem ix_list {st : Store} {d : D} {w : Wk} (h : listOf st d = some w) (i : Int) : ixG st d (.int i) = R.of ((atI w.1 i).map fun x => (x, st)) := by
  have e := lst_list h
  unfold listOf at h
  split at h
  · simp [ixG, e]
  · simp [ixG, e]
  · cases h
theorem is_list {st : Store} {d : D} {w : Wk} (h : listOf st d = some w) : isG false st d .non = .ok (.bl false, st) := by
  unfold listOf at h
  split at h
  · rfl
  · rfl
  · cases h
theorem alike_list {n : Nat} {f g : D} {ds : List D} {w w' : List (Nat × List D)} {st : Store} (hf : listOf st f = some (ds, w)) (hg : listOf st g = some (ds, w')) (hl : ds.length ≤ 1000000) (h : ∀ d ∈ ds, l_law_alike n [d, d] st = .ok (.bl true, st)) :
    l_law_alike (n + 1) [f, g] st = .ok (.bl true, st) := by
  rw [l_law_alike]
  unfold funD d_law_alike
  have m1 : -1000000 ≤ (ds.length : Int) ∧ (ds.length : Int) ≤ 1000000 := by omega
  simp [is_list hg, ty_list hg, ty_list hf, subTy, len_list hf, len_list hg, m1]
  generalize q : forGo _ _ _ _ _ _ = r
  obtain ⟨e, s, rfl, rfl, a, rfl⟩ := for_at q (fun i env st' => st' = st ∧ ∃ a, env = [some f, some g, a]) ⟨rfl, _, rfl⟩ (fun _ _ _ _ _ => rfl) (fun i x env st' hi ⟨e1, a, e2⟩ => by
    subst e1 e2
    obtain ⟨hi, rfl⟩ := ints_get hi
    have z := h ds[i] (by simp)
    have ei : atI ds (i : Int) = some ds[i] := by rw [atI_nat]; simp [hi]
    simp [ix_list hf, ix_list hg, ei, z])
  simp
theorem alike_tup {n : Nat} {ds : List D} {st : Store} (hl : ds.length ≤ 1000000) (h : ∀ d ∈ ds, l_law_alike n [d, d] st = .ok (.bl true, st)) :
    l_law_alike (n + 1) [.tup ds, .tup ds] st = .ok (.bl true, st) := by
  rw [l_law_alike]
  unfold funD d_law_alike
  have m1 : -1000000 ≤ (ds.length : Int) ∧ (ds.length : Int) ≤ 1000000 := by omega
  simp [isG, tyOf, subTy, lenG, m1]
  generalize q : forGo _ _ _ _ _ _ = r
  obtain ⟨e, s, rfl, rfl, a, rfl⟩ := for_at q (fun i env st' => st' = st ∧ ∃ a, env = [some (.tup ds), some (.tup ds), a]) ⟨rfl, _, rfl⟩ (fun _ _ _ _ _ => rfl) (fun i x env st' hi ⟨e1, a, e2⟩ => by
    subst e1 e2
    obtain ⟨hi, rfl⟩ := ints_get hi
    have z := h ds[i] (by simp)
    have ei : atI ds (i : Int) = some ds[i] := by rw [atI_nat]; simp [hi]
    simp [ixG, ei, z])
  simp
theorem alike_row {n : Nat} (r : Row) (st : Store) (h : okRow r = true) : l_law_alike (n + 2) [encR r, encR r] st = .ok (.bl true, st) := by
  refine alike_tup (by have := (okRow_parts h).2.1; simp; omega) fun d hd => ?_
  obtain ⟨c, _, rfl⟩ := List.mem_map.mp hd
  simp [alike_str]
theorem alike_page {n : Nat} {p : Page} {f g : D} {w w' : List (Nat × List D)} {st : Store} (hf : listOf st f = some (encP p, w)) (hg : listOf st g = some (encP p, w')) (h : okPage p = true) : l_law_alike (n + 3) [f, g] st = .ok (.bl true, st) := by
  obtain ⟨h1, h2, h3⟩ := okPage_parts h
  refine alike_list hf hg (by simp; omega) fun d hd => ?_
  obtain ⟨r, hr, rfl⟩ := mem_encP hd
  exact alike_row r st (h3 r hr)
end Dl
/-! ## B5 -/
/-! Runs of rows; objects in the store; while; data read through references. -/
namespace Dl
open PySem L2

/-! ### while -/
theorem while_at {t : TV} {b : SV} (I : Nat → Env → Store → Prop) (Q : Env → Store → Prop)
    (turn : ∀ n env st, I n env st → (t env st).to fun c st1 => if c = true then (b env st1).turn fun e s => ∃ m, m < n ∧ I m e s else Q env st1) :
    ∀ fuel n env st, n < fuel → I n env st → ∃ e s, whileGo t b fuel env st = .nx e s ∧ Q e s := by
  intro fuel
  induction fuel with
  | zero => intro n env st h; omega
  | succ fuel ih =>
    intro n env st h hI
    have z := turn n env st hI
    unfold whileGo
    cases q : t env st with
    | ok a =>
      obtain ⟨c, st1⟩ := a
      rw [q] at z
      simp only [to_ok] at z
      simp only [sOf_ok]
      cases c with
      | true =>
        simp only [if_true] at z ⊢
        obtain ⟨e, s, h1, m, h2, h3⟩ := turn_ex z
        obtain ⟨e', s', r1, r2⟩ := ih m e s (by omega) h3
        rcases h1 with h1 | h1 <;> rw [h1] <;> exact ⟨e', s', r1, r2⟩
      | false => exact ⟨env, st1, rfl, by simpa using z⟩
    | exc c p s => rw [q] at z; exact z.elim
    | bad => rw [q] at z; exact z.elim
theorem while_go {t : TV} {b : SV} {fuel n : Nat} {env : Env} {st : Store} {r : SR} (hw : whileGo t b fuel env st = r) (I : Nat → Env → Store → Prop) (Q : Env → Store → Prop) (hn : n < fuel) (h0 : I n env st)
    (turn : ∀ n env st, I n env st → (t env st).to fun c st1 => if c = true then (b env st1).turn fun e s => ∃ m, m < n ∧ I m e s else Q env st1) : ∃ e s, r = .nx e s ∧ Q e s := by
  subst hw; exact while_at I Q turn fuel n env st hn h0

/-! ### two lists, item by item -/
def All2 {A B : Type} (R : A → B → Prop) : List A → List B → Prop
  | [], [] => True
  | a :: as, b :: bs => R a b ∧ All2 R as bs
  | _, _ => False
theorem All2.len {A B : Type} {R : A → B → Prop} : ∀ {as : List A} {bs : List B}, All2 R as bs → as.length = bs.length
  | [], [], _ => rfl
  | a :: as, b :: bs, h => by simp [All2.len h.2]
  | [], _ :: _, h => h.elim
  | _ :: _, [], h => h.elim
theorem All2.imp {A B : Type} {R S : A → B → Prop} (k : ∀ a b, R a b → S a b) : ∀ {as : List A} {bs : List B}, All2 R as bs → All2 S as bs
  | [], [], _ => trivial
  | a :: as, b :: bs, h => ⟨k _ _ h.1, All2.imp k h.2⟩
  | [], _ :: _, h => h.elim
  | _ :: _, [], h => h.elim
theorem All2.app {A B : Type} {R : A → B → Prop} : ∀ {as as' : List A} {bs bs' : List B}, All2 R as bs → All2 R as' bs' → All2 R (as ++ as') (bs ++ bs')
  | [], _, [], _, _, k => k
  | a :: as, _, b :: bs, _, h, k => ⟨h.1, All2.app h.2 k⟩
  | [], _, _ :: _, _, h, _ => h.elim
  | _ :: _, _, [], _, h, _ => h.elim
theorem All2.get {A B : Type} {R : A → B → Prop} : ∀ {as : List A} {bs : List B} {i : Nat} {a : A}, All2 R as bs → as[i]? = some a → ∃ b, bs[i]? = some b ∧ R a b
  | a :: as, b :: bs, 0, x, h, e => by simp at e; subst e; exact ⟨b, rfl, h.1⟩
  | a :: as, b :: bs, i + 1, x, h, e => by simpa using All2.get h.2 (by simpa using e)
  | [], [], _, _, _, e => by simp at e
  | [], _ :: _, _, _, h, _ => h.elim
  | _ :: _, [], _, _, h, _ => h.elim
theorem All2.mapL {A B C : Type} {R : C → B → Prop} {f : A → C} : ∀ {as : List A} {bs : List B}, All2 (fun a b => R (f a) b) as bs → All2 R (as.map f) bs
  | [], [], _ => trivial
  | a :: as, b :: bs, h => ⟨h.1, All2.mapL h.2⟩
  | [], _ :: _, h => h.elim
  | _ :: _, [], h => h.elim

/-! ### data read through references -/
mutual
/-- d reads as the plain x -/
def Rd (st : Store) : D → D → Prop
  | d, .tup xs => ∃ ds, d = .tup ds ∧ Rds st ds xs
  | d, .lst xs => ∃ ds w, listOf st d = some (ds, w) ∧ Rds st ds xs
  | d, .non => d = .non
  | d, .bl b => d = .bl b
  | d, .int i => d = .int i
  | d, .str s => d = .str s
  | _, .ref _ => False
  | _, .scr _ => False
def Rds (st : Store) : List D → List D → Prop
  | [], [] => True
  | d :: ds, x :: xs => Rd st d x ∧ Rds st ds xs
  | _, _ => False
end
theorem rds_len {st : Store} : ∀ {ds xs : List D}, Rds st ds xs → ds.length = xs.length
  | [], [], _ => rfl
  | d :: ds, x :: xs, h => by
    rw [Rds] at h
    simp [rds_len h.2]
  | [], _ :: _, h => by simp [Rds] at h
  | _ :: _, [], h => by simp [Rds] at h
theorem rds_get {st : Store} : ∀ {ds xs : List D} {i : Nat} {x : D}, Rds st ds xs → xs[i]? = some x → ∃ d, ds[i]? = some d ∧ Rd st d x
  | d :: ds, x :: xs, 0, y, h, e => by
    rw [Rds] at h
    simp at e; subst e; exact ⟨d, rfl, h.1⟩
  | d :: ds, x :: xs, i + 1, y, h, e => by
    rw [Rds] at h
    simpa using rds_get h.2 (by simpa using e)
  | [], [], _, _, _, e => by simp at e
  | [], _ :: _, _, _, h, _ => by simp [Rds] at h
  | _ :: _, [], _, _, h, _ => by simp [Rds] at h
theorem rds_app {st : Store} : ∀ {ds ds' xs xs' : List D}, Rds st ds xs → Rds st ds' xs' → Rds st (ds ++ ds') (xs ++ xs')
  | [], _, [], _, _, k => k
  | d :: ds, _, x :: xs, _, h, k => by
    rw [Rds] at h
    simp only [List.cons_append]
    rw [Rds]
    exact ⟨h.1, rds_app h.2 k⟩
  | [], _, _ :: _, _, h, _ => by simp [Rds] at h
  | _ :: _, _, [], _, h, _ => by simp [Rds] at h
/-- what stays of the store -/
def Stays (st st' : Store) : Prop := ∀ (k : Nat) (ds : List D), st[k]? = some (.lst ds) → st'[k]? = some (.lst ds)
theorem listOf_stays {st st' : Store} (s : Stays st st') {d : D} {w : Wk} (h : listOf st d = some w) : listOf st' d = some w := by
  unfold listOf at h
  split at h
  · exact h
  · split at h
    · rename_i n ds e
      cases h
      have e' := s _ _ e
      simp [listOf, e']
    · cases h
  · cases h
mutual
theorem Rd.stays {st st' : Store} (s : Stays st st') : ∀ {x d : D}, Rd st d x → Rd st' d x
  | .tup xs, d, h => by
    rw [Rd] at h ⊢
    obtain ⟨ds, e, k⟩ := h
    exact ⟨ds, e, Rds.stays s k⟩
  | .lst xs, d, h => by
    rw [Rd] at h ⊢
    obtain ⟨ds, w, e, k⟩ := h
    exact ⟨ds, w, listOf_stays s e, Rds.stays s k⟩
  | .non, d, h => by rw [Rd] at h ⊢; exact h
  | .bl _, d, h => by rw [Rd] at h ⊢; exact h
  | .int _, d, h => by rw [Rd] at h ⊢; exact h
  | .str _, d, h => by rw [Rd] at h ⊢; exact h
  | .ref _, d, h => by rw [Rd] at h; exact h.elim
  | .scr _, d, h => by rw [Rd] at h; exact h.elim
theorem Rds.stays {st st' : Store} (s : Stays st st') : ∀ {xs ds : List D}, Rds st ds xs → Rds st' ds xs
  | [], [], h => by rw [Rds] at h ⊢; trivial
  | x :: xs, d :: ds, h => by
    rw [Rds] at h ⊢
    exact ⟨Rd.stays s h.1, Rds.stays s h.2⟩
  | [], _ :: _, h => by simp [Rds] at h
  | _ :: _, [], h => by simp [Rds] at h
end
theorem Stays.app (st more : Store) : Stays st (st ++ more) := fun k ds e => by
  have h := (List.getElem?_eq_some_iff.mp e).1
  rw [List.getElem?_append_left h]; exact e
theorem Stays.refl (st : Store) : Stays st st := fun _ _ e => e
theorem Stays.trans {a b c : Store} (x : Stays a b) (y : Stays b c) : Stays a c := fun k ds e => y k ds (x k ds e)
mutual
/-- plain, truth values too -/
def D.pk : D → Bool
  | .tup ds => D.pks ds
  | .lst ds => D.pks ds
  | .ref _ => false
  | .scr _ => false
  | _ => true
def D.pks : List D → Bool
  | [] => true
  | d :: ds => D.pk d && D.pks ds
end
mutual
theorem rd_self {st : Store} : ∀ {x : D}, D.pk x = true → Rd st x x
  | .tup xs, h => by
    rw [D.pk] at h
    rw [Rd]; exact ⟨xs, rfl, rds_self h⟩
  | .lst xs, h => by
    rw [D.pk] at h
    rw [Rd]; exact ⟨xs, [], rfl, rds_self h⟩
  | .non, _ => by rw [Rd]
  | .bl _, _ => by rw [Rd]
  | .int _, _ => by rw [Rd]
  | .str _, _ => by rw [Rd]
  | .ref _, h => by simp [D.pk] at h
  | .scr _, h => by simp [D.pk] at h
theorem rds_self {st : Store} : ∀ {xs : List D}, D.pks xs = true → Rds st xs xs
  | [], _ => by rw [Rds]; trivial
  | x :: xs, h => by
    simp only [D.pks, Bool.and_eq_true] at h
    rw [Rds]
    exact ⟨rd_self h.1, rds_self h.2⟩
end

/-! ### alike, by what is read -/
theorem alike_list2 {n : Nat} {f g : D} {ds es : List D} {w w' : List (Nat × List D)} {st : Store} (hf : listOf st f = some (ds, w)) (hg : listOf st g = some (es, w')) (hl : es.length ≤ 1000000) (he : ds.length = es.length)
    (h : ∀ (i : Nat) (d e : D), ds[i]? = some d → es[i]? = some e → l_law_alike n [d, e] st = .ok (.bl true, st)) : l_law_alike (n + 1) [f, g] st = .ok (.bl true, st) := by
  rw [l_law_alike]
  unfold funD d_law_alike
  have m1 : -1000000 ≤ (es.length : Int) ∧ (es.length : Int) ≤ 1000000 := by omega
  simp [is_list hg, ty_list hg, ty_list hf, subTy, len_list hf, len_list hg, m1, he]
  generalize q : forGo _ _ _ _ _ _ = r
  obtain ⟨e, s, rfl, rfl, a, rfl⟩ := for_at q (fun i env st' => st' = st ∧ ∃ a, env = [some f, some g, a]) ⟨rfl, _, rfl⟩ (fun _ _ _ _ _ => rfl) (fun i x env st' hi ⟨e1, a, e2⟩ => by
    subst e1 e2
    obtain ⟨hi, rfl⟩ := ints_get hi
    have hd : ds[i]? = some ds[i] := by simp
    have hee : es[i]? = some es[i] := by simp
    have z := h i _ _ hd hee
    simp [ix_list hf, ix_list hg, atI_nat, hd, hee, z])
  simp
theorem alike_tup2 {n : Nat} {ds es : List D} {st : Store} (hl : es.length ≤ 1000000) (he : ds.length = es.length)
    (h : ∀ (i : Nat) (d e : D), ds[i]? = some d → es[i]? = some e → l_law_alike n [d, e] st = .ok (.bl true, st)) : l_law_alike (n + 1) [.tup ds, .tup es] st = .ok (.bl true, st) := by
  rw [l_law_alike]
  unfold funD d_law_alike
  have m1 : -1000000 ≤ (es.length : Int) ∧ (es.length : Int) ≤ 1000000 := by omega
  simp [isG, tyOf, subTy, lenG, m1, he]
  generalize q : forGo _ _ _ _ _ _ = r
  obtain ⟨e, s, rfl, rfl, a, rfl⟩ := for_at q (fun i env st' => st' = st ∧ ∃ a, env = [some (.tup ds), some (.tup es), a]) ⟨rfl, _, rfl⟩ (fun _ _ _ _ _ => rfl) (fun i x env st' hi ⟨e1, a, e2⟩ => by
    subst e1 e2
    obtain ⟨hi, rfl⟩ := ints_get hi
    have hd : ds[i]? = some ds[i] := by simp
    have hee : es[i]? = some es[i] := by simp
    have z := h i _ _ hd hee
    simp [ixG, atI_nat, hd, hee, z])
  simp
mutual
/-- no list of it is too long -/
def D.sm : D → Bool
  | .tup ds => decide (ds.length ≤ 1000000) && D.sms ds
  | .lst ds => decide (ds.length ≤ 1000000) && D.sms ds
  | _ => true
def D.sms : List D → Bool
  | [] => true
  | d :: ds => D.sm d && D.sms ds
end
theorem sms_get : ∀ {ds : List D} {i : Nat} {d : D}, D.sms ds = true → ds[i]? = some d → D.sm d = true
  | d :: ds, 0, x, h, e => by
    simp only [D.sms, Bool.and_eq_true] at h
    simp at e; subst e; exact h.1
  | d :: ds, i + 1, x, h, e => by
    simp only [D.sms, Bool.and_eq_true] at h
    exact sms_get (i := i) h.2 (by simpa using e)
  | [], _, _, _, e => by simp at e
theorem dps_get : ∀ {ds : List D} {i : Nat} {d : D}, ds[i]? = some d → D.dp d ≤ D.dps ds := fun {ds i d} e => dps_le.mp (Nat.le_refl _) d (List.mem_of_getElem? e)
theorem alike_rd {st : Store} : ∀ (n : Nat) (x f g : D), Rd st f x → Rd st g x → D.sm x = true → D.dp x ≤ n → l_law_alike n [f, g] st = .ok (.bl true, st)
  | 0, x, _, _, _, _, _, h => by cases x <;> simp [D.dp] at h
  | n + 1, .non, f, g, hf, hg, _, _ => by
    rw [Rd] at hf hg
    subst hf hg
    rw [l_law_alike]
    unfold funD d_law_alike
    simp [isG]
  | n + 1, .bl b, f, g, hf, hg, _, _ => by
    rw [Rd] at hf hg
    subst hf hg
    rw [l_law_alike]
    unfold funD d_law_alike
    simp [isG, tyOf, subTy]
  | n + 1, .int i, f, g, hf, hg, _, _ => by
    rw [Rd] at hf hg
    subst hf hg
    rw [alike_int]; simp
  | n + 1, .str s, f, g, hf, hg, _, _ => by
    rw [Rd] at hf hg
    subst hf hg
    rw [alike_str]; simp
  | n + 1, .tup xs, f, g, hf, hg, hs, hd => by
    rw [Rd] at hf hg
    obtain ⟨ds, rfl, kf⟩ := hf
    obtain ⟨es, rfl, kg⟩ := hg
    simp only [D.sm, Bool.and_eq_true, decide_eq_true_eq] at hs
    rw [D.dp] at hd
    have l1 := rds_len kf
    have l2 := rds_len kg
    refine alike_tup2 (by omega) (by omega) fun i d e e1 e2 => ?_
    have hi : i < xs.length := by
      have := (List.getElem?_eq_some_iff.mp e1).1
      omega
    have ex : xs[i]? = some xs[i] := by simp
    obtain ⟨d', q1, r1⟩ := rds_get kf ex
    obtain ⟨e', q2, r2⟩ := rds_get kg ex
    rw [q1] at e1; cases e1
    rw [q2] at e2; cases e2
    have := dps_get ex
    exact alike_rd n _ _ _ r1 r2 (sms_get hs.2 ex) (by omega)
  | n + 1, .lst xs, f, g, hf, hg, hs, hd => by
    rw [Rd] at hf hg
    obtain ⟨ds, w, hf, kf⟩ := hf
    obtain ⟨es, w', hg, kg⟩ := hg
    simp only [D.sm, Bool.and_eq_true, decide_eq_true_eq] at hs
    rw [D.dp] at hd
    have l1 := rds_len kf
    have l2 := rds_len kg
    refine alike_list2 hf hg (by omega) (by omega) fun i d e e1 e2 => ?_
    have hi : i < xs.length := by
      have := (List.getElem?_eq_some_iff.mp e1).1
      omega
    have ex : xs[i]? = some xs[i] := by simp
    obtain ⟨d', q1, r1⟩ := rds_get kf ex
    obtain ⟨e', q2, r2⟩ := rds_get kg ex
    rw [q1] at e1; cases e1
    rw [q2] at e2; cases e2
    have := dps_get ex
    exact alike_rd n _ _ _ r1 r2 (sms_get hs.2 ex) (by omega)
  | n + 1, .ref _, f, g, hf, _, _, _ => by rw [Rd] at hf; exact hf.elim
  | n + 1, .scr _, f, g, hf, _, _, _ => by rw [Rd] at hf; exact hf.elim
end Dl
/-! ## D2 -/
/-! The meanings of some defs (printed by pick.py). -/
namespace Dl
open PySem L2
/-- law_mates: 5 slots, 3 parameters -/
def d_law_mates : SV := sCons (sPar 3 4 (aCons (eV 1) (aCons (eOp (addG false) (eV 1) (eC (.int 1))) (aNil)))) (sCons (whileGo (tAndD (tv (eOp gtG (eV 3) (eC (.int 0)))) (tv (eOp gtG (eB lenG (aCons (eOp ixG (eV 0) (eOp subG (eV 3) (eC (.int 1)))) (aNil))) (eOp (addG false) (eV 2) (eC (.int 1)))))) (sAsg (eOp subG (eV 3) (eC (.int 1))) (gN 3)) 100000) (sCons (whileGo (tAndD (tv (eOp ltG (eV 4) (eB lenG (aCons (eV 0) (aNil))))) (tv (eOp gtG (eB lenG (aCons (eOp ixG (eV 0) (eV 4)) (aNil))) (eOp (addG false) (eV 2) (eC (.int 1)))))) (sAsg (eOp (addG false) (eV 4) (eC (.int 1))) (gN 4)) 100000) (sRet (eTup (aCons (eV 3) (aCons (eV 4) (aNil)))))))
/-- law_wide: 7 slots, 4 parameters -/
def d_law_wide (m_law_mates : FV) : SV := sCons (sAsg (eCall 3 m_law_mates (aCons (eV 0) (aCons (eV 2) (aCons (eV 3) (aNil))))) (gTp 2 (gsCons (gN 4) (gsCons (gN 5) (gsNil))))) (sRet (eB maxG (aCons (eOp (addG false) (eLst false (aCons (eOp ixG (eV 1) (eC (.int 1))) (aNil))) (eLc false (iR2 (aCons (eV 4) (aCons (eV 5) (aNil)))) [6] (.one 6) (tYesD) (eOp (addG false) (eB lenG (aCons (eOp ixG (eOp ixG (eV 0) (eV 6)) (eV 3)) (aNil))) (eOp ixG (eV 1) (eC (.int 0)))))) (aNil))))
/-- law_figures: 3 slots, 1 parameters -/
def d_law_figures : SV := sCons (sAsg (eIf (tv (eOp (eqG false) (eSl false (eV 0) (poNone) (poSome (eC (.int 1)))) (eC (.str [45])))) (eSl false (eV 0) (poSome (eC (.int 1))) (poNone)) (eV 0)) (gN 1)) (sRet (eAnd (eOp (eqG true) (eV 1) (eC (.str []))) (eOp (eqG false) (eLc false (iSeq (eV 1)) [2] (.one 2) (tv (eOp (inG true) (eV 2) (eC (.str [48, 49, 50, 51, 52, 53, 54, 55, 56, 57])))) (eV 2)) (eLst false (aNil)))))
/-- law_turned: 8 slots, 3 parameters -/
def d_law_turned (m_law_mates : FV) (m_law_figures : FV) : SV := sCons (sAsg (eCall 3 m_law_mates (aCons (eV 0) (aCons (eV 1) (aCons (eV 2) (aNil))))) (gTp 2 (gsCons (gN 3) (gsCons (gN 4) (gsNil))))) (sCons (sAsg (eLc false (iR2 (aCons (eV 3) (aCons (eV 4) (aNil)))) [6] (.one 6) (tv (eOp (eqG true) (eOp ixG (eOp ixG (eV 0) (eV 6)) (eV 2)) (eC (.str [])))) (eOp ixG (eOp ixG (eV 0) (eV 6)) (eV 2))) (gN 5)) (sRet (eAnd (eOp (eqG true) (eV 5) (eLst false (aNil))) (eOp (eqG false) (eLc false (iSeq (eV 5)) [7] (.one 7) (tNotD (tv (eCall 1 m_law_figures (aCons (eV 7) (aNil))))) (eV 7)) (eLst false (aNil))))))
/-- law_due: 10 slots, 2 parameters -/
def d_law_due (m_law_mates : FV) (m_law_wide : FV) (m_law_turned : FV) : SV := sCons (sAsg (eLst true (aNil)) (gN 2)) (sCons (sFor (iR1 (aCons (eC (.int 5)) (aNil))) (gN 3) (sFor (iR1 (aCons (eB lenG (aCons (eV 0) (aNil))) (aNil))) (gN 4) (sIf (tAndD (tv (eOp gtG (eB lenG (aCons (eOp ixG (eV 0) (eV 4)) (aNil))) (eOp (addG false) (eV 3) (eC (.int 1))))) (tv (eOp (eqG false) (eOp ixG (eCall 3 m_law_mates (aCons (eV 0) (aCons (eV 4) (aCons (eV 3) (aNil))))) (eC (.int 0))) (eV 4)))) (sCons (sAsg (eOp ixG (eCall 3 m_law_mates (aCons (eV 0) (aCons (eV 4) (aCons (eV 3) (aNil))))) (eC (.int 1))) (gN 5)) (sCons (sAsg (eB maxG (aCons (eLc false (iR2 (aCons (eV 4) (aCons (eV 5) (aNil)))) [9] (.one 9) (tYesD) (eB lenG (aCons (eOp ixG (eOp ixG (eV 0) (eV 9)) (eV 3)) (aNil)))) (aNil))) (gN 6)) (sCons (sAsg (eLc false (iR2 (aCons (eV 4) (aCons (eV 5) (aNil)))) [9] (.one 9) (tAndD (tv (eOp (eqG false) (eB lenG (aCons (eOp ixG (eOp ixG (eV 0) (eV 9)) (eV 3)) (aNil))) (eV 6))) (tv (eOp gtG (eOp (addG false) (eV 6) (eOp ixG (eV 1) (eC (.int 0)))) (eOp ixG (eV 1) (eC (.int 1)))))) (eV 9)) (gN 7)) (sCons (sAsg (eCall 4 m_law_wide (aCons (eV 0) (aCons (eV 1) (aCons (eV 4) (aCons (eV 3) (aNil)))))) (gN 8)) (sExpr (eMt "list" (appendG) (eV 2) (aCons (eTup (aCons (eV 3) (aCons (eV 4) (aCons (eV 5) (aCons (eV 8) (aCons (eCall 3 m_law_turned (aCons (eV 0) (aCons (eV 4) (aCons (eV 3) (aNil))))) (aCons (eV 7) (aNil)))))))) (aNil)))))))) (sNext)))) (sRet (eV 2)))
/-- is_number: 3 slots, 3 parameters -/
def d_is_number : SV := sRet (eAnd (eIs "int" (eV 0)) (eAnd (eNot (eIs "bool" (eV 0))) (eChain leG leG (eV 1) (eV 0) (eV 2))))
/-- need_style: 1 slots, 1 parameters -/
def d_need_style (m_is_number : FV) : SV := sCons (sIf (tOrD (tNotD (tv (eIs "tuple" (eV 0)))) (tv (eOp (eqG true) (eB lenG (aCons (eV 0) (aNil))) (eC (.int 2))))) (sBad) (sNext)) (sIf (tOrD (tNotD (tv (eCall 3 m_is_number (aCons (eOp ixG (eV 0) (eC (.int 0))) (aCons (eC (.int 0)) (aCons (eC (.int 4)) (aNil))))))) (tNotD (tv (eCall 3 m_is_number (aCons (eOp ixG (eV 0) (eC (.int 1))) (aCons (eC (.int 0)) (aCons (eC (.int 12)) (aNil)))))))) (sBad) (sNext))
/-- Stretch_init: 4 slots, 4 parameters -/
def d_Stretch_init : SV := sCons (sFldD 12 "column" (eV 0) (eV 1)) (sCons (sFldD 12 "begin" (eV 0) (eV 2)) (sCons (sFldD 12 "end" (eV 0) (eOp (addG false) (eV 2) (eB lenG (aCons (eV 3) (aNil))))) (sFldD 12 "cells" (eV 0) (eV 3))))
/-- stretches_of: 9 slots, 4 parameters -/
def d_stretches_of (m_Stretch_init : FV) : SV := sCons (sAsg (eLst true (aNil)) (gN 4)) (sCons (sAsg (eC .non) (gN 5)) (sCons (sFor (iR2 (aCons (eV 2) (aCons (eOp (addG false) (eV 3) (eC (.int 1))) (aNil)))) (gN 6) (sCons (sAsg (eAnd (eOp ltG (eV 6) (eV 3)) (eOp gtG (eB lenG (aCons (eOp ixG (eV 0) (eV 6)) (aNil))) (eOp (addG false) (eV 1) (eC (.int 1))))) (gN 7)) (sCons (sIf (tAndD (tv (eV 7)) (tv (eOp (isG false) (eV 5) (eC .non)))) (sAsg (eV 6) (gN 5)) (sNext)) (sIf (tAndD (tNotD (tv (eV 7))) (tv (eOp (isG true) (eV 5) (eC .non)))) (sCons (sExpr (eMt "list" (appendG) (eV 4) (aCons (eMake 12 4 m_Stretch_init (aCons (eV 1) (aCons (eV 5) (aCons (eLc false (iR2 (aCons (eV 5) (aCons (eV 6) (aNil)))) [8] (.one 8) (tYesD) (eOp ixG (eOp ixG (eV 0) (eV 8)) (eV 1))) (aNil))))) (aNil)))) (sAsg (eC .non) (gN 5))) (sNext))))) (sRet (eV 4))))
/-- all_stretches: 3 slots, 1 parameters -/
def d_all_stretches (m_stretches_of : FV) : SV := sCons (sAsg (eLst true (aNil)) (gN 1)) (sCons (sFor (iR1 (aCons (eOp subG (eC (.int 6)) (eC (.int 1))) (aNil))) (gN 2) (sExpr (eMt "list" (extendG) (eV 1) (aCons (eCall 4 m_stretches_of (aCons (eV 0) (aCons (eV 2) (aCons (eC (.int 0)) (aCons (eB lenG (aCons (eV 0) (aNil))) (aNil)))))) (aNil))))) (sRet (eV 1)))
/-- Stretch_holders: 5 slots, 2 parameters -/
def d_Stretch_holders : SV := sCons (sAsg (eB maxG (aCons (eLc false (iSeq (eFld 12 "cells" (eV 0))) [3] (.one 3) (tYesD) (eB lenG (aCons (eV 3) (aNil)))) (aNil))) (gN 2)) (sCons (sIf (tv (eOp leG (eOp (addG false) (eV 2) (eOp ixG (eV 1) (eC (.int 0)))) (eOp ixG (eV 1) (eC (.int 1))))) (sRet (eLst true (aNil))) (sNext)) (sRet (eLc true (iR1 (aCons (eB lenG (aCons (eFld 12 "cells" (eV 0)) (aNil))) (aNil))) [4] (.one 4) (tv (eOp (eqG false) (eB lenG (aCons (eOp ixG (eFld 12 "cells" (eV 0)) (eV 4)) (aNil))) (eV 2))) (eOp (addG false) (eFld 12 "begin" (eV 0)) (eV 4)))))
/-- is_figures: 3 slots, 1 parameters -/
def d_is_figures : SV := sCons (sAsg (eIf (tv (eOp (eqG false) (eSl false (eV 0) (poNone) (poSome (eC (.int 1)))) (eC (.str [45])))) (eSl false (eV 0) (poSome (eC (.int 1))) (poNone)) (eV 0)) (gN 1)) (sRet (eAnd (eOp (eqG true) (eV 1) (eC (.str []))) (eOp (eqG false) (eLc false (iSeq (eV 1)) [2] (.one 2) (tv (eOp (inG true) (eV 2) (eC (.str [48, 49, 50, 51, 52, 53, 54, 55, 56, 57])))) (eV 2)) (eLst false (aNil)))))
/-- Stretch_is_right: 3 slots, 1 parameters -/
def d_Stretch_is_right (m_is_figures : FV) : SV := sCons (sAsg (eLc false (iSeq (eFld 12 "cells" (eV 0))) [2] (.one 2) (tv (eOp (eqG true) (eV 2) (eC (.str [])))) (eV 2)) (gN 1)) (sRet (eAnd (eOp (eqG true) (eV 1) (eLst false (aNil))) (eOp (eqG false) (eLc false (iSeq (eV 1)) [2] (.one 2) (tNotD (tv (eCall 1 m_is_figures (aCons (eV 2) (aNil))))) (eV 2)) (eLst false (aNil)))))
/-- Stretch_width: 3 slots, 2 parameters -/
def d_Stretch_width : SV := sRet (eB maxG (aCons (eOp ixG (eV 1) (eC (.int 1))) (aCons (eOp (addG false) (eB maxG (aCons (eLc false (iSeq (eFld 12 "cells" (eV 0))) [2] (.one 2) (tYesD) (eB lenG (aCons (eV 2) (aNil)))) (aNil))) (eOp ixG (eV 1) (eC (.int 0)))) (aNil))))
/-- stretches: 4 slots, 2 parameters -/
def d_stretches (m_need_page : FV) (m_need_style : FV) (m_all_stretches : FV) (m_Stretch_holders : FV) (m_Stretch_is_right : FV) (m_Stretch_width : FV) : SV := sCons (sExpr (eCall 1 m_need_page (aCons (eV 0) (aNil)))) (sCons (sExpr (eCall 1 m_need_style (aCons (eV 1) (aNil)))) (sCons (sAsg (eLst true (aNil)) (gN 2)) (sCons (sFor (iSeq (eCall 1 m_all_stretches (aCons (eV 0) (aNil)))) (gN 3) (sExpr (eMt "list" (appendG) (eV 2) (aCons (eTup (aCons (eFld 12 "column" (eV 3)) (aCons (eFld 12 "begin" (eV 3)) (aCons (eFld 12 "end" (eV 3)) (aCons (eMeth 12 "width" 2 m_Stretch_width (eV 3) (aCons (eV 1) (aNil))) (aCons (eMeth 12 "is_right" 1 m_Stretch_is_right (eV 3) aNil) (aCons (eMeth 12 "holders" 2 m_Stretch_holders (eV 3) (aCons (eV 1) (aNil))) (aNil)))))))) (aNil))))) (sRet (eV 2)))))
/-- law_k02: 10 slots, 1 parameters -/
def d_law_k02 (m_law_begun : FV) (m_law_page : FV) (m_law_take : FV) (m_law_style : FV) (m_law_due : FV) (m_stretches : FV) (m_law_alike : FV) : SV := sCons (sAsg (eCall 1 m_law_begun (aCons (eV 0) (aNil))) (gN 1)) (sCons (sFor (iR1 (aCons (eC (.int 3)) (aNil))) (gN 2) (sCons (sPar 3 4 (aCons (eCall 2 m_law_page (aCons (eV 1) (aCons (eOp ixG (eLst false (aCons (eC (.int 6)) (aCons (eC (.int 30)) (aNil)))) (eCall 2 m_law_take (aCons (eV 1) (aCons (eC (.int 2)) (aNil))))) (aNil)))) (aCons (eCall 1 m_law_style (aCons (eV 1) (aNil))) (aNil)))) (sCons (sAsg (eCall 2 m_law_due (aCons (eV 3) (aCons (eV 4) (aNil)))) (gN 5)) (sCons (sAsg (eB (listG false) (aCons (eV 3) (aNil))) (gN 6)) (sFor (iR1 (aCons (eC (.int 2)) (aNil))) (gN 7) (sCons (sAsg (eCall 2 m_stretches (aCons (eV 6) (aCons (eV 4) (aNil)))) (gN 8)) (sCons (sIf (tOrD (tNotD (tv (eCall 2 m_law_alike (aCons (eV 8) (aCons (eV 5) (aNil)))))) (tv (eOp (eqG true) (eV 6) (eV 3)))) (sRet (eC (.bl false))) (sNext)) (sCons (sFor (iSeq (eV 8)) (gN 9) (sExpr (eMt "list" (appendG) (eOp ixG (eV 9) (eC (.int 5))) (aCons (eC (.int 99)) (aNil))))) (sExpr (eMt "list" (clearG) (eV 8) aNil)))))))))) (sRet (eC (.bl true))))
end Dl
/-! ## B6 -/
/-! Stretches. -/
namespace Dl
open PySem L2
/-! ### styles -/
def m_is_number : FV := funD 3 d_is_number
@[simp] theorem is_number_int (i lo hi : Int) (st : Store) : m_is_number [.int i, .int lo, .int hi] st = .ok (.bl (decide (lo ≤ i ∧ i ≤ hi)), st) := by
  unfold m_is_number funD d_is_number
  simp [tyOf, subTy, leG]
  by_cases h : lo ≤ i <;> simp [h]
def m_need_style : FV := funD 1 (d_need_style m_is_number)
structure Sty where
  g : Int
  l : Int
def Sty.ok (s : Sty) : Prop := (0 ≤ s.g ∧ s.g ≤ 4) ∧ 0 ≤ s.l ∧ s.l ≤ 12
def Sty.enc (s : Sty) : D := .tup [.int s.g, .int s.l]
theorem need_style_ok {s : Sty} (h : s.ok) (st : Store) : m_need_style [s.enc] st = .ok (.non, st) := by
  unfold m_need_style funD d_need_style Sty.enc
  simp [tyOf, subTy, lenG, ixG, h.1.1, h.1.2, h.2.1, h.2.2]
def m_law_style : FV := funD 2 (d_law_style m_law_take)
theorem style_ok (b : Box) (rest : Store) : ∃ s b', Sty.ok s ∧ m_law_style [.ref 1] (Bx b rest) = .ok (s.enc, Bx b' rest) := by
  unfold m_law_style funD d_law_style
  have a0 := tk_lo b (n := 5) (by decide)
  have a1 := tk_hi b (n := 5) (by decide)
  have b0 := tk_lo (tk b 5).2 (n := 3) (by decide)
  have b1 := tk_hi (tk b 5).2 (n := 3) (by decide)
  obtain ⟨y, ey, my⟩ := atI_mem (l := [D.int (tk b 5).1, D.int 1, D.int 2]) (i := (tk (tk b 5).2 3).1) b0 b1
  have hy : ∃ n : Int, y = .int n ∧ 0 ≤ n ∧ n ≤ 4 := by
    simp at my
    rcases my with rfl | rfl | rfl <;> exact ⟨_, rfl, by omega, by omega⟩
  obtain ⟨g, rfl, g0, g1⟩ := hy
  simp [take_eq, ixG, lstOf, ey]
  generalize (tk (tk b 5).2 3).2 = b
  have a0 := tk_lo b (n := 13) (by decide)
  have a1 := tk_hi b (n := 13) (by decide)
  have c0 := tk_lo (tk b 13).2 (n := 13) (by decide)
  have c1 := tk_hi (tk b 13).2 (n := 13) (by decide)
  have b0 := tk_lo (tk (tk b 13).2 13).2 (n := 3) (by decide)
  have b1 := tk_hi (tk (tk b 13).2 13).2 (n := 3) (by decide)
  obtain ⟨y, ez, my⟩ := atI_mem (l := [D.int 0, D.int (tk b 13).1, D.int (tk (tk b 13).2 13).1]) (i := (tk (tk (tk b 13).2 13).2 3).1) b0 b1
  have hy : ∃ n : Int, y = .int n ∧ 0 ≤ n ∧ n ≤ 12 := by
    simp at my
    rcases my with rfl | rfl | rfl <;> exact ⟨_, rfl, by omega, by omega⟩
  obtain ⟨l, rfl, l0, l1⟩ := hy
  simp [ez]
  exact ⟨⟨g, l⟩, ⟨⟨g0, g1⟩, l0, l1⟩, rfl, _, rfl⟩
/-! ### figures -/
def figs (s : List Nat) : Bool :=
  let rest := if s.take 1 = [45] then s.drop 1 else s
  decide (rest ≠ []) && rest.all fun c => decide (48 ≤ c ∧ c ≤ 57)
theorem cut_to {A : Type} (xs : List A) (k : Nat) : cutD xs none (some (k : Int)) = xs.take k := by
  unfold cutD
  rw [HT.sIx_none, HT.sIx_nat]
  simp
theorem cut_from {A : Type} (xs : List A) (k : Nat) : cutD xs (some (k : Int)) none = xs.drop k := by
  unfold cutD
  rw [HT.sIx_nat, HT.sIx_none]
  by_cases h : k ≤ xs.length
  · rw [Nat.min_eq_left h, List.take_of_length_le (by simp)]
  · rw [Nat.min_eq_right (by omega)]
    simp
    omega
def m_is_figures : FV := funD 3 d_is_figures
theorem is_figures_str (s : List Nat) (h : s.length ≤ 1000000) (st : Store) : m_is_figures [.str s] st = .ok (.bl (figs s), st) := by
  unfold m_is_figures funD d_is_figures
  have c1 : cutD s none (some 1) = s.take 1 := cut_to s 1
  have c2 : cutD s (some 1) none = s.drop 1 := cut_from s 1
  have key : ∀ rest : List Nat, rest.length ≤ 1000000 → ((eAnd (eOp (eqG true) (eV 1) (eC (.str []))) (eOp (eqG false) (eLc false (iSeq (eV 1)) [2] (.one 2) (tv (eOp (inG true) (eV 2) (eC (.str [48, 49, 50, 51, 52, 53, 54, 55, 56, 57])))) (eV 2)) (eLst false (aNil)))) [some (.str s), some (.str rest), none] st)
      = .ok (.bl (decide (rest ≠ []) && rest.all fun c => decide (48 ≤ c ∧ c ≤ 57)), st) := fun rest hr => by
    by_cases h0 : rest = []
    · simp [h0]
    · have hl : rest.length ≤ LIM := le_LIM hr
      simp [h0, itemsOf, hl]
      rw [lc_keep rfl (fun d => match d with | .str [c] => !decide (48 ≤ c ∧ c ≤ 57) | _ => true) _ (fun d hd => ?_) (by simp)]
      · have e : (rest.map fun c => D.str [c]).filter (fun d => match d with | .str [c] => !decide (48 ≤ c ∧ c ≤ 57) | _ => true) = ((rest.filter fun c => !decide (48 ≤ c ∧ c ≤ 57)).map fun c => [c]).map D.str := by
          rw [List.filter_map, List.map_map]; rfl
        simp only [e]
        rw [eq_nilD (pls_strs _) (Nat.le_trans (dps_strs _) (by decide))]
        simp only [List.map_eq_nil_iff]
        congr 3
        rw [Bool.eq_iff_iff]
        simp [List.filter_eq_nil_iff]
      · obtain ⟨c, _, rfl⟩ := List.mem_map.mp hd
        have key : (c ∈ ([48, 49, 50, 51, 52, 53, 54, 55, 56, 57] : List Nat)) ↔ (48 ≤ c ∧ c ≤ 57) := by simp; omega
        simp only [List.set_cons_succ, List.set_cons_zero, r_tv, r_eOp, r_eV, r_eC, bind_m, List.getElem?_cons_succ, List.getElem?_cons_zero, inG, if_true, decide_eq_decide.mpr key]
  by_cases hc : s.take 1 = [45]
  · have k := key (s.drop 1) (by simp; omega)
    simp only [figs, if_pos hc]
    simp [slG, c1, c2, hc, -r_eAnd]
    rw [List.drop_one] at k
    rw [k]
    simp
  · have k := key s h
    simp only [figs, if_neg hc]
    simp [slG, c1, c2, hc, -r_eAnd]
    rw [k]
    simp
/-! ### runs -/
def clo (p : Page) (c k : Nat) : Bool := match p[k]? with
  | some r => decide (c + 1 < r.length)
  | none => false
theorem clo_out {p : Page} {c k : Nat} (h : p.length ≤ k) : clo p c k = false := by
  unfold clo; rw [List.getElem?_eq_none h]
theorem clo_at {p : Page} {c k : Nat} {r : Row} (h : p[k]? = some r) : clo p c k = decide (c + 1 < r.length) := by
  unfold clo; rw [h]
theorem clo_row {p : Page} {c k : Nat} (h : clo p c k = true) : ∃ r, p[k]? = some r ∧ c + 1 < r.length := by
  unfold clo at h
  cases e : p[k]? with
  | none => rw [e] at h; cases h
  | some r => rw [e] at h; exact ⟨r, rfl, of_decide_eq_true h⟩
def rEnd (f : Nat → Bool) : Nat → Nat → Nat
  | 0, k => k
  | n + 1, k => if f k = true then rEnd f n (k + 1) else k
/-- where the run that holds k ends -/
def endOf (p : Page) (c k : Nat) : Nat := rEnd (clo p c) (p.length - k) k
theorem rEnd_eq {f : Nat → Bool} : ∀ {n k e : Nat}, k ≤ e → e ≤ k + n → (∀ j, k ≤ j → j < e → f j = true) → f e = false → rEnd f n k = e
  | 0, k, e, h1, h2, _, _ => by unfold rEnd; omega
  | n + 1, k, e, h1, h2, h3, h4 => by
    unfold rEnd
    by_cases h : k = e
    · subst h; rw [if_neg (by simp [h4])]
    · rw [if_pos (h3 k (Nat.le_refl _) (by omega))]
      exact rEnd_eq (by omega) (by omega) (fun j a b => h3 j (by omega) b) h4
theorem rEnd_ok {f : Nat → Bool} : ∀ {n k : Nat}, f (k + n) = false → k ≤ rEnd f n k ∧ rEnd f n k ≤ k + n ∧ (∀ j, k ≤ j → j < rEnd f n k → f j = true) ∧ f (rEnd f n k) = false
  | 0, k, h => by
    unfold rEnd
    exact ⟨Nat.le_refl _, Nat.le_refl _, fun j a b => by omega, h⟩
  | n + 1, k, h => by
    unfold rEnd
    by_cases hk : f k = true
    · rw [if_pos hk]
      obtain ⟨a, b, c, d⟩ := rEnd_ok (f := f) (n := n) (k := k + 1) (by rw [show k + 1 + n = k + (n + 1) by omega]; exact h)
      refine ⟨by omega, by omega, fun j x y => ?_, d⟩
      by_cases z : j = k
      · subst z; exact hk
      · exact c j (by omega) y
    · rw [if_neg hk]
      exact ⟨Nat.le_refl _, by omega, fun j a b => by omega, by simpa using hk⟩
theorem endOf_ok {p : Page} {c k : Nat} (h : k ≤ p.length) : k ≤ endOf p c k ∧ endOf p c k ≤ p.length ∧ (∀ j, k ≤ j → j < endOf p c k → clo p c j = true) ∧ clo p c (endOf p c k) = false := by
  have := rEnd_ok (f := clo p c) (n := p.length - k) (k := k) (clo_out (by omega))
  rw [show k + (p.length - k) = p.length by omega] at this
  exact this
theorem endOf_eq {p : Page} {c k e : Nat} (h : k ≤ e) (h2 : e ≤ p.length) (h3 : ∀ j, k ≤ j → j < e → clo p c j = true) (h4 : clo p c e = false) : endOf p c k = e := rEnd_eq h (by omega) h3 h4
/-- a run begins at k -/
def isB (p : Page) (c k : Nat) : Bool := clo p c k && (k == 0 || !clo p c (k - 1))
/-- begins ahead of n -/
def begs (p : Page) (c n : Nat) : List Nat := (List.range n).filter (isB p c)
theorem begs_succ (p : Page) (c n : Nat) : begs p c (n + 1) = begs p c n ++ (if isB p c n = true then [n] else []) := by
  unfold begs
  rw [List.range_succ, List.filter_append]
  congr 1
  cases h : isB p c n <;> simp [h]
/-- a stretch: its column, begin, end -/
structure Stt where
  c : Nat
  b : Nat
  e : Nat
def sttOf (p : Page) (c b : Nat) : Stt := ⟨c, b, endOf p c b⟩
def sttsC (p : Page) (c : Nat) : List Stt := (begs p c p.length).map (sttOf p c)
def stts (p : Page) : List Stt := (List.range 5).flatMap (sttsC p)
def cellAt (p : Page) (k c : Nat) : List Nat := (p.getD k []).getD c []
def cellsOf (p : Page) (s : Stt) : List (List Nat) := (List.range (s.e - s.b)).map fun k => cellAt p (s.b + k) s.c
/-- a stretch of the page -/
structure Stt.Of (p : Page) (s : Stt) : Prop where
  c4 : s.c < 5
  lt : s.b < s.e
  le : s.e ≤ p.length
  clo : ∀ j, s.b ≤ j → j < s.e → clo p s.c j = true
  fin : Dl.clo p s.c s.e = false
  beg : isB p s.c s.b = true
theorem begs_mem {p : Page} {c n b : Nat} (h : b ∈ begs p c n) : b < n ∧ isB p c b = true := by
  unfold begs at h
  rw [List.mem_filter, List.mem_range] at h
  exact h
theorem stts_mem {p : Page} {s : Stt} (h : s ∈ stts p) : s.Of p := by
  unfold stts at h
  rw [List.mem_flatMap] at h
  obtain ⟨c, hc, h⟩ := h
  obtain ⟨b, hb, rfl⟩ := List.mem_map.mp h
  obtain ⟨h1, h2⟩ := begs_mem hb
  have e := endOf_ok (p := p) (c := c) (k := b) (by omega)
  have hb : clo p c b = true := by simp only [isB, Bool.and_eq_true] at h2; exact h2.1
  have hne : b ≠ endOf p c b := fun z => by rw [← z, hb] at e; cases e.2.2.2
  exact ⟨List.mem_range.mp hc, by show b < endOf p c b; omega, e.2.1, e.2.2.1, e.2.2.2, h2⟩
end Dl
/-! ## B7 -/
/-! Stretches as objects. -/
namespace Dl
open PySem L2
@[simp high] theorem low0 : ((-1000000 : Int) ≤ 0) = True := eq_true (by decide)
@[simp high] theorem hi0 : ((0 : Int) ≤ 1000000) = True := eq_true (by decide)
section
variable (env : Env) (st : Store)
@[simp] theorem r_eMake (c n : Nat) (g : FV) (ga : AV) : eMake c n g ga env st = (ga env st).bind fun a => if a.1.length + 1 = n then (g (.ref a.2.length :: a.1) (a.2 ++ [.ins c []])).bind fun b => match b.1 with
  | .non => .ok (.ref a.2.length, b.2)
  | _ => .bad else .bad := rfl
@[simp] theorem r_eMeth (c : Nat) (m : Str) (n : Nat) (g : FV) (fo : EV) (ga : AV) : eMeth c m n g fo ga env st = (fo env st).bind fun o => match o.1 with
  | .ref i => match o.2[i]? with
    | some (.ins c' fs) => if c' = c ∧ fs.lookup m = none then (ga env o.2).bind fun a => if a.1.length + 1 = n then g (.ref i :: a.1) a.2 else .bad else .bad
    | _ => .bad
  | _ => .bad := rfl
@[simp] theorem r_sFldD (c : Nat) (f : Str) (fo fv : EV) : sFldD c f fo fv env st = sOf (fv env st) fun v => sOf (fo env v.2) fun o => match o.1 with
  | .ref i => match o.2[i]? with
    | some (.ins c' fs) => if c' = c ∧ fs.length < 900 then .nx env (o.2.set i (.ins c' (putD f v.1 fs))) else .bad
    | _ => .bad
  | _ => .bad := rfl
end
def stFs (s : Stt) (cells : List (List Nat)) : List (Str × D) := [("column", .int s.c), ("begin", .int s.b), ("end", .int s.e), ("cells", .lst (cells.map .str))]
def stOb (p : Page) (s : Stt) : Ob := .ins 12 (stFs s (cellsOf p s))
theorem st_col (s : Stt) (cells : List (List Nat)) : (stFs s cells).lookup ("column" : Str) = some (.int s.c) := by
  unfold stFs
  rw [List.lookup_cons, show (("column" : Str) == "column") = true by decide +kernel]
theorem st_beg (s : Stt) (cells : List (List Nat)) : (stFs s cells).lookup ("begin" : Str) = some (.int s.b) := by
  unfold stFs
  rw [List.lookup_cons, show (("begin" : Str) == "column") = false by decide +kernel, List.lookup_cons, show (("begin" : Str) == "begin") = true by decide +kernel]
theorem st_end (s : Stt) (cells : List (List Nat)) : (stFs s cells).lookup ("end" : Str) = some (.int s.e) := by
  unfold stFs
  rw [List.lookup_cons, show (("end" : Str) == "column") = false by decide +kernel, List.lookup_cons, show (("end" : Str) == "begin") = false by decide +kernel, List.lookup_cons, show (("end" : Str) == "end") = true by decide +kernel]
theorem st_cells (s : Stt) (cells : List (List Nat)) : (stFs s cells).lookup ("cells" : Str) = some (.lst (cells.map .str)) := by
  unfold stFs
  rw [List.lookup_cons, show (("cells" : Str) == "column") = false by decide +kernel, List.lookup_cons, show (("cells" : Str) == "begin") = false by decide +kernel, List.lookup_cons, show (("cells" : Str) == "end") = false by decide +kernel, List.lookup_cons, show (("cells" : Str) == "cells") = true by decide +kernel]
theorem st_no {m : Str} (s : Stt) (cells : List (List Nat)) (h1 : (m == "column") = false) (h2 : (m == "begin") = false) (h3 : (m == "end") = false) (h4 : (m == "cells") = false) : (stFs s cells).lookup m = none := by
  unfold stFs
  rw [List.lookup_cons, h1, List.lookup_cons, h2, List.lookup_cons, h3, List.lookup_cons, h4]; rfl
theorem st_width (s : Stt) (cells : List (List Nat)) : (stFs s cells).lookup ("width" : Str) = none := st_no s cells (by decide +kernel) (by decide +kernel) (by decide +kernel) (by decide +kernel)
theorem st_right (s : Stt) (cells : List (List Nat)) : (stFs s cells).lookup ("is_right" : Str) = none := st_no s cells (by decide +kernel) (by decide +kernel) (by decide +kernel) (by decide +kernel)
theorem st_holders (s : Stt) (cells : List (List Nat)) : (stFs s cells).lookup ("holders" : Str) = none := st_no s cells (by decide +kernel) (by decide +kernel) (by decide +kernel) (by decide +kernel)
theorem put_st (a b c d : D) : putD "cells" d (putD "end" c (putD "begin" b (putD "column" a []))) = ([("column", a), ("begin", b), ("end", c), ("cells", d)] : List (Str × D)) := by
  simp only [putD, show ¬ (("column" : Str) = "begin") by decide +kernel, show ¬ (("column" : Str) = "end") by decide +kernel, show ¬ (("column" : Str) = "cells") by decide +kernel, show ¬ (("begin" : Str) = "end") by decide +kernel, show ¬ (("begin" : Str) = "cells") by decide +kernel, show ¬ (("end" : Str) = "cells") by decide +kernel, if_false]
theorem put_len (f : Str) (v : D) : ∀ l : List (Str × D), (putD f v l).length ≤ l.length + 1
  | [] => by simp [putD]
  | (g, u) :: r => by
    unfold putD
    split
    · simp
    · simp only [List.length_cons]; have := put_len f v r; omega
def m_Stretch_init : FV := funD 4 d_Stretch_init
theorem Stretch_init_ok (st : Store) (c b : Nat) (cells : List (List Nat)) : m_Stretch_init [.ref st.length, .int c, .int b, .lst (cells.map .str)] (st ++ [.ins 12 []]) = .ok (.non, st ++ [.ins 12 (stFs ⟨c, b, b + cells.length⟩ cells)]) := by
  unfold m_Stretch_init funD d_Stretch_init
  have l1 := put_len "column" (.int c) []
  have l2 := put_len "begin" (.int b) (putD "column" (.int c) [])
  have l3 := put_len "end" (.int (b + cells.length)) (putD "begin" (.int b) (putD "column" (.int c) []))
  have z : ([] : List (Str × D)).length = 0 := rfl
  rw [z] at l1
  have q1 : (putD "column" (D.int c) []).length < 900 := by omega
  have q2 : (putD "begin" (D.int b) (putD "column" (.int c) [])).length < 900 := by omega
  have q3 : (putD "end" (D.int (b + cells.length)) (putD "begin" (.int b) (putD "column" (.int c) []))).length < 900 := by omega
  clear l1 l2 l3 z
  have pe := put_st (.int c) (.int b) (.int (b + cells.length)) (.lst (cells.map .str))
  simp [addG, lenG, lstOf, q1, q2, q3, pe, stFs]
/-- the references from k on -/
def refs (k n : Nat) : List D := (List.range n).map fun i => .ref (k + i)
theorem refs_succ (k n : Nat) : refs k (n + 1) = refs k n ++ [.ref (k + n)] := by
  unfold refs; rw [List.range_succ, List.map_append]; rfl
@[simp] theorem refs_len (k n : Nat) : (refs k n).length = n := by simp [refs]
def m_stretches_of : FV := funD 9 (d_stretches_of m_Stretch_init)
theorem cellsOf_len (p : Page) (s : Stt) : (cellsOf p s).length = s.e - s.b := by simp [cellsOf]
theorem st_test {p : Page} {d : D} {w : List (Nat × List D)} {S : Store} (hd : listOf S d = some (encP p, w)) (c i : Nat) (a2 a4 a5 a7 a8 : Option D) :
    (eAnd (eOp ltG (eV 6) (eV 3)) (eOp gtG (eB lenG (aCons (eOp ixG (eV 0) (eV 6)) (aNil))) (eOp (addG false) (eV 1) (eC (.int 1)))))
      [some d, some (.int c), a2, some (.int p.length), a4, a5, some (.int i), a7, a8] S = .ok (.bl (clo p c i), S) := by
  by_cases hl : i < p.length
  · obtain ⟨r, hr⟩ : ∃ r, p[i]? = some r := ⟨p[i], by simp [hl]⟩
    have ei : atI (encP p) (i : Int) = some (encR r) := by rw [atI_nat]; simp [encP, hr]
    have hcl : decide ((c : Int) + 1 < (r.length : Int)) = clo p c i := by
      rw [clo_at hr]
      exact decide_eq_decide.mpr (by omega)
    simp [ltG, hl, ix_list hd, ei, addG, gtG]
    simp [encR, lenG, hcl]
  · rw [clo_out (by omega)]
    simp [ltG, hl]
theorem st_made {p : Page} (hp : okPage p = true) {d : D} {w : List (Nat × List D)} {S : Store} (hd : listOf S d = some (encP p, w)) (c b i L : Nat) (rs : List D) (hL : S[L]? = some (.lst rs)) (hrs : rs.length < 100) (hb : b < i) (hi : i ≤ p.length) (hcl : ∀ j, b ≤ j → j < i → clo p c j = true) (a2 a3 a7 a8 : Option D) :
    (sCons (sExpr (eMt "list" (appendG) (eV 4) (aCons (eMake 12 4 m_Stretch_init (aCons (eV 1) (aCons (eV 5) (aCons (eLc false (iR2 (aCons (eV 5) (aCons (eV 6) (aNil)))) [8] (.one 8) (tYesD) (eOp ixG (eOp ixG (eV 0) (eV 8)) (eV 1))) (aNil))))) (aNil)))) (sAsg (eC .non) (gN 5)))
      [some d, some (.int c), a2, a3, some (.ref L), some (.int b), some (.int i), a7, a8] S = .nx [some d, some (.int c), a2, a3, some (.ref L), some .non, some (.int i), a7, a8] ((S ++ [stOb p ⟨c, b, i⟩]).set L (.lst (rs ++ [.ref S.length]))) := by
  obtain ⟨p1, p2, p3⟩ := okPage_parts hp
  have tm : tyM S (.ref L) = some "list" := by simp [tyM, hL]
  have mb : (-1000000 ≤ (b : Int) ∧ (b : Int) ≤ 1000000) ∧ -1000000 ≤ (i : Int) ∧ (i : Int) ≤ 1000000 := by omega
  have hl : i - b ≤ LIM := le_LIM (by omega)
  have en : ((i : Int) - (b : Int)).toNat = i - b := by omega
  rw [r_sCons, r_sExpr]
  simp only [eMt, r_eV, List.getElem?_cons_succ, List.getElem?_cons_zero, R.bind_ok, tm, if_true, r_aCons, r_aNil, r_eMake, r_eLc, r_iR2, mb, and_self, en, lcS_ok, intsD_len, hl, wipe_cons, wipe_nil, List.set_cons_succ, List.set_cons_zero]
  generalize q : lcGo _ _ _ _ _ _ _ _ = r
  obtain ⟨acc, s, rfl, rfl, rfl⟩ := lc_at q (fun j acc st' => S = st' ∧ acc = ((List.range j).map fun k => cellAt p (b + k) c).map D.str) ⟨rfl, rfl⟩ (fun _ _ _ _ _ => rfl) (fun j x acc st' hj ⟨e1, e2⟩ => by
    subst e1 e2
    have hj' := (List.getElem?_eq_some_iff.mp hj).1
    rw [intsD_len] at hj'
    rw [ints_at _ _ _ hj'] at hj
    cases hj
    obtain ⟨r, hr, hc⟩ := clo_row (hcl (b + j) (by omega) (by omega))
    have ei : atI (encP p) ((b : Int) + (j : Int)) = some (encR r) := by
      rw [show (b : Int) + (j : Int) = ((b + j : Nat) : Int) by omega, atI_nat]; simp [encP, hr]
    have ec : atI (r.map D.str) (c : Int) = some (.str (cellAt p (b + j) c)) := by
      rw [atI_nat]
      simp [cellAt, hr, show c < r.length by omega]
    refine ⟨_, rfl, ?_⟩
    simp [ix_list hd, ei]
    simp [ixG, encR, ec, List.range_succ])
  have ini := Stretch_init_ok S c b ((List.range (i - b)).map fun k => cellAt p (b + k) c)
  have e1 : b + (i - b) = i := by omega
  rw [List.length_map, List.length_range, e1] at ini
  have eo : Ob.ins 12 (stFs ⟨c, b, i⟩ ((List.range (i - b)).map fun k => cellAt p (b + k) c)) = stOb p ⟨c, b, i⟩ := rfl
  rw [eo] at ini
  have hL' : (S ++ [stOb p ⟨c, b, i⟩])[L]? = some (.lst rs) := Stays.app _ _ _ _ hL
  have hrl : rs.length < LIM := lt_LIM (by omega)
  rw [intsD_len]
  simp only [R.bind_ok, r_newF, List.length_cons, List.length_nil, if_true, ini]
  simp [appendG, hL', hrl]
theorem stretches_of_ok {p : Page} (hp : okPage p = true) {d : D} {w : List (Nat × List D)} {st : Store} (hd : listOf st d = some (encP p, w)) (c : Nat) (hc : c < 5) :
    m_stretches_of [d, .int c, .int 0, .int p.length] st = .ok (.ref st.length, st ++ .lst (refs (st.length + 1) (sttsC p c).length) :: (sttsC p c).map (stOb p)) := by
  rw [m_stretches_of, funD, d_stretches_of]
  obtain ⟨p1, p2, p3⟩ := okPage_parts hp
  have m1 : -1000000 ≤ (p.length : Int) + 1 ∧ (p.length : Int) + 1 ≤ 1000000 := by omega
  have e1 : ((p.length : Int) + 1).toNat = p.length + 1 := by omega
  simp [addG, m1, e1]
  generalize q : forGo _ _ _ _ _ _ = r
  obtain ⟨e, s, rfl, Bs, first, a6, a7, a8, rfl, rfl, hI⟩ := for_at q (fun i env st' => ∃ (Bs : List Nat) (first a6 a7 a8 : Option D), st' = st ++ .lst (refs (st.length + 1) Bs.length) :: (Bs.map (sttOf p c)).map (stOb p) ∧
      env = [some d, some (.int c), some (.int 0), some (.int p.length), some (.ref st.length), first, a6, a7, a8] ∧
      ((first = some .non ∧ Bs = begs p c i ∧ (i = 0 ∨ clo p c (i - 1) = false)) ∨ ∃ b : Nat, first = some (.int (b : Int)) ∧ begs p c i = Bs ++ [b] ∧ b < i ∧ ∀ j, b ≤ j → j < i → clo p c j = true))
    ⟨[], _, _, _, _, by simp [refs], rfl, .inl ⟨rfl, rfl, .inl rfl⟩⟩ (fun _ _ _ _ _ => rfl) (fun i x env st' hi ⟨Bs, first, a6, a7, a8, e1, e2, hI⟩ => by
      subst e1 e2
      obtain ⟨hi, rfl⟩ := ints_get hi
      have hd' : listOf (st ++ .lst (refs (st.length + 1) Bs.length) :: (Bs.map (sttOf p c)).map (stOb p)) d = some (encP p, w) := listOf_stays (Stays.app _ _) hd
      simp only [r_gN, sOf_ok, r_sCons, List.set_cons_succ, List.set_cons_zero, r_sAsg]
      rw [st_test hd']
      have hBl : ∀ n, (begs p c n).length ≤ n := fun n => by
        unfold begs
        exact Nat.le_trans (List.length_filter_le _ _) (by simp)
      rcases hI with ⟨rfl, hB, h0⟩ | ⟨b, rfl, hB, hb, hcl⟩
      · cases hc : clo p c i with
        | true =>
          have hi : isB p c i = true := by
            rcases h0 with h0 | h0
            · subst h0; simp [isB, hc]
            · simp [isB, hc, h0]
          simp [isG]
          exact ⟨Bs, ⟨rfl, rfl⟩, i, rfl, by rw [begs_succ, hi, hB]; rfl, by omega, fun j h1 h2 => by rw [show j = i by omega]; exact hc⟩
        | false =>
          have hi : isB p c i = false := by simp [isB, hc]
          simp [isG]
          exact ⟨Bs, ⟨rfl, rfl⟩, by rw [begs_succ, hi, hB]; simp, hc⟩
      · cases hc : clo p c i with
        | true =>
          have hi : isB p c i = false := by
            have := hcl (i - 1) (by omega) (by omega)
            simp [isB, hc, this]
            omega
          simp [isG]
          refine ⟨Bs, ⟨rfl, rfl⟩, b, rfl, by rw [begs_succ, hi, hB]; simp, by omega, fun j h1 h2 => ?_⟩
          by_cases z : j = i
          · rw [z]; exact hc
          · exact hcl j h1 (by omega)
        | false =>
          have hi : isB p c i = false := by simp [isB, hc]
          have hlen := hBl i
          rw [hB] at hlen
          simp at hlen
          have made := st_made (S := st ++ .lst (refs (st.length + 1) Bs.length) :: (Bs.map (sttOf p c)).map (stOb p)) hp hd' c b i st.length (refs (st.length + 1) Bs.length) (by simp) (by simp; omega) hb (by omega) hcl (some (.int 0)) (some (.int p.length)) (some (.bl false)) a8
          have en : endOf p c b = i := endOf_eq (by omega) (by omega) hcl hc
          rw [sOf_ok, then_nx, r_sCons, r_sIf]
          simp only [r_tAndD, r_tNotD, r_tv, r_eV, r_eOp, r_eC, isG, List.getElem?_cons_succ, List.getElem?_cons_zero, R.bind_ok, ifS_ok, r_sNext, then_nx, r_sIf, if_true, Bool.false_eq_true, if_false, Bool.not_false, Bool.not_true]
          rw [made, turn_nx]
          refine ⟨Bs ++ [b], _, _, _, _, ?_, rfl, .inl ⟨rfl, by rw [begs_succ, hi, hB]; simp, .inr (by simpa using hc)⟩⟩
          have eL : (st ++ Ob.lst (refs (st.length + 1) Bs.length) :: List.map (stOb p) (List.map (sttOf p c) Bs)).length = st.length + 1 + Bs.length := by simp; omega
          rw [eL, ← refs_succ, List.append_assoc, List.set_append_right _ _ (Nat.le_refl _)]
          simp [sttOf, en])
  rw [intsD_len] at hI
  have last : begs p c (p.length + 1) = begs p c p.length := by
    rw [begs_succ, show isB p c p.length = false by simp [isB, clo_out (p := p) (c := c) (Nat.le_refl _)]]
    simp
  rcases hI with ⟨_, hB, _⟩ | ⟨b, _, _, hb, hcl⟩
  · rw [last] at hB
    subst hB
    simp [sttsC]
  · have := hcl p.length (by omega) (by omega)
    rw [clo_out (Nat.le_refl _)] at this
    cases this
end Dl
/-! ## B8 -/
/-! All stretches; width, is_right, holders. -/
namespace Dl
open PySem L2
/-- d is the stretch s of p in the store -/
def IsSt (p : Page) (st : Store) (d : D) (s : Stt) : Prop := ∃ k : Nat, d = .ref k ∧ st[k]? = some (stOb p s)
theorem isSt_refs (p : Page) : ∀ (ss : List Stt) (k : Nat) (st : Store), (∀ i, i < ss.length → st[k + i]? = (ss.map (stOb p))[i]?) → All2 (IsSt p st) (refs k ss.length) ss
  | [], k, st, _ => trivial
  | s :: ss, k, st, h => by
    have e : refs k (s :: ss).length = .ref k :: refs (k + 1) ss.length := by
      unfold refs
      rw [List.length_cons, List.range_succ_eq_map, List.map_cons, List.map_map]
      congr 1
      refine List.map_congr_left fun a _ => ?_
      show D.ref (k + (a + 1)) = D.ref (k + 1 + a)
      congr 1; omega
    rw [e]
    refine ⟨⟨k, rfl, by have := h 0 (by simp); simpa using this⟩, isSt_refs p ss (k + 1) st fun i hi => ?_⟩
    have := h (i + 1) (by simp; omega)
    rw [show k + 1 + i = k + (i + 1) by omega, this]
    simp
theorem IsSt.stays {p : Page} {st st' : Store} (h : ∀ (k : Nat) (fs : List (Str × D)), st[k]? = some (.ins 12 fs) → st'[k]? = some (.ins 12 fs)) {d : D} {s : Stt} (x : IsSt p st d s) : IsSt p st' d s :=
  let ⟨k, a, b⟩ := x; ⟨k, a, h k _ b⟩
def m_all_stretches : FV := funD 3 (d_all_stretches m_stretches_of)
theorem sttsC_le (p : Page) (c : Nat) : (sttsC p c).length ≤ p.length := by
  unfold sttsC begs
  rw [List.length_map]
  exact Nat.le_trans (List.length_filter_le _ _) (by simp)
theorem flat_le (p : Page) : ∀ i, ((List.range i).flatMap (sttsC p)).length ≤ p.length * i
  | 0 => by simp
  | i + 1 => by
    have h1 := flat_le p i
    have h2 := sttsC_le p i
    rw [List.range_succ, List.flatMap_append, List.length_append, Nat.mul_succ]
    simp only [List.flatMap_cons, List.flatMap_nil, List.append_nil]
    omega
theorem all_stretches_ok {p : Page} (hp : okPage p = true) {d : D} {w : List (Nat × List D)} {st : Store} (hd : listOf st d = some (encP p, w)) :
    ∃ R more, m_all_stretches [d] st = .ok (.ref st.length, st ++ .lst R :: more) ∧ All2 (IsSt p (st ++ .lst R :: more)) R (stts p) := by
  rw [m_all_stretches, funD, d_all_stretches]
  obtain ⟨p1, p2, p3⟩ := okPage_parts hp
  simp [subG, show (5 : Int).toNat = 5 from rfl]
  generalize q : forGo _ _ _ _ _ _ = r
  obtain ⟨e, s, rfl, R, more, a2, rfl, rfl, hR⟩ := for_at q (fun i env st' => ∃ R more a2, st' = st ++ .lst R :: more ∧ env = [some d, some (.ref st.length), a2] ∧ All2 (IsSt p st') R ((List.range i).flatMap (sttsC p)))
    ⟨[], [], _, rfl, rfl, trivial⟩ (fun _ _ _ _ _ => rfl) (fun i x env st' hi ⟨R, more, a2, e1, e2, hR⟩ => by
      subst e1 e2
      obtain ⟨hi, rfl⟩ := ints_get hi
      have hd' : listOf (st ++ .lst R :: more) d = some (encP p, w) := listOf_stays (Stays.app _ _) hd
      have so := stretches_of_ok hp hd' i (by omega)
      have ln := len_list hd'
      simp only [encP_len] at ln
      have Rl : R.length ≤ 30 * i := by
        rw [hR.len]
        exact Nat.le_trans (flat_le p i) (Nat.mul_le_mul_right _ p2)
      have lm : R.length + (sttsC p i).length ≤ LIM := le_LIM (by have := sttsC_le p i; omega)
      have t1 : (st ++ .lst R :: more ++ .lst (refs ((st ++ .lst R :: more).length + 1) (sttsC p i).length) :: (sttsC p i).map (stOb p))[st.length]? = some (.lst R) := by simp
      have t2 : lstOf (st ++ .lst R :: more ++ .lst (refs ((st ++ .lst R :: more).length + 1) (sttsC p i).length) :: (sttsC p i).map (stOb p)) (.ref (st ++ .lst R :: more).length) = some (refs ((st ++ .lst R :: more).length + 1) (sttsC p i).length) := by simp [lstOf]
      have t3 : (st ++ .lst R :: more ++ .lst (refs ((st ++ .lst R :: more).length + 1) (sttsC p i).length) :: (sttsC p i).map (stOb p)).set st.length (.lst (R ++ refs ((st ++ .lst R :: more).length + 1) (sttsC p i).length)) = st ++ .lst (R ++ refs ((st ++ .lst R :: more).length + 1) (sttsC p i).length) :: (more ++ .lst (refs ((st ++ .lst R :: more).length + 1) (sttsC p i).length) :: (sttsC p i).map (stOb p)) := by simp
      have tm : tyM (st ++ .lst R :: more) (.ref st.length) = some "list" := by simp [tyM]
      have ex : extendG (st ++ .lst R :: more ++ .lst (refs ((st ++ .lst R :: more).length + 1) (sttsC p i).length) :: (sttsC p i).map (stOb p)) (.ref st.length) [.ref (st ++ .lst R :: more).length] = .ok (.non, st ++ .lst (R ++ refs ((st ++ .lst R :: more).length + 1) (sttsC p i).length) :: (more ++ .lst (refs ((st ++ .lst R :: more).length + 1) (sttsC p i).length) :: (sttsC p i).map (stOb p))) := by
        unfold extendG
        simp only [t1, t2, refs_len, lm, if_true, t3]
      have nx : All2 (IsSt p (st ++ .lst (R ++ refs ((st ++ .lst R :: more).length + 1) (sttsC p i).length) :: (more ++ .lst (refs ((st ++ .lst R :: more).length + 1) (sttsC p i).length) :: (sttsC p i).map (stOb p)))) (R ++ refs ((st ++ .lst R :: more).length + 1) (sttsC p i).length) ((List.range (i + 1)).flatMap (sttsC p)) := by
        have h1 : All2 (IsSt p (st ++ .lst (R ++ refs ((st ++ .lst R :: more).length + 1) (sttsC p i).length) :: (more ++ .lst (refs ((st ++ .lst R :: more).length + 1) (sttsC p i).length) :: (sttsC p i).map (stOb p)))) R ((List.range i).flatMap (sttsC p)) := by
          refine hR.imp fun a b x => x.stays fun k fs e => ?_
          rw [← t3, List.getElem?_set_ne (by intro z; rw [← z] at e; simp at e)]
          rw [List.getElem?_append_left (List.getElem?_eq_some_iff.mp e).1]; exact e
        have h2 : All2 (IsSt p (st ++ .lst (R ++ refs ((st ++ .lst R :: more).length + 1) (sttsC p i).length) :: (more ++ .lst (refs ((st ++ .lst R :: more).length + 1) (sttsC p i).length) :: (sttsC p i).map (stOb p)))) (refs ((st ++ .lst R :: more).length + 1) (sttsC p i).length) (sttsC p i) := by
          refine isSt_refs p _ _ _ fun j hj => ?_
          rw [← t3, List.getElem?_set_ne (by simp; omega), List.getElem?_append_right (by omega), show (st ++ .lst R :: more).length + 1 + j - (st ++ .lst R :: more).length = j + 1 by omega]
          rfl
        rw [List.range_succ, List.flatMap_append]
        simp only [List.flatMap_cons, List.flatMap_nil, List.append_nil]
        exact All2.app h1 h2
      generalize st ++ .lst R :: more = S at so ln tm ex nx
      simp [so, ln, tm, ex]
      exact nx)
  rw [intsD_len] at hR
  simp
  exact ⟨R, more, ⟨rfl, rfl⟩, hR⟩
end Dl
/-! ## B9 -/
/-! A stretch's width, side, holders. -/
namespace Dl
open PySem L2
/-- the longest cell -/
def most (ss : List (List Nat)) : Int := maxL (ss.map fun s => (s.length : Int))
def wid (y : Sty) (ss : List (List Nat)) : Int := max y.l (most ss + y.g)
def right (ss : List (List Nat)) : Bool := decide (ss.filter (fun s => decide (s ≠ [])) ≠ []) && (ss.filter fun s => decide (s ≠ [])).all figs
def hold (y : Sty) (b : Nat) (ss : List (List Nat)) : List Int := if most ss + y.g ≤ y.l then [] else ((List.range ss.length).filter fun k => decide (((ss.getD k []).length : Int) = most ss)).map fun k => ((b + k : Nat) : Int)
/-- a stretch's object in the store -/
def StAt (p : Page) (st : Store) (k : Nat) (s : Stt) : Prop := st[k]? = some (stOb p s)
theorem fld_cells {p : Page} {st : Store} {k : Nat} {s : Stt} (h : StAt p st k s) (env : Env) (i : Nat) (hi : env[i]? = some (some (.ref k))) : eFld 12 "cells" (eV i) env st = .ok (.lst ((cellsOf p s).map .str), st) := by
  unfold StAt stOb at h
  simp only [eFld, r_eV, hi, R.bind_ok, h, if_true, st_cells]
theorem fld_begin {p : Page} {st : Store} {k : Nat} {s : Stt} (h : StAt p st k s) (env : Env) (i : Nat) (hi : env[i]? = some (some (.ref k))) : eFld 12 "begin" (eV i) env st = .ok (.int s.b, st) := by
  unfold StAt stOb at h
  simp only [eFld, r_eV, hi, R.bind_ok, h, if_true, st_beg]
theorem fld_end {p : Page} {st : Store} {k : Nat} {s : Stt} (h : StAt p st k s) (env : Env) (i : Nat) (hi : env[i]? = some (some (.ref k))) : eFld 12 "end" (eV i) env st = .ok (.int s.e, st) := by
  unfold StAt stOb at h
  simp only [eFld, r_eV, hi, R.bind_ok, h, if_true, st_end]
theorem fld_column {p : Page} {st : Store} {k : Nat} {s : Stt} (h : StAt p st k s) (env : Env) (i : Nat) (hi : env[i]? = some (some (.ref k))) : eFld 12 "column" (eV i) env st = .ok (.int s.c, st) := by
  unfold StAt stOb at h
  simp only [eFld, r_eV, hi, R.bind_ok, h, if_true, st_col]
theorem cells_fit {p : Page} {s : Stt} (hp : okPage p = true) (hs : s.Of p) : (cellsOf p s).length ≤ 30 ∧ cellsOf p s ≠ [] ∧ ∀ c ∈ cellsOf p s, okCell c = true := by
  obtain ⟨p1, p2, p3⟩ := okPage_parts hp
  have h1 := hs.lt
  have h2 := hs.le
  refine ⟨by rw [cellsOf_len]; omega, fun z => by have := cellsOf_len p s; rw [z] at this; simp at this; omega, fun c hc => ?_⟩
  obtain ⟨k, hk, rfl⟩ := List.mem_map.mp hc
  rw [List.mem_range] at hk
  obtain ⟨r, hr, hl⟩ := clo_row (hs.clo (s.b + k) (by omega) (by omega))
  have hrow := okRow_parts (p3 r (List.mem_of_getElem? hr))
  have e : cellAt p (s.b + k) s.c = r[s.c] := by
    simp [cellAt, hr, show s.c < r.length by omega]
  rw [e]
  exact hrow.2.2 _ (by simp)
/-- the lengths of the cells, by a comprehension -/
theorem lens_ok (ss : List (List Nat)) (env : Env) (j : Nat) (hj : j < env.length) (st : Store) : lcGo [] (.one j) tYesD (eB lenG (aCons (eV j) (aNil))) env (ss.map D.str) [] st = .ok ((ss.map fun s => (s.length : Int)).map D.int, st) := by
  rw [lc_map rfl (fun d => match d with | .str s => .int s.length | _ => .non) _ fun d hd => ?_]
  · rw [List.map_map, List.map_map]; rfl
  · obtain ⟨s, _, rfl⟩ := List.mem_map.mp hd
    exact ⟨_, rfl, by simp [hj, lenG]⟩
@[simp] theorem maxG2 (a b : Int) (st : Store) : maxG st [.int a, .int b] = .ok (.int (max a b), st) := (rfl)
@[simp] theorem minG2 (a b : Int) (st : Store) : minG st [.int a, .int b] = .ok (.int (min a b), st) := (rfl)
theorem most_ok (ss : List (List Nat)) (h : ss ≠ []) (st : Store) : maxG st [.lst (ss.map (D.int ∘ fun s => (s.length : Int)))] = .ok (.int (most ss), st) := by
  rw [← List.map_map]
  have ne : ss.map (fun s => (s.length : Int)) ≠ [] := by simpa using h
  unfold maxG
  simp only [lstOf, Option.bind_some, intsOf_map, if_pos ne, most]
def m_Stretch_width : FV := funD 3 d_Stretch_width
theorem width_ok {p : Page} (hp : okPage p = true) {s : Stt} (hs : s.Of p) {st : Store} {k : Nat} (h : StAt p st k s) (y : Sty) : m_Stretch_width [.ref k, y.enc] st = .ok (.int (wid y (cellsOf p s)), st) := by
  rw [m_Stretch_width, funD, d_Stretch_width]
  obtain ⟨c1, c2, c3⟩ := cells_fit hp hs
  have f := fld_cells h [some (.ref k), some (.tup [.int y.g, .int y.l]), none] 0 rfl
  have hl : (cellsOf p s).length ≤ LIM := le_LIM (by omega)
  have ln := lens_ok (cellsOf p s) [some (.ref k), some (.tup [.int y.g, .int y.l]), none] 2 (by simp) st
  have ne : (cellsOf p s).map (fun s => (s.length : Int)) ≠ [] := by simpa using c2
  simp [f, itemsOf, hl, ln, Sty.enc, ixG, -r_eFld, most_ok _ c2, addG, wid]
def m_Stretch_is_right : FV := funD 3 (d_Stretch_is_right m_is_figures)
theorem is_right_ok {p : Page} (hp : okPage p = true) {s : Stt} (hs : s.Of p) {st : Store} {k : Nat} (h : StAt p st k s) : m_Stretch_is_right [.ref k] st = .ok (.bl (right (cellsOf p s)), st) := by
  rw [m_Stretch_is_right, funD, d_Stretch_is_right]
  obtain ⟨c1, c2, c3⟩ := cells_fit hp hs
  have f := fld_cells h [some (.ref k), none, none] 0 rfl
  have hl : (cellsOf p s).length ≤ LIM := le_LIM (by omega)
  generalize cellsOf p s = ss at f hl c3 ⊢
  have l1 : lcGo [] (.one 2) (tv (eOp (eqG true) (eV 2) (eC (.str [])))) (eV 2) [some (.ref k), none, none] (ss.map D.str) [] st = .ok ((ss.filter fun s => decide (s ≠ [])).map D.str, st) := by
    rw [lc_keep rfl (fun d => match d with | .str c => decide (c ≠ []) | _ => true) _ (fun d hd => ?_) (by simp)]
    · rw [List.filter_map]; rfl
    · obtain ⟨c, _, rfl⟩ := List.mem_map.mp hd
      simp
  have hl2 : (ss.filter fun s => decide (s ≠ [])).length ≤ LIM := Nat.le_trans (List.length_filter_le _ _) hl
  have l2 : lcGo [] (.one 2) (tNotD (tv (eCall 1 m_is_figures (aCons (eV 2) (aNil))))) (eV 2) [some (.ref k), some (.lst ((ss.filter fun s => decide (s ≠ [])).map D.str)), none] ((ss.filter fun s => decide (s ≠ [])).map D.str) [] st = .ok (((ss.filter fun s => decide (s ≠ [])).filter fun s => !figs s).map D.str, st) := by
    rw [lc_keep rfl (fun d => match d with | .str c => !figs c | _ => true) _ (fun d hd => ?_) (by simp)]
    · rw [List.filter_map]; rfl
    · obtain ⟨c, hc, rfl⟩ := List.mem_map.mp hd
      have := (okCell_parts (c3 c (List.mem_filter.mp hc).1)).1
      simp [is_figures_str c (by omega)]
  unfold right
  generalize (ss.filter fun s => decide (s ≠ [])) = full at l1 l2 hl2 ⊢
  have e1 : eqG true st (.lst (full.map D.str)) (.lst []) = .ok (.bl (decide (full ≠ [])), st) := by
    rw [eqG_pl (by simp) rfl (by have := dps_strs full; simp; omega) (by simp)]
    simp
  have e2 : ∀ l : List (List Nat), eqG false st (.lst (l.map D.str)) (.lst []) = .ok (.bl (decide (l = [])), st) := fun l => by
    rw [eq_nilD (pls_strs _) (Nat.le_trans (dps_strs _) (by decide))]
    simp
  by_cases hf : full = []
  · subst hf
    have e0 : eqG true st (.lst []) (.lst []) = .ok (.bl false, st) := by simpa using e1
    simp [f, itemsOf, hl, l1, -r_eFld, e0]
  · simp [f, itemsOf, hl, l1, -r_eFld, e1, hf, hl2, l2, e2]
    rw [Bool.eq_iff_iff]
    simp [List.filter_eq_nil_iff]
def m_Stretch_holders : FV := funD 5 d_Stretch_holders
theorem holders_ok {p : Page} (hp : okPage p = true) {s : Stt} (hs : s.Of p) {st : Store} {k : Nat} (h : StAt p st k s) (y : Sty) : m_Stretch_holders [.ref k, y.enc] st = .ok (.ref st.length, st ++ [.lst ((hold y s.b (cellsOf p s)).map .int)]) := by
  rw [m_Stretch_holders, funD, d_Stretch_holders]
  obtain ⟨c1, c2, c3⟩ := cells_fit hp hs
  have f := fld_cells h [some (.ref k), some (.tup [.int y.g, .int y.l]), none, none, none] 0 rfl
  have f2 := fld_cells h [some (.ref k), some (.tup [.int y.g, .int y.l]), some (.int (most (cellsOf p s))), none, none] 0 rfl
  have f3 : ∀ a, eFld 12 "cells" (eV 0) [some (.ref k), some (.tup [.int y.g, .int y.l]), some (.int (most (cellsOf p s))), none, a] st = .ok (.lst ((cellsOf p s).map .str), st) := fun a => fld_cells h _ 0 rfl
  have f4 : ∀ a, eFld 12 "begin" (eV 0) [some (.ref k), some (.tup [.int y.g, .int y.l]), some (.int (most (cellsOf p s))), none, a] st = .ok (.int s.b, st) := fun a => fld_begin h _ 0 rfl
  have hl : (cellsOf p s).length ≤ LIM := le_LIM (by omega)
  have ln := lens_ok (cellsOf p s) [some (.ref k), some (.tup [.int y.g, .int y.l]), none, none, none] 3 (by simp) st
  have mx := most_ok (cellsOf p s) c2 st
  have m1 : -1000000 ≤ ((cellsOf p s).length : Int) ∧ ((cellsOf p s).length : Int) ≤ 1000000 := by omega
  unfold hold
  generalize cellsOf p s = ss at f f2 f3 f4 hl ln mx m1 ⊢
  by_cases hm : most ss + y.g ≤ y.l
  · simp [f, itemsOf, hl, ln, mx, Sty.enc, ixG, -r_eFld, addG, leG, hm]
  · have l1 : lcGo [] (.one 4) (tv (eOp (eqG false) (eB lenG (aCons (eOp ixG (eFld 12 "cells" (eV 0)) (eV 4)) (aNil))) (eV 2))) (eOp (addG false) (eFld 12 "begin" (eV 0)) (eV 4)) [some (.ref k), some (.tup [.int y.g, .int y.l]), some (.int (most ss)), none, none] (intsD 0 ss.length) [] st
        = .ok ((((List.range ss.length).filter fun k => decide (((ss.getD k []).length : Int) = most ss)).map fun k => ((s.b + k : Nat) : Int)).map .int, st) := by
      rw [lc_pure rfl (fun d => match d with | .int i => decide (((ss.getD i.toNat []).length : Int) = most ss) | _ => false) (fun d => match d with | .int i => .int (s.b + i) | _ => .non) (intsD 0 ss.length) [] fun d hd => ?_]
      · rw [List.nil_append]
        unfold intsD
        rw [List.filter_map, List.map_map, List.map_map]
        simp [Function.comp_def]
      · obtain ⟨i, hi, rfl⟩ := List.mem_map.mp hd
        rw [List.mem_range] at hi
        have ei : atI (ss.map D.str) (i : Int) = some (.str ss[i]) := by rw [atI_nat]; simp [hi]
        refine ⟨_, rfl, ?_, fun _ => ?_⟩
        · simp [f3, -r_eFld, ixG, lstOf, ei, lenG, hi]
        · simp [f4, -r_eFld, addG]
    simp [f, f2, itemsOf, hl, ln, mx, Sty.enc, ixG, -r_eFld, addG, leG, hm, lenG, lstOf, m1, l1]
end Dl
/-! ## B10 -/
/-! stretches: what is told. -/
namespace Dl
open PySem L2
theorem turn_eq {r : SR} {e : Env} {s : Store} {J : Env → Store → Prop} (h : r = .nx e s) (k : J e s) : r.turn J := by rw [h]; exact k
/-- what is told of a stretch, its holders in a list of the store behind L -/
def IsTup (p : Page) (y : Sty) (L : Nat) (st : Store) (d : D) (s : Stt) : Prop := ∃ k : Nat, L < k ∧ d = .tup [.int s.c, .int s.b, .int s.e, .int (wid y (cellsOf p s)), .bl (right (cellsOf p s)), .ref k] ∧ st[k]? = some (.lst ((hold y s.b (cellsOf p s)).map .int))
def m_stretches : FV := funD 4 (d_stretches m_need_page m_need_style m_all_stretches m_Stretch_holders m_Stretch_is_right m_Stretch_width)
theorem stretches_ok {p : Page} (hp : okPage p = true) {y : Sty} (hy : y.ok) {d : D} {w : List (Nat × List D)} {st : Store} (hd : listOf st d = some (encP p, w)) :
    ∃ T more, m_stretches [d, y.enc] st = .ok (.ref st.length, st ++ .lst T :: more) ∧ All2 (IsTup p y st.length (st ++ .lst T :: more)) T (stts p) := by
  rw [m_stretches, funD, d_stretches]
  have hd1 : listOf (st ++ [Ob.lst []]) d = some (encP p, w) := listOf_stays (Stays.app _ _) hd
  obtain ⟨RR, more, ha, hR⟩ := all_stretches_ok hp hd1
  have np := need_page_ok hd hp
  have ns := need_style_ok hy st
  have e : (st ++ [Ob.lst []] ++ Ob.lst RR :: more)[(st ++ [Ob.lst []]).length]? = some (.lst RR) := by simp
  have lR := hR.len
  have eS : st ++ [Ob.lst []] ++ Ob.lst RR :: more = st ++ Ob.lst [] :: (Ob.lst RR :: more) := by simp
  have eL : (st ++ [Ob.lst []]).length = st.length + 1 := by simp
  rw [eS, eL] at e
  rw [eS] at hR ha
  rw [eL] at ha
  have hit : itemsOf (st ++ Ob.lst [] :: (Ob.lst RR :: more)) (.ref (st.length + 1)) = some (RR, [(st.length + 1, RR)]) := by
    simp only [itemsOf, e]
  have tl : (stts p).length ≤ 150 := Nat.le_trans (flat_le p 5) (by have := (okPage_parts hp).2.1; omega)
  simp [np, ns, ha, hit]
  generalize q : forGo _ _ _ _ _ _ = r
  obtain ⟨e, s, rfl, T, more, a3, rfl, rfl, hT, _⟩ := for_at q (fun i env st' => ∃ T more a3, st' = st ++ Ob.lst T :: more ∧ env = [some d, some y.enc, some (.ref st.length), a3] ∧ All2 (IsTup p y st.length st') T ((stts p).take i) ∧ st'[st.length + 1]? = some (.lst RR) ∧ All2 (IsSt p st') RR (stts p))
    ⟨[], Ob.lst RR :: more, _, rfl, rfl, trivial, e, hR⟩ (fun i env st' _ ⟨T, more, a3, e1, e2, e3, e4, e5⟩ => still_one e4) (fun i x env st' hi ⟨T, more, a3, e1, e2, hT, e4, hR⟩ => by
      obtain ⟨s, hs, k, rfl, hk⟩ := hR.get hi
      have so := stts_mem (List.mem_of_getElem? hs)
      have hTl := hT.len
      have hil := (List.getElem?_eq_some_iff.mp hs).1
      rw [List.length_take, Nat.min_eq_left (by omega)] at hTl
      subst e2
      have kl := (List.getElem?_eq_some_iff.mp hk).1
      have f1 := fld_column (p := p) (s := s) (st := st') hk [some d, some y.enc, some (.ref st.length), some (.ref k)] 3 rfl
      have f2 := fld_begin (p := p) (s := s) (st := st') hk [some d, some y.enc, some (.ref st.length), some (.ref k)] 3 rfl
      have f3 := fld_end (p := p) (s := s) (st := st') hk [some d, some y.enc, some (.ref st.length), some (.ref k)] 3 rfl
      have w1 := width_ok hp so hk y
      have w2 := is_right_ok hp so hk
      have w3 := holders_ok hp so hk y
      have hk' : st'[k]? = some (.ins 12 (stFs s (cellsOf p s))) := hk
      have tm : tyM st' (.ref st.length) = some "list" := by simp [tyM, e1]
      have hTL : T.length < LIM := lt_LIM (by omega)
      have ap : appendG (st' ++ [Ob.lst ((hold y s.b (cellsOf p s)).map D.int)]) (.ref st.length) [.tup [.int s.c, .int s.b, .int s.e, .int (wid y (cellsOf p s)), .bl (right (cellsOf p s)), .ref st'.length]]
          = .ok (.non, st ++ Ob.lst (T ++ [.tup [.int s.c, .int s.b, .int s.e, .int (wid y (cellsOf p s)), .bl (right (cellsOf p s)), .ref st'.length]]) :: (more ++ [Ob.lst ((hold y s.b (cellsOf p s)).map D.int)])) := by
        subst e1
        simp [appendG, hTL]
      obtain ⟨S2, hS2⟩ : ∃ S2, S2 = st ++ Ob.lst (T ++ [.tup [.int s.c, .int s.b, .int s.e, .int (wid y (cellsOf p s)), .bl (right (cellsOf p s)), .ref st'.length]]) :: (more ++ [Ob.lst ((hold y s.b (cellsOf p s)).map D.int)]) := ⟨_, rfl⟩
      rw [← hS2] at ap
      have hset : S2 = (st' ++ [Ob.lst ((hold y s.b (cellsOf p s)).map D.int)]).set st.length (.lst (T ++ [.tup [.int s.c, .int s.b, .int s.e, .int (wid y (cellsOf p s)), .bl (right (cellsOf p s)), .ref st'.length]])) := by
        rw [hS2]
        conv => rhs; rw [e1]
        simp [e1]
      have keep : ∀ (k : Nat) (o : Ob), k ≠ st.length → st'[k]? = some o → S2[k]? = some o := fun k o h1 h2 => by
        rw [hset, List.getElem?_set_ne (Ne.symm h1), List.getElem?_append_left (List.getElem?_eq_some_iff.mp h2).1]; exact h2
      have own : st'[st.length]? = some (.lst T) := by rw [e1]; simp
      have el : st'.length = st.length + (more.length + 1) := by rw [e1]; simp
      have lst' : st.length < st'.length := (List.getElem?_eq_some_iff.mp own).1
      have last : S2[st'.length]? = some (.lst ((hold y s.b (cellsOf p s)).map .int)) := by
        rw [hset, List.getElem?_set_ne (by omega)]; simp
      refine turn_eq (e := [some d, some y.enc, some (.ref st.length), some (.ref k)]) (s := S2) (by simp [f1, f2, f3, -r_eFld, hk', st_width, st_right, st_holders, w1, w2, w3, tm, ap]) ⟨_, _, _, hS2, rfl, ?_, keep _ _ (by omega) e4, hR.imp fun a b ⟨k, u, v⟩ => ⟨k, u, keep _ _ (fun z => by rw [z, own] at v; cases v) v⟩⟩
      rw [take_snoc hs]
      refine All2.app (hT.imp fun a b ⟨k, u, v, z⟩ => ⟨k, u, v, keep _ _ (by omega) z⟩) ⟨⟨st'.length, lst', rfl, last⟩, trivial⟩)
  rw [lR, List.take_length] at hT
  exact ⟨T, more, by simp, hT⟩
end Dl
/-! ## B02 -/
/-! Law k02: the law's own stretches. -/
namespace Dl
open PySem L2
def begOf (p : Page) (c : Nat) : Nat → Nat
  | 0 => 0
  | k + 1 => if clo p c k = true then begOf p c k else k + 1
theorem begOf_le (p : Page) (c : Nat) : ∀ k, begOf p c k ≤ k
  | 0 => Nat.le_refl _
  | k + 1 => by
    unfold begOf
    split
    · exact Nat.le_succ_of_le (begOf_le p c k)
    · exact Nat.le_refl _
theorem begOf_self {p : Page} {c k : Nat} : begOf p c k = k ↔ (k = 0 ∨ clo p c (k - 1) = false) := by
  cases k with
  | zero => simp [begOf]
  | succ k =>
    unfold begOf
    cases h : clo p c k with
    | true =>
      have := begOf_le p c k
      simp [h]
      omega
    | false => simp [h]
@[simp] theorem lenR (r : Row) (st : Store) : lenG st [encR r] = .ok (.int r.length, st) := by simp [lenG, encR]
def m_law_mates : FV := funD 5 d_law_mates
theorem clo_test {p : Page} {d : D} {w : List (Nat × List D)} {S : Store} (hd : listOf S d = some (encP p, w)) (c k : Nat) (hk : k < p.length) : ∃ r, ixG S d (.int k) = .ok (encR r, S) ∧ clo p c k = decide ((c : Int) + 1 < (r.length : Int)) := by
  have hr : p[k]? = some p[k] := by simp [hk]
  refine ⟨p[k], ?_, ?_⟩
  · rw [ix_list hd, atI_nat]; simp [encP, hk]
  · rw [clo_at hr]; exact decide_eq_decide.mpr (by omega)
theorem mates_ok {p : Page} (hp : okPage p = true) {d : D} {w : List (Nat × List D)} {st : Store} (hd : listOf st d = some (encP p, w)) (c k : Nat) (hk : k < p.length) :
    m_law_mates [d, .int k, .int c] st = .ok (.tup [.int (begOf p c k), .int (endOf p c (k + 1))], st) := by
  rw [m_law_mates, funD, d_law_mates]
  obtain ⟨p1, p2, p3⟩ := okPage_parts hp
  simp [addG]
  generalize q : whileGo _ _ _ _ _ = r
  obtain ⟨e, s, rfl, rfl, rfl⟩ := while_go (n := k) q (fun n env st' => st = st' ∧ n ≤ k ∧ begOf p c n = begOf p c k ∧ env = [some d, some (.int k), some (.int c), some (.int n), some (.int (k + 1))]) (fun env st' => st = st' ∧ env = [some d, some (.int k), some (.int c), some (.int (begOf p c k)), some (.int (k + 1))]) (by omega) ⟨rfl, Nat.le_refl _, rfl, rfl⟩ (fun n env st' ⟨e1, e2, e3, e4⟩ => by
    subst e1 e4
    cases n with
    | zero =>
      simp [gtG]
      rw [← e3]; rfl
    | succ n =>
      obtain ⟨r, hr, hc⟩ := clo_test hd c n (by omega)
      simp [gtG, subG, addG, hr]
      have e3' : begOf p c (n + 1) = if clo p c n = true then begOf p c n else n + 1 := rfl
      rw [e3'] at e3
      by_cases hx : (c : Int) + 1 < (r.length : Int)
      · simp only [hx, decide_true] at hc
        rw [if_pos hc] at e3
        simp [hx]
        exact ⟨n, by omega, by omega, e3, rfl⟩
      · simp only [hx, decide_false] at hc
        rw [if_neg (by simp [hc])] at e3
        simp [hx]
        omega)
  simp only [then_nx, r_sCons]
  generalize q : whileGo _ _ _ _ _ = r
  have eo := endOf_ok (p := p) (c := c) (k := k + 1) (by omega)
  obtain ⟨e, s, rfl, rfl, rfl⟩ := while_go (n := p.length - (k + 1)) q (fun n env st' => st = st' ∧ ∃ m : Nat, n = p.length - m ∧ k + 1 ≤ m ∧ m ≤ endOf p c (k + 1) ∧ env = [some d, some (.int k), some (.int c), some (.int (begOf p c k)), some (.int m)]) (fun env st' => st = st' ∧ env = [some d, some (.int k), some (.int c), some (.int (begOf p c k)), some (.int (endOf p c (k + 1)))]) (by omega) ⟨rfl, k + 1, rfl, Nat.le_refl _, eo.1, by simp⟩ (fun n env st' ⟨e1, m, e2, e3, e4, e5⟩ => by
    subst e1 e5
    have ln := len_list hd
    simp only [encP_len] at ln
    by_cases hm : m < p.length
    · obtain ⟨r, hr, hc⟩ := clo_test hd c m hm
      have hm' : (m : Int) < (p.length : Int) := by omega
      by_cases hx : (c : Int) + 1 < (r.length : Int)
      · simp only [hx, decide_true] at hc
        have ne : m ≠ endOf p c (k + 1) := fun z => by rw [z, eo.2.2.2] at hc; cases hc
        simp [ltG, ln, hm, hm', hr, gtG, addG, hx]
        exact ⟨_, by omega, m + 1, rfl, by omega, by omega, by simp⟩
      · simp only [hx, decide_false] at hc
        have ne : m = endOf p c (k + 1) := by
          by_cases z : m < endOf p c (k + 1)
          · rw [eo.2.2.1 m e3 z] at hc; cases hc
          · omega
        simp [ltG, ln, hm, hm', hr, gtG, addG, hx]
        omega
    · have hm' : ¬ (m : Int) < (p.length : Int) := by omega
      have ne : m = endOf p c (k + 1) := by omega
      simp [ltG, ln, hm, hm']
      rw [ne])
  simp
/-- the cell at k, c, as the law reads it -/
theorem cell_ix {p : Page} {d : D} {w : List (Nat × List D)} {S : Store} (hd : listOf S d = some (encP p, w)) {c k : Nat} (h : clo p c k = true) : ∃ R, ixG S d (.int k) = .ok (R, S) ∧ ixG S R (.int c) = .ok (.str (cellAt p k c), S) := by
  obtain ⟨r, hr, hl⟩ := clo_row h
  refine ⟨encR r, ?_, ?_⟩
  · rw [ix_list hd, atI_nat]; simp [encP, hr]
  · simp [encR, ixG, atI_nat, cellAt, hr, show c < r.length by omega]
@[simp] theorem sty0 (y : Sty) (st : Store) : ixG st y.enc (.int 0) = .ok (.int y.g, st) := by simp [Sty.enc, ixG]
@[simp] theorem sty1 (y : Sty) (st : Store) : ixG st y.enc (.int 1) = .ok (.int y.l, st) := by simp [Sty.enc, ixG]
@[simp] theorem lenS (s : List Nat) (st : Store) : lenG st [.str s] = .ok (.int s.length, st) := (rfl)
/-- the cells from b to e in the column c -/
def cellsBE (p : Page) (c b e : Nat) : List (List Nat) := (List.range (e - b)).map fun j => cellAt p (b + j) c
theorem cellsOf_BE (p : Page) (s : Stt) : cellsOf p s = cellsBE p s.c s.b s.e := rfl
/-- a comprehension over b .. e that reads a cell each -/
theorem lc_cells {p : Page} {sub : List (Nat × List D)} {j : Nat} {te : EV} {env : Env} {st : Store} (hs : still sub st = true) {c b e : Nat} (f : List Nat → D) (h : ∀ k, b ≤ k → k < e → te (env.set j (some (.int k))) st = .ok (f (cellAt p k c), st)) :
    lcGo sub (.one j) tYesD te env (intsD b (e - b)) [] st = .ok ((cellsBE p c b e).map f, st) := by
  rw [lc_map hs (fun d => match d with | .int k => f (cellAt p k.toNat c) | _ => .non) _ fun d hd => ?_]
  · unfold intsD cellsBE
    rw [List.map_map, List.map_map]
    refine congrArg (fun l => R.ok (l, st)) (List.map_congr_left fun i _ => ?_)
    show f (cellAt p ((b : Int) + (i : Int)).toNat c) = f (cellAt p (b + i) c)
    rw [show ((b : Int) + (i : Int)).toNat = b + i by omega]
  · obtain ⟨i, hi, rfl⟩ := List.mem_map.mp hd
    rw [List.mem_range] at hi
    refine ⟨_, rfl, ?_⟩
    have := h (b + i) (by omega) (by omega)
    rw [show ((b + i : Nat) : Int) = (b : Int) + (i : Int) by omega] at this
    show te (env.set j (some (.int ((b : Int) + (i : Int))))) st = .ok (f (cellAt p ((b : Int) + (i : Int)).toNat c), st)
    rw [show ((b : Int) + (i : Int)).toNat = b + i by omega]
    exact this
theorem maxL_cons (a : Int) {l : List Int} (h : l ≠ []) : maxL (a :: l) = max a (maxL l) := by
  cases l with
  | nil => exact absurd rfl h
  | cons b r => rfl
theorem maxL_add (g : Int) : ∀ {l : List Int}, l ≠ [] → maxL (l.map fun x => x + g) = maxL l + g
  | [], h => absurd rfl h
  | [a], _ => rfl
  | a :: b :: r, _ => by
    have ih := maxL_add g (l := b :: r) (by simp)
    simp only [List.map_cons] at ih ⊢
    rw [maxL_cons a (by simp), maxL_cons (a + g) (by simp), ih]
    omega
theorem run_all {p : Page} {c k : Nat} (hk : clo p c k = true) : ∀ j, begOf p c k ≤ j → j < endOf p c (k + 1) → clo p c j = true := by
  have hlt : k < p.length := by
    obtain ⟨r, hr, _⟩ := clo_row hk
    exact (List.getElem?_eq_some_iff.mp hr).1
  have eo := endOf_ok (p := p) (c := c) (k := k + 1) (by omega)
  have low : ∀ n, n ≤ k → ∀ j, begOf p c n ≤ j → j < n → clo p c j = true := by
    intro n
    induction n with
    | zero => intro _ j _ h; omega
    | succ n ih =>
      intro hn j h1 h2
      unfold begOf at h1
      cases hc : clo p c n with
      | true =>
        rw [if_pos hc] at h1
        by_cases z : j = n
        · rw [z]; exact hc
        · exact ih (by omega) j h1 (by omega)
      | false =>
        rw [if_neg (by simp [hc])] at h1
        omega
  intro j h1 h2
  by_cases z : j < k
  · exact low k (Nat.le_refl _) j h1 z
  · by_cases z2 : j = k
    · rw [z2]; exact hk
    · exact eo.2.2.1 j (by omega) h2
def m_law_wide : FV := funD 7 (d_law_wide m_law_mates)
theorem law_wide_ok {p : Page} (hp : okPage p = true) {d : D} {w : List (Nat × List D)} {st : Store} (hd : listOf st d = some (encP p, w)) (y : Sty) {c k : Nat} (hk : clo p c k = true) :
    m_law_wide [d, y.enc, .int k, .int c] st = .ok (.int (wid y (cellsBE p c (begOf p c k) (endOf p c (k + 1)))), st) := by
  rw [m_law_wide, funD, d_law_wide]
  obtain ⟨p1, p2, p3⟩ := okPage_parts hp
  have hlt : k < p.length := by
    obtain ⟨r, hr, _⟩ := clo_row hk
    exact (List.getElem?_eq_some_iff.mp hr).1
  have mt := mates_ok hp hd c k hlt
  have eo := endOf_ok (p := p) (c := c) (k := k + 1) (by omega)
  have bl := begOf_le p c k
  have ra := run_all hk
  generalize begOf p c k = b at mt bl ra ⊢
  generalize endOf p c (k + 1) = e at mt eo ra ⊢
  have mb : (-1000000 ≤ (b : Int) ∧ (b : Int) ≤ 1000000) ∧ -1000000 ≤ (e : Int) ∧ (e : Int) ≤ 1000000 := by omega
  have en : ((e : Int) - (b : Int)).toNat = e - b := by omega
  have hl : e - b ≤ LIM := le_LIM (by omega)
  have l1 := lc_cells (p := p) (sub := []) (j := 6) (te := eOp (addG false) (eB lenG (aCons (eOp ixG (eOp ixG (eV 0) (eV 6)) (eV 3)) (aNil))) (eOp ixG (eV 1) (eC (.int 0)))) (env := [some d, some y.enc, some (.int k), some (.int c), some (.int b), some (.int e), none]) (st := st) rfl (c := c) (b := b) (e := e) (fun s => .int ((s.length : Int) + y.g)) (fun j h1 h2 => by
    obtain ⟨R, i1, i2⟩ := cell_ix hd (ra j h1 h2)
    simp [i1, i2, addG])
  have ne : (cellsBE p c b e) ≠ [] := fun z => by
    have := congrArg List.length z
    simp [cellsBE] at this
    omega
  have ne2 : (cellsBE p c b e).map (fun s => (s.length : Int)) ≠ [] := by simpa using ne
  have em : maxG st [.lst (D.int y.l :: (cellsBE p c b e).map (fun s => D.int ((s.length : Int) + y.g)))] = .ok (.int (wid y (cellsBE p c b e)), st) := by
    have e1 : (D.int y.l :: (cellsBE p c b e).map (fun s => D.int ((s.length : Int) + y.g))) = (y.l :: ((cellsBE p c b e).map (fun s => (s.length : Int))).map fun x => x + y.g).map D.int := by
      simp [Function.comp_def]
    rw [e1]
    unfold maxG
    simp only [lstOf, Option.bind_some, intsOf_map]
    rw [if_pos (by simp), maxL_cons _ (by simpa using ne), maxL_add _ ne2]
    rfl
  have hl2 : (cellsBE p c b e).length + 1 ≤ LIM := le_LIM (by simp [cellsBE]; omega)
  simp [mt, mb, en, hl, l1, addG, lstOf, em, Nat.add_comm 1, hl2]
def m_law_figures : FV := funD 3 d_law_figures
theorem law_figures_str (s : List Nat) (h : s.length ≤ 1000000) (st : Store) : m_law_figures [.str s] st = .ok (.bl (figs s), st) := is_figures_str s h st
theorem lc_cellsF {p : Page} {sub : List (Nat × List D)} {j : Nat} {tt : TV} {te : EV} {env : Env} {st : Store} (hs : still sub st = true) {c b e : Nat} (P : List Nat → Bool) (f : List Nat → D) (ht : ∀ k, b ≤ k → k < e → tt (env.set j (some (.int k))) st = .ok (P (cellAt p k c), st)) (h : ∀ k, b ≤ k → k < e → te (env.set j (some (.int k))) st = .ok (f (cellAt p k c), st)) :
    lcGo sub (.one j) tt te env (intsD b (e - b)) [] st = .ok (((cellsBE p c b e).filter P).map f, st) := by
  rw [lc_pure (t := .one j) hs (fun d => match d with | .int k => P (cellAt p k.toNat c) | _ => false) (fun d => match d with | .int k => f (cellAt p k.toNat c) | _ => .non) _ _ fun d hd => ?_]
  · rw [List.nil_append]
    unfold intsD cellsBE
    rw [List.filter_map, List.map_map, List.filter_map, List.map_map]
    have e0 : ∀ i : Nat, ((b : Int) + (i : Int)).toNat = b + i := fun i => by omega
    simp [Function.comp_def, e0]
  · obtain ⟨i, hi, rfl⟩ := List.mem_map.mp hd
    rw [List.mem_range] at hi
    have h1 := h (b + i) (by omega) (by omega)
    have h2 := ht (b + i) (by omega) (by omega)
    rw [show ((b + i : Nat) : Int) = (b : Int) + (i : Int) by omega] at h1 h2
    have e0 : ((b : Int) + (i : Int)).toNat = b + i := by omega
    exact ⟨_, rfl, by simp only [e0]; exact h2, fun _ => by simp only [e0]; exact h1⟩
def m_law_turned : FV := funD 8 (d_law_turned m_law_mates m_law_figures)
theorem law_turned_ok {p : Page} (hp : okPage p = true) {d : D} {w : List (Nat × List D)} {st : Store} (hd : listOf st d = some (encP p, w)) {c k : Nat} (hk : clo p c k = true) :
    m_law_turned [d, .int k, .int c] st = .ok (.bl (right (cellsBE p c (begOf p c k) (endOf p c (k + 1)))), st) := by
  rw [m_law_turned, funD, d_law_turned]
  obtain ⟨p1, p2, p3⟩ := okPage_parts hp
  have hlt : k < p.length := by
    obtain ⟨r, hr, _⟩ := clo_row hk
    exact (List.getElem?_eq_some_iff.mp hr).1
  have mt := mates_ok hp hd c k hlt
  have eo := endOf_ok (p := p) (c := c) (k := k + 1) (by omega)
  have bl := begOf_le p c k
  have ra := run_all hk
  generalize begOf p c k = b at mt bl ra ⊢
  generalize endOf p c (k + 1) = e at mt eo ra ⊢
  have mb : (-1000000 ≤ (b : Int) ∧ (b : Int) ≤ 1000000) ∧ -1000000 ≤ (e : Int) ∧ (e : Int) ≤ 1000000 := by omega
  have en : ((e : Int) - (b : Int)).toNat = e - b := by omega
  have hl : e - b ≤ LIM := le_LIM (by omega)
  have cl : ∀ s ∈ cellsBE p c b e, s.length ≤ 10 := fun s hs => by
    obtain ⟨i, hi, rfl⟩ := List.mem_map.mp hs
    rw [List.mem_range] at hi
    obtain ⟨r, hr, hlr⟩ := clo_row (ra (b + i) (by omega) (by omega))
    have hrow := okRow_parts (p3 r (List.mem_of_getElem? hr))
    have ec : cellAt p (b + i) c = r[c] := by simp [cellAt, hr, show c < r.length by omega]
    rw [ec]
    exact (okCell_parts (hrow.2.2 _ (by simp))).1
  have l1 := lc_cellsF (p := p) (sub := []) (j := 6) (tt := tv (eOp (eqG true) (eOp ixG (eOp ixG (eV 0) (eV 6)) (eV 2)) (eC (.str [])))) (te := eOp ixG (eOp ixG (eV 0) (eV 6)) (eV 2)) (env := [some d, some (.int k), some (.int c), some (.int b), some (.int e), none, none, none]) (st := st) rfl (c := c) (b := b) (e := e) (fun s => decide (s ≠ [])) D.str (fun j h1 h2 => by
    obtain ⟨R, i1, i2⟩ := cell_ix hd (ra j h1 h2)
    simp [i1, i2]) (fun j h1 h2 => by
    obtain ⟨R, i1, i2⟩ := cell_ix hd (ra j h1 h2)
    simp [i1, i2])
  have hlen : (cellsBE p c b e).length ≤ LIM := le_LIM (by simp [cellsBE]; omega)
  generalize cellsBE p c b e = ss at cl l1 hlen ⊢
  have hl2 : (ss.filter fun s => decide (s ≠ [])).length ≤ LIM := Nat.le_trans (List.length_filter_le _ _) hlen
  have l2 : lcGo [] (.one 7) (tNotD (tv (eCall 1 m_law_figures (aCons (eV 7) (aNil))))) (eV 7) [some d, some (.int k), some (.int c), some (.int b), some (.int e), some (.lst ((ss.filter fun s => decide (s ≠ [])).map D.str)), none, none] ((ss.filter fun s => decide (s ≠ [])).map D.str) [] st = .ok (((ss.filter fun s => decide (s ≠ [])).filter fun s => !figs s).map D.str, st) := by
    rw [lc_keep rfl (fun d => match d with | .str c => !figs c | _ => true) _ (fun d hd => ?_) (by simp)]
    · rw [List.filter_map]; rfl
    · obtain ⟨c, hc, rfl⟩ := List.mem_map.mp hd
      have := cl c (List.mem_filter.mp hc).1
      simp [law_figures_str c (by omega)]
  unfold right
  generalize (ss.filter fun s => decide (s ≠ [])) = full at l1 l2 hl2 ⊢
  have e1 : eqG true st (.lst (full.map D.str)) (.lst []) = .ok (.bl (decide (full ≠ [])), st) := by
    rw [eqG_pl (by simp) rfl (by have := dps_strs full; simp; omega) (by simp)]
    simp
  have e2 : ∀ l : List (List Nat), eqG false st (.lst (l.map D.str)) (.lst []) = .ok (.bl (decide (l = [])), st) := fun l => by
    rw [eq_nilD (pls_strs _) (Nat.le_trans (dps_strs _) (by decide))]
    simp
  by_cases hf : full = []
  · subst hf
    have e0 : eqG true st (.lst []) (.lst []) = .ok (.bl false, st) := by simpa using e1
    simp [mt, mb, en, hl, l1, e0]
  · simp [mt, mb, en, hl, l1, e1, hf, hl2, l2, e2, itemsOf]
    rw [Bool.eq_iff_iff]
    simp [List.filter_eq_nil_iff]
end Dl
/-! ## B02b -/
/-! Law k02: what is due. -/
namespace Dl
open PySem L2
def tupL (p : Page) (y : Sty) (s : Stt) : D := .tup [.int s.c, .int s.b, .int s.e, .int (wid y (cellsOf p s)), .bl (right (cellsOf p s)), .lst ((hold y s.b (cellsOf p s)).map .int)]
theorem isB_iff {p : Page} {c k : Nat} : isB p c k = true ↔ clo p c k = true ∧ begOf p c k = k := by
  rw [begOf_self]
  simp [isB]
theorem endOf_next {p : Page} {c k : Nat} (hk : clo p c k = true) : endOf p c k = endOf p c (k + 1) := by
  have hlt : k < p.length := by
    obtain ⟨r, hr, _⟩ := clo_row hk
    exact (List.getElem?_eq_some_iff.mp hr).1
  have eo := endOf_ok (p := p) (c := c) (k := k + 1) (by omega)
  refine endOf_eq (by omega) eo.2.1 (fun j h1 h2 => ?_) eo.2.2.2
  by_cases z : j = k
  · rw [z]; exact hk
  · exact eo.2.2.1 j (by omega) h2
@[simp] theorem ix_tup (ds : List D) (i : Int) (st : Store) : ixG st (.tup ds) (.int i) = R.of ((atI ds i).map fun x => (x, st)) := (rfl)
@[simp] theorem ix_lst (ds : List D) (i : Int) (st : Store) : ixG st (.lst ds) (.int i) = R.of ((atI ds i).map fun x => (x, st)) := (rfl)
@[simp] theorem ix_str (s : List Nat) (i : Int) (st : Store) : ixG st (.str s) (.int i) = R.of ((atI s i).map fun c => (.str [c], st)) := (rfl)
def m_law_due : FV := funD 10 (d_law_due m_law_mates m_law_wide m_law_turned)
/-- the body of the inner loop -/
theorem due_turn {p : Page} (hp : okPage p = true) {d : D} {w : List (Nat × List D)} {st : Store} (hd : listOf st d = some (encP p, w)) (y : Sty) {c k : Nat} (hk : k < p.length) {T : List D} {L : Nat} (hL : st[L]? = some (.lst T)) (hT : T.length < 1000) (a5 a6 a7 a8 a9 : Option D) :
    ∃ e, (sIf (tAndD (tv (eOp gtG (eB lenG (aCons (eOp ixG (eV 0) (eV 4)) (aNil))) (eOp (addG false) (eV 3) (eC (.int 1))))) (tv (eOp (eqG false) (eOp ixG (eCall 3 m_law_mates (aCons (eV 0) (aCons (eV 4) (aCons (eV 3) (aNil))))) (eC (.int 0))) (eV 4)))) (sCons (sAsg (eOp ixG (eCall 3 m_law_mates (aCons (eV 0) (aCons (eV 4) (aCons (eV 3) (aNil))))) (eC (.int 1))) (gN 5)) (sCons (sAsg (eB maxG (aCons (eLc false (iR2 (aCons (eV 4) (aCons (eV 5) (aNil)))) [9] (.one 9) (tYesD) (eB lenG (aCons (eOp ixG (eOp ixG (eV 0) (eV 9)) (eV 3)) (aNil)))) (aNil))) (gN 6)) (sCons (sAsg (eLc false (iR2 (aCons (eV 4) (aCons (eV 5) (aNil)))) [9] (.one 9) (tAndD (tv (eOp (eqG false) (eB lenG (aCons (eOp ixG (eOp ixG (eV 0) (eV 9)) (eV 3)) (aNil))) (eV 6))) (tv (eOp gtG (eOp (addG false) (eV 6) (eOp ixG (eV 1) (eC (.int 0)))) (eOp ixG (eV 1) (eC (.int 1)))))) (eV 9)) (gN 7)) (sCons (sAsg (eCall 4 m_law_wide (aCons (eV 0) (aCons (eV 1) (aCons (eV 4) (aCons (eV 3) (aNil)))))) (gN 8)) (sExpr (eMt "list" (appendG) (eV 2) (aCons (eTup (aCons (eV 3) (aCons (eV 4) (aCons (eV 5) (aCons (eV 8) (aCons (eCall 3 m_law_turned (aCons (eV 0) (aCons (eV 4) (aCons (eV 3) (aNil))))) (aCons (eV 7) (aNil)))))))) (aNil)))))))) (sNext))
      [some d, some y.enc, some (.ref L), some (.int c), some (.int k), a5, a6, a7, a8, a9] st = .nx ([some d, some y.enc, some (.ref L), some (.int c), some (.int k)] ++ e) (st.set L (.lst (T ++ if isB p c k = true then [tupL p y (sttOf p c k)] else []))) ∧ e.length = 5 := by
  obtain ⟨p1, p2, p3⟩ := okPage_parts hp
  obtain ⟨r, hr, hc⟩ := clo_test hd c k hk
  have mt := mates_ok hp hd c k hk
  have keep : st.set L (.lst T) = st := by
    obtain ⟨h, e⟩ := List.getElem?_eq_some_iff.mp hL
    rw [← e]
    exact List.set_getElem_self h
  by_cases hx : (c : Int) + 1 < (r.length : Int)
  · simp only [hx, decide_true] at hc
    by_cases hb : begOf p c k = k
    · have ib := isB_iff.mpr ⟨hc, hb⟩
      have lw := law_wide_ok hp hd y hc
      have lt := law_turned_ok hp hd hc
      have en := endOf_next hc
      rw [hb] at mt lw lt
      have eo := endOf_ok (p := p) (c := c) (k := k + 1) (by omega)
      have ra := run_all hc
      rw [hb] at ra
      have ec : cellsOf p (sttOf p c k) = cellsBE p c k (endOf p c (k + 1)) := by rw [cellsOf_BE]; show cellsBE p c k (endOf p c k) = _; rw [en]
      have et : tupL p y (sttOf p c k) = .tup [.int c, .int k, .int (endOf p c (k + 1)), .int (wid y (cellsBE p c k (endOf p c (k + 1)))), .bl (right (cellsBE p c k (endOf p c (k + 1)))), .lst ((hold y k (cellsBE p c k (endOf p c (k + 1)))).map .int)] := by
        unfold tupL
        rw [ec]
        show D.tup [.int c, .int k, .int (endOf p c k), _, _, _] = _
        rw [en]; rfl
      rw [et]
      generalize endOf p c (k + 1) = e at mt lw lt eo ra
      have mb : (-1000000 ≤ (k : Int) ∧ (k : Int) ≤ 1000000) ∧ -1000000 ≤ (e : Int) ∧ (e : Int) ≤ 1000000 := by omega
      have en2 : ((e : Int) - (k : Int)).toNat = e - k := by omega
      have hl : e - k ≤ LIM := le_LIM (by omega)
      have ne : (cellsBE p c k e) ≠ [] := fun z => by
        have := congrArg List.length z
        simp [cellsBE] at this
        omega
      have l1 := lc_cells (p := p) (sub := []) (j := 9) (te := eB lenG (aCons (eOp ixG (eOp ixG (eV 0) (eV 9)) (eV 3)) (aNil))) (env := [some d, some y.enc, some (.ref L), some (.int c), some (.int k), some (.int e), a6, a7, a8, none]) (st := st) rfl (c := c) (b := k) (e := e) (D.int ∘ fun s => (s.length : Int)) (fun j h1 h2 => by
        obtain ⟨R, i1, i2⟩ := cell_ix hd (ra j h1 h2)
        simp [i1, i2])
      have mx := most_ok (cellsBE p c k e) ne st
      have l2 : lcGo [] (.one 9) (tAndD (tv (eOp (eqG false) (eB lenG (aCons (eOp ixG (eOp ixG (eV 0) (eV 9)) (eV 3)) (aNil))) (eV 6))) (tv (eOp gtG (eOp (addG false) (eV 6) (eOp ixG (eV 1) (eC (.int 0)))) (eOp ixG (eV 1) (eC (.int 1)))))) (eV 9)
          [some d, some y.enc, some (.ref L), some (.int c), some (.int k), some (.int e), some (.int (most (cellsBE p c k e))), a7, a8, none] (intsD k (e - k)) [] st = .ok ((hold y k (cellsBE p c k e)).map .int, st) := by
        rw [lc_keep rfl (fun d => match d with | .int i => decide (((cellAt p i.toNat c).length : Int) = most (cellsBE p c k e)) && decide (y.l < most (cellsBE p c k e) + y.g) | _ => false) _ (fun d' hd' => ?_) (by simp)]
        · refine congrArg (fun l => R.ok (l, st)) ?_
          unfold hold intsD
          rw [List.filter_map]
          have gd : ∀ i, i < e - k → (cellsBE p c k e).getD i [] = cellAt p (k + i) c := fun i hi => by
            unfold cellsBE
            simp [hi]
          have ln : (cellsBE p c k e).length = e - k := by simp [cellsBE]
          rw [ln]
          by_cases hm : most (cellsBE p c k e) + y.g ≤ y.l
          · have hm' : ¬ y.l < most (cellsBE p c k e) + y.g := by omega
            rw [if_pos hm]
            simp [hm']
          · have hm' : y.l < most (cellsBE p c k e) + y.g := by omega
            rw [if_neg hm, List.map_map]
            have ef : (List.range (e - k)).filter ((fun d => match d with | D.int i => decide (((cellAt p i.toNat c).length : Int) = most (cellsBE p c k e)) && decide (y.l < most (cellsBE p c k e) + y.g) | _ => false) ∘ fun (i : Nat) => D.int ((k : Int) + (i : Int))) = (List.range (e - k)).filter fun i => decide ((((cellsBE p c k e).getD i []).length : Int) = most (cellsBE p c k e)) := by
              refine List.filter_congr fun i hi => ?_
              rw [List.mem_range] at hi
              rw [gd i hi]
              have e0 : ((k : Int) + (i : Int)).toNat = k + i := by omega
              simp [e0, hm']
            rw [ef]
            refine List.map_congr_left fun i _ => ?_
            show D.int ((k : Int) + (i : Int)) = D.int ((k + i : Nat) : Int)
            congr 1
        · obtain ⟨i, hi, rfl⟩ := List.mem_map.mp hd'
          rw [List.mem_range] at hi
          obtain ⟨R, i1, i2⟩ := cell_ix hd (ra (k + i) (by omega) (by omega))
          rw [show ((k + i : Nat) : Int) = (k : Int) + (i : Int) by omega] at i1
          have e0 : ((k : Int) + (i : Int)).toNat = k + i := by omega
          simp [i1, i2, addG, gtG, e0]
          by_cases hz : ((cellAt p (k + i) c).length : Int) = most (cellsBE p c k e) <;> simp [hz]
      have tm : tyM st (.ref L) = some "list" := by simp [tyM, hL]
      have hTL : T.length < LIM := lt_LIM (by omega)
      refine ⟨[some (.int e), some (.int (most (cellsBE p c k e))), some (.lst ((hold y k (cellsBE p c k e)).map .int)), some (.int (wid y (cellsBE p c k e))), a9], ?_, rfl⟩
      simp [hr, gtG, addG, hx, mt, ib, mb, en2, hl, l1, mx, l2, lw, lt, tm, appendG, hL, hTL]
      done
    · have ib : isB p c k = false := by
        cases z : isB p c k with
        | true => exact absurd (isB_iff.mp z).2 hb
        | false => rfl
      have hb' : ¬ (begOf p c k : Int) = k := by omega
      refine ⟨[a5, a6, a7, a8, a9], ?_, rfl⟩
      simp [hr, gtG, addG, hx, mt, ib, keep, hb']
  · simp only [hx, decide_false] at hc
    have ib : isB p c k = false := by simp [isB, hc]
    refine ⟨[a5, a6, a7, a8, a9], ?_, rfl⟩
    simp [hr, gtG, addG, hx, ib, keep]
end Dl
/-! ## B02c -/
/-! Law k02: what is due, found, compared. -/
namespace Dl
open PySem L2
theorem len5 {A : Type} {l : List A} (h : l.length = 5) : ∃ a b c d e, l = [a, b, c, d, e] := by
  match l, h with
  | [a, b, c, d, e], _ => exact ⟨a, b, c, d, e, rfl⟩
theorem len6 {A : Type} {l : List A} (h : l.length = 6) : ∃ a b c d e f, l = [a, b, c, d, e, f] := by
  match l, h with
  | [a, b, c, d, e, f], _ => exact ⟨a, b, c, d, e, f, rfl⟩
theorem len7 {A : Type} {l : List A} (h : l.length = 7) : ∃ a b c d e f g, l = [a, b, c, d, e, f, g] := by
  match l, h with
  | [a, b, c, d, e, f, g], _ => exact ⟨a, b, c, d, e, f, g, rfl⟩
theorem begs_le (p : Page) (c n : Nat) : (begs p c n).length ≤ n := by
  unfold begs
  exact Nat.le_trans (List.length_filter_le _ _) (by simp)
theorem stts_le {p : Page} (hp : okPage p = true) : (stts p).length ≤ 150 := Nat.le_trans (flat_le p 5) (by have := (okPage_parts hp).2.1; omega)
theorem law_due_ok {p : Page} (hp : okPage p = true) {d : D} {w : List (Nat × List D)} {st : Store} (hd : listOf st d = some (encP p, w)) (y : Sty) :
    m_law_due [d, y.enc] st = .ok (.ref st.length, st ++ [.lst ((stts p).map (tupL p y))]) := by
  rw [m_law_due, funD, d_law_due]
  obtain ⟨p1, p2, p3⟩ := okPage_parts hp
  simp [show (5 : Int).toNat = 5 from rfl]
  generalize q : forGo _ _ _ _ _ _ = r
  obtain ⟨e, s, rfl, rfl, e', rfl, _⟩ := for_at q (fun i env st' => st' = st ++ [.lst (((List.range i).flatMap (sttsC p)).map (tupL p y))] ∧ ∃ e', env = [some d, some y.enc, some (.ref st.length)] ++ e' ∧ e'.length = 7) ⟨by simp, _, rfl, rfl⟩ (fun _ _ _ _ _ => rfl) (fun i x env st' hi ⟨e1, e', e2, e3⟩ => by
    subst e1 e2
    obtain ⟨hi, rfl⟩ := ints_get hi
    obtain ⟨a3, a4, a5, a6, a7, a8, a9, rfl⟩ := len7 e3
    have hd' : ∀ T, listOf (st ++ [Ob.lst T]) d = some (encP p, w) := fun T => listOf_stays (Stays.app _ _) hd
    have ln := len_list (hd' (((List.range i).flatMap (sttsC p)).map (tupL p y)))
    have m1 : -1000000 ≤ (p.length : Int) ∧ (p.length : Int) ≤ 1000000 := by omega
    simp [ln, m1]
    generalize q : forGo _ _ _ _ _ _ = r
    obtain ⟨e, s, rfl, rfl, e', rfl, h6⟩ := for_at q (fun k env st' => st' = st ++ [.lst (((List.range i).flatMap (sttsC p) ++ (begs p i k).map (sttOf p i)).map (tupL p y))] ∧ ∃ e', env = [some d, some y.enc, some (.ref st.length), some (.int i)] ++ e' ∧ e'.length = 6) ⟨by simp [begs], _, rfl, rfl⟩ (fun _ _ _ _ _ => rfl) (fun k x env st' hk ⟨e1, e', e2, e3⟩ => by
      subst e1 e2
      obtain ⟨hk2, rfl⟩ := ints_get hk
      obtain ⟨a4, a5, a6, a7, a8, a9, rfl⟩ := len6 e3
      obtain ⟨e, h1, h2⟩ := due_turn hp (hd' (((List.range i).flatMap (sttsC p) ++ (begs p i k).map (sttOf p i)).map (tupL p y))) y (c := i) (k := k) hk2 (L := st.length) (T := (((List.range i).flatMap (sttsC p) ++ (begs p i k).map (sttOf p i)).map (tupL p y))) (by simp) (by
        have f1 := flat_le p i
        have f2 := begs_le p i k
        have f3 : p.length * i ≤ 30 * 5 := Nat.mul_le_mul p2 (by omega)
        simp only [List.length_map, List.length_append]
        omega) a5 a6 a7 a8 a9
      refine turn_eq h1 ⟨?_, _, rfl, by simp [h2]⟩
      rw [begs_succ]
      by_cases hb : isB p i k = true <;> simp [hb])
    obtain ⟨b0, b1, b2, b3, b4, b5, rfl⟩ := len6 h6
    rw [intsD_len]
    refine ⟨?_, _, rfl, rfl⟩
    rw [List.range_succ, List.flatMap_append]
    simp [sttsC])
  rw [intsD_len]
  simp
  rfl
/-! ### what is found and what is due read alike -/
theorem pks_ints : ∀ l : List Int, D.pks (l.map .int) = true
  | [] => rfl
  | i :: l => by
    rw [List.map_cons, D.pks, pks_ints l]; rfl
theorem tup_rd {p : Page} {y : Sty} {L : Nat} {S : Store} {d : D} {s : Stt} (h : IsTup p y L S d s) : Rd S d (tupL p y s) := by
  obtain ⟨k, hk, rfl, e⟩ := h
  unfold tupL
  simp only [Rd, Rds]
  exact ⟨_, rfl, rfl, rfl, rfl, rfl, rfl, ⟨_, [(k, _)], by simp [listOf, e]; rfl, rds_self (pks_ints _)⟩, trivial⟩
theorem tup_pk (p : Page) (y : Sty) (s : Stt) : D.pk (tupL p y s) = true := by
  unfold tupL
  simp only [D.pk, D.pks, pks_ints, Bool.and_true]
theorem pks_map {A : Type} {f : A → D} (h : ∀ a, D.pk (f a) = true) : ∀ l : List A, D.pks (l.map f) = true
  | [] => rfl
  | a :: l => by rw [List.map_cons, D.pks, h a, pks_map h l]; rfl
theorem rds_all {A : Type} {S : Store} {f : A → D} : ∀ {T : List D} {ss : List A}, All2 (fun d s => Rd S d (f s)) T ss → Rds S T (ss.map f)
  | [], [], _ => by rw [List.map_nil, Rds]; trivial
  | d :: T, s :: ss, h => by
    rw [List.map_cons, Rds]
    exact ⟨h.1, rds_all h.2⟩
  | [], _ :: _, h => h.elim
  | _ :: _, [], h => h.elim
theorem hold_le (y : Sty) (b : Nat) (ss : List (List Nat)) : (hold y b ss).length ≤ ss.length := by
  unfold hold
  split
  · simp
  · rw [List.length_map]
    exact Nat.le_trans (List.length_filter_le _ _) (by simp)
theorem hold_30 {p : Page} (hp : okPage p = true) (y : Sty) {s : Stt} (h : s ∈ stts p) : (hold y s.b (cellsOf p s)).length ≤ 30 := Nat.le_trans (hold_le _ _ _) (cells_fit hp (stts_mem h)).1
theorem sms_of : ∀ {ds : List D}, (∀ d ∈ ds, D.sm d = true) → D.sms ds = true
  | [], _ => rfl
  | d :: ds, h => by
    rw [D.sms, h d (by simp), sms_of fun e he => h e (by simp [he])]; rfl
theorem sms_ints (l : List Int) : D.sms (l.map .int) = true := sms_of fun d hd => by
  obtain ⟨i, _, rfl⟩ := List.mem_map.mp hd; rfl
theorem due_sm {p : Page} (hp : okPage p = true) (y : Sty) : D.sm (.lst ((stts p).map (tupL p y))) = true := by
  rw [D.sm, List.length_map, decide_eq_true (by have := stts_le hp; omega), Bool.true_and]
  refine sms_of fun d hd => ?_
  obtain ⟨s, hs, rfl⟩ := List.mem_map.mp hd
  have := hold_30 hp y hs
  unfold tupL
  have h3 : (hold y s.b (cellsOf p s)).length ≤ 1000000 := by omega
  simp [D.sm, D.sms, sms_ints, h3]
theorem due_dp (p : Page) (y : Sty) : D.dp (.lst ((stts p).map (tupL p y))) ≤ 8 := by
  rw [dp_lst]
  have : D.dps ((stts p).map (tupL p y)) ≤ 7 := dps_le.mpr fun d hd => by
    obtain ⟨s, _, rfl⟩ := List.mem_map.mp hd
    unfold tupL
    have := dps_ints (hold y s.b (cellsOf p s))
    simp only [dp_tup, dps_cons, dp_int, dp_lst, dps_nil, D.dp]
    omega
  omega
/-- of each told tuple: its holders' list stands behind L -/
def HasH (L m : Nat) (S : Store) (d : D) : Prop := ∃ a b c e f k l, d = .tup [a, b, c, e, f, .ref k] ∧ L < k ∧ S[k]? = some (.lst l) ∧ l.length ≤ m
theorem set_behind {A : Type} (a : List A) (x : A) (m : List A) (k : Nat) (o : A) (h : a.length < k) : (a ++ x :: m).set k o = a ++ x :: m.set (k - a.length - 1) o := by
  obtain ⟨j, rfl⟩ : ∃ j, k = a.length + (j + 1) := ⟨k - a.length - 1, by omega⟩
  rw [List.set_append_right _ _ (by omega)]
  rw [show a.length + (j + 1) - a.length = j + 1 by omega]
  rfl
def m_law_k02 : FV := funD 10 (d_law_k02 m_law_begun m_law_page m_law_take m_law_style m_law_due m_stretches m_law_alike)
/-- the loop that spoils what was told -/
theorem spoil_ok {S0 : Store} {T : List D} {more : Store} {n : Nat} (hn : n + T.length < 1000) (h : ∀ d ∈ T, HasH S0.length n (S0 ++ .lst T :: more) d) (pre : Env) (hp : pre.length = 9) (x : Option D) :
    ∃ x' more', forGo [(S0.length, T)] (gN 9) (sExpr (eMt "list" (appendG) (eOp ixG (eV 9) (eC (.int 5))) (aCons (eC (.int 99)) (aNil)))) T (pre ++ [x]) (S0 ++ .lst T :: more) = .nx (pre ++ [x']) (S0 ++ .lst T :: more') := by
  generalize q : forGo _ _ _ _ _ _ = r
  obtain ⟨e, s, rfl, more', x', rfl, rfl, _⟩ := for_at q (fun i env st' => ∃ more' x', st' = S0 ++ .lst T :: more' ∧ env = pre ++ [x'] ∧ ∀ d ∈ T, HasH S0.length (n + i) (S0 ++ .lst T :: more') d) ⟨more, x, rfl, rfl, h⟩ (fun i env st' _ ⟨more', x', e1, e2, e3⟩ => by subst e1; exact still_one (by simp)) (fun i d env st' hi ⟨more', x', e1, e2, e3⟩ => by
    subst e1 e2
    have il := (List.getElem?_eq_some_iff.mp hi).1
    obtain ⟨a, b, c, e, f, k, l, rfl, k1, k2, k3⟩ := e3 d (List.mem_of_getElem? hi)
    have tm : tyM (S0 ++ .lst T :: more') (.ref k) = some "list" := by simp only [tyM, k2]
    have ll : l.length < LIM := lt_LIM (by omega)
    have ap : appendG (S0 ++ .lst T :: more') (.ref k) [.int 99] = .ok (.non, S0 ++ .lst T :: more'.set (k - S0.length - 1) (.lst (l ++ [.int 99]))) := by
      simp only [appendG, k2, ll, if_true]
      rw [set_behind _ _ _ _ _ k1]
    have g9 : ∀ z : Option D, (pre ++ [x']).set 9 z = pre ++ [z] := fun z => by
      rw [List.set_append_right _ _ (by omega), hp]; rfl
    have i9 : ∀ z : Option D, (pre ++ [z])[9]? = some z := fun z => by
      rw [List.getElem?_append_right (by omega), hp]; rfl
    have at5 : atI [a, b, c, e, f, D.ref k] 5 = some (.ref k) := by
      have := atI_nat [a, b, c, e, f, D.ref k] 5
      exact this
    refine turn_eq (e := pre ++ [some (.tup [a, b, c, e, f, .ref k])]) (s := S0 ++ .lst T :: more'.set (k - S0.length - 1) (.lst (l ++ [.int 99]))) (by simp [g9, i9, at5, tm, ap]) ⟨_, _, rfl, rfl, fun d' hd' => ?_⟩
    obtain ⟨a', b', c', e', f', k', l', rfl, j1, j2, j3⟩ := e3 d' hd'
    rw [← set_behind _ _ _ _ _ k1]
    by_cases z : k' = k
    · subst z
      rw [k2] at j2
      cases j2
      exact ⟨a', b', c', e', f', _, _, rfl, j1, List.getElem?_set_self (List.getElem?_eq_some_iff.mp k2).1, by simp; omega⟩
    · exact ⟨a', b', c', e', f', _, l', rfl, j1, by rw [List.getElem?_set_ne (Ne.symm z)]; exact j2, by omega⟩)
  exact ⟨x', more', rfl⟩
theorem law_k02_true (ns : List Int) (_ : ns.length ≤ 63) : ∃ st, m_law_k02 [.scr ns] [] = .ok (.bl true, st) := by
  rw [m_law_k02, funD, d_law_k02]
  obtain ⟨b, hb⟩ := begun_ok ns
  simp [hb]
  generalize q : forGo _ _ _ _ _ _ = r
  obtain ⟨e, s, rfl, b', rest, rfl, e', rfl, he'⟩ := for_at q (fun i env st' => ∃ b rest, st' = Bx b rest ∧ ∃ e', env = [some (.scr ns), some (.ref 1)] ++ e' ∧ e'.length = 8) ⟨b, [], rfl, _, rfl, rfl⟩ (fun _ _ _ _ _ => rfl) (fun i x env st' hi ⟨b, rest, e1, e', e2, e3⟩ => by
    subst e1 e2
    obtain ⟨a2, e', rfl⟩ : ∃ a l, e' = a :: l := by
      cases e' with
      | nil => simp at e3
      | cons a l => exact ⟨a, l, rfl⟩
    obtain ⟨a3, a4, a5, a6, a7, a8, a9, rfl⟩ := len7 (by simpa using e3)
    obtain ⟨y0, ey, my⟩ := atI_mem (l := [D.int 6, D.int 30]) (i := (tk b 2).1) (tk_lo b (by decide)) (tk_hi b (by decide))
    have hy : ∃ n : Int, y0 = .int n ∧ 1 ≤ n ∧ n ≤ 30 := by
      simp at my
      rcases my with rfl | rfl <;> exact ⟨_, rfl, by decide, by decide⟩
    obtain ⟨n, rfl, n0, n9⟩ := hy
    obtain ⟨p, b2, hp, _, ep⟩ := page_ok (tk b 2).2 rest n n0 n9
    obtain ⟨y, b3, hy, es⟩ := style_ok b2 (rest ++ [.lst (encP p)])
    obtain ⟨p1, p2, p3⟩ := okPage_parts hp
    have lp : listOf (Bx b3 (rest ++ [.lst (encP p)])) (.ref (rest.length + 2)) = some (encP p, [(rest.length + 2, encP p)]) := by simp [listOf]
    have du := law_due_ok hp lp y
    have lo := lst_list lp
    simp only [Bx_len, Bx_app, List.append_assoc, List.length_append, List.length_cons, List.length_nil, List.cons_append, List.nil_append] at du
    have lo2 : lstOf (Bx b3 (rest ++ [.lst (encP p), .lst ((stts p).map (tupL p y))])) (.ref (rest.length + 2)) = some (encP p) := by simp [lstOf]
    simp [take_eq, ey, ep, es, du, listG, lo2]
    generalize q : forGo _ _ _ _ _ _ = r
    obtain ⟨e, s, rfl, more, rfl, e', rfl, h3⟩ := for_at q (fun i env st' => ∃ more, st' = Bx b3 (rest ++ .lst (encP p) :: .lst ((stts p).map (tupL p y)) :: more) ∧ ∃ e', env = [some (.scr ns), some (.ref 1), some x, some (.ref (rest.length + 2)), some y.enc, some (.ref (rest.length + 3)), some (.lst (encP p))] ++ e' ∧ e'.length = 3) ⟨[], rfl, _, rfl, rfl⟩ (fun _ _ _ _ _ => rfl) (fun j z env st' hj ⟨more, e1, e', e2, e3⟩ => by
      obtain ⟨a7, a8, a9, rfl⟩ : ∃ a b c, e' = [a, b, c] := by
        match e', e3 with
        | [a, b, c], _ => exact ⟨a, b, c, rfl⟩
      have g2 : st'[rest.length + 2]? = some (.lst (encP p)) := by rw [e1]; simp
      have g3 : st'[rest.length + 3]? = some (.lst ((stts p).map (tupL p y))) := by rw [e1]; show (Bx b3 _)[rest.length + 1 + 2]? = _; rw [Bx_get]; simp
      obtain ⟨T, more2, sk, hT⟩ := stretches_ok (st := st') hp hy (d := .lst (encP p)) (w := []) rfl
      have sta : Stays st' (st' ++ .lst T :: more2) := Stays.app _ _
      have k2 := sta _ _ g2
      have k3 := sta _ _ g3
      have kT : (st' ++ Ob.lst T :: more2)[st'.length]? = some (.lst T) := by simp
      have al : m_law_alike [.ref st'.length, .ref (rest.length + 3)] (st' ++ .lst T :: more2) = .ok (.bl true, st' ++ .lst T :: more2) := alike_rd 8 (.lst ((stts p).map (tupL p y))) _ _ (by
          rw [Rd]
          exact ⟨T, [(st'.length, T)], by simp [listOf], rds_all (hT.imp fun a b h => tup_rd h)⟩) (by
          rw [Rd]
          exact ⟨_, [(rest.length + 3, _)], by simp only [listOf, k3]; rfl, rds_self (pks_map (tup_pk p y) _)⟩) (due_sm hp y) (due_dp p y)
      have ee : eqG true (st' ++ .lst T :: more2) (.lst (encP p)) (.ref (rest.length + 2)) = .ok (.bl false, st' ++ .lst T :: more2) := by
        rw [eqG_refR k2, eqG_pl (by simp) (by simp) (by have := dps_encP p; simp; omega) (by have := dps_encP p; simp; omega)]
        simp
      have it : itemsOf (st' ++ .lst T :: more2) (.ref st'.length) = some (T, [(st'.length, T)]) := by simp only [itemsOf, kT]
      have hl := hT.len
      have sl := stts_le hp
      subst e2
      obtain ⟨x', more3, sp⟩ := spoil_ok (S0 := st') (T := T) (more := more2) (n := 30) (by omega) (fun d hd => by
        obtain ⟨i, hi⟩ := List.mem_iff_getElem?.mp hd
        obtain ⟨s, hs, k, u1, u2, u3⟩ := hT.get hi
        exact ⟨_, _, _, _, _, k, _, u2, u1, u3, by rw [List.length_map]; exact hold_30 hp y (List.mem_of_getElem? hs)⟩) [some (.scr ns), some (.ref 1), some x, some (.ref (rest.length + 2)), some y.enc, some (.ref (rest.length + 3)), some (.lst (encP p)), some z, some (.ref st'.length)] rfl a9
      have tm : ∀ m, tyM (st' ++ .lst T :: m) (.ref st'.length) = some "list" := fun m => by simp [tyM]
      have cl : clearG (st' ++ .lst T :: more3) (.ref st'.length) [] = .ok (.non, st' ++ .lst [] :: more3) := by simp [clearG]
      simp only [List.cons_append, List.nil_append] at sp
      refine turn_eq (e := [some (.scr ns), some (.ref 1), some x, some (.ref (rest.length + 2)), some y.enc, some (.ref (rest.length + 3)), some (.lst (encP p)), some z, some (.ref st'.length), x']) (s := st' ++ .lst [] :: more3) (by
        simp [sk, al, ee, it, sp, tm, cl]) ⟨more ++ .lst [] :: more3, by rw [e1]; simp, _, rfl, rfl⟩)
    obtain ⟨c7, c8, c9, rfl⟩ : ∃ a b c, e' = [a, b, c] := by
      match e', h3 with
      | [a, b, c], _ => exact ⟨a, b, c, rfl⟩
    exact ⟨⟨_, _, rfl⟩, _, rfl, rfl⟩)
  simp
end Dl
/-! ## DlDict -/
/-! Dicts: {}, look-ups, stores, membership; keys are numbers, texts, or tuples of them. -/
namespace Dl
open PySem L2
section
variable {κ : Type} [DecidableEq κ]
/-- what stands at a key -/
def valK (kvs : List (κ × D)) (k : κ) : Option D := (kvs.find? fun kv => decide (kv.1 = k)).map (·.2)
/-- a key's new value, at the old place or at the end -/
def putKD (kvs : List (κ × D)) (k : κ) (v : D) : List (κ × D) :=
  if kvs.any (fun kv => decide (kv.1 = k)) then kvs.map (fun kv => if kv.1 = k then (kv.1, v) else kv) else kvs ++ [(k, v)]
theorem valK_nil (k : κ) : valK ([] : List (κ × D)) k = none := rfl
theorem valK_cons (p : κ × D) (r : List (κ × D)) (k : κ) : valK (p :: r) k = if p.1 = k then some p.2 else valK r k := by
  by_cases h : p.1 = k <;> simp [valK, List.find?_cons, h]
theorem valK_repl (k j : κ) (y : D) : ∀ kvs : List (κ × D), valK (kvs.map fun kv => if kv.1 = k then (kv.1, y) else kv) j = (valK kvs j).map fun x => if j = k then y else x
  | [] => rfl
  | p :: r => by
    rw [List.map_cons, valK_cons, valK_cons, valK_repl k j y r]
    by_cases h : p.1 = k
    · by_cases h2 : p.1 = j
      · have : j = k := h2.symm.trans h
        simp [h, this]
      · have : ¬ k = j := fun z => h2 (h.trans z)
        simp [h, this]
    · by_cases h2 : p.1 = j
      · have : ¬ j = k := fun z => h (h2.trans z)
        simp [h2, this]
      · simp [h, h2]
theorem valK_app (k j : κ) (y : D) : ∀ kvs : List (κ × D), valK (kvs ++ [(k, y)]) j = match valK kvs j with
    | some x => some x
    | none => if k = j then some y else none
  | [] => by rw [List.nil_append, valK_cons]; rfl
  | p :: r => by
    rw [List.cons_append, valK_cons, valK_cons, valK_app k j y r]
    by_cases h : p.1 = j <;> simp [h]
theorem valK_any (k : κ) : ∀ kvs : List (κ × D), kvs.any (fun kv => decide (kv.1 = k)) = (valK kvs k).isSome
  | [] => rfl
  | p :: r => by
    rw [List.any_cons, valK_any k r, valK_cons]
    by_cases h : p.1 = k <;> simp [h]
theorem valK_put (kvs : List (κ × D)) (k j : κ) (y : D) : valK (putKD kvs k y) j = if j = k then some y else valK kvs j := by
  unfold putKD
  rw [valK_any]
  cases h : valK kvs k with
  | some x =>
    simp only [Option.isSome_some, if_true]
    rw [valK_repl]
    by_cases z : j = k
    · subst z; simp [h]
    · simp [z]
  | none =>
    simp only [Option.isSome_none, Bool.false_eq_true, if_false]
    rw [valK_app]
    by_cases z : j = k
    · subst z; simp [h]
    · rw [if_neg z, if_neg (Ne.symm z)]
      cases valK kvs j <;> rfl
theorem putKD_len (kvs : List (κ × D)) (k : κ) (v : D) : (putKD kvs k v).length ≤ kvs.length + 1 := by
  unfold putKD
  split <;> simp
section
variable {F : Hp} {r : List Addr}
theorem KVr.val {k : κ} {d : D} : ∀ {vs : List (κ × V)} {kvs : List (κ × D)}, KVr F r vs kvs → valK kvs k = some d → ∃ v, valV vs k = some v ∧ Rep F r v d
  | [], [], _, e => by cases e
  | (f, v) :: vs, (g, d') :: kvs, ⟨e, h, q⟩, z => by
    subst e
    rw [valK_cons] at z
    by_cases hk : f = k
    · rw [if_pos hk] at z
      cases z
      exact ⟨v, valV_pos hk, h⟩
    · rw [if_neg hk] at z
      rw [valV_neg hk]
      exact KVr.val q z
  | [], _ :: _, h, _ => h.elim
  | _ :: _, [], h, _ => h.elim
theorem KVr.valN {k : κ} : ∀ {vs : List (κ × V)} {kvs : List (κ × D)}, KVr F r vs kvs → valK kvs k = none → valV vs k = none
  | [], [], _, _ => rfl
  | (f, v) :: vs, (g, d') :: kvs, ⟨e, h, q⟩, z => by
    subst e
    rw [valK_cons] at z
    by_cases hk : f = k
    · rw [if_pos hk] at z; cases z
    · rw [if_neg hk] at z
      rw [valV_neg hk]
      exact KVr.valN q z
  | [], _ :: _, h, _ => h.elim
  | _ :: _, [], h, _ => h.elim
/-- what is looked up, and its data -/
def RelK (F : Hp) (r : List Addr) : Option D → Option V → Prop
  | none, ov => ov = none
  | some d, ov => ∃ v, ov = some v ∧ Rep F r v d
theorem KVr.rel {k : κ} {vs : List (κ × V)} {kvs : List (κ × D)} (h : KVr F r vs kvs) : RelK F r (valK kvs k) (valV vs k) := by
  cases e : valK kvs k with
  | none => exact h.valN e
  | some d => exact h.val e
theorem KVr.any {k : κ} : ∀ {vs : List (κ × V)} {kvs : List (κ × D)}, KVr F r vs kvs → vs.any (fun kv => decide (kv.1 = k)) = kvs.any (fun kv => decide (kv.1 = k))
  | [], [], _ => rfl
  | (f, v) :: vs, (g, d') :: kvs, ⟨e, h, q⟩ => by
    subst e
    rw [List.any_cons, List.any_cons, KVr.any q]
  | [], _ :: _, h => h.elim
  | _ :: _, [], h => h.elim
theorem KVr.len : ∀ {vs : List (κ × V)} {kvs : List (κ × D)}, KVr F r vs kvs → vs.length = kvs.length
  | [], [], _ => rfl
  | (f, v) :: vs, (g, d') :: kvs, ⟨_, _, q⟩ => by simp [KVr.len q]
  | [], _ :: _, h => h.elim
  | _ :: _, [], h => h.elim
theorem KVr.repl {k : κ} {w : V} {e : D} (hw : Rep F r w e) : ∀ {vs : List (κ × V)} {kvs : List (κ × D)}, KVr F r vs kvs → KVr F r (vs.map fun kv => if kv.1 = k then (kv.1, w) else kv) (kvs.map fun kv => if kv.1 = k then (kv.1, e) else kv)
  | [], [], _ => trivial
  | (f, v) :: vs, (g, d') :: kvs, ⟨z, h, q⟩ => by
    subst z
    rw [List.map_cons, List.map_cons]
    by_cases hk : f = k
    · simp only [hk, if_true]
      exact ⟨rfl, hw, KVr.repl hw q⟩
    · simp only [hk, if_false]
      exact ⟨rfl, h, KVr.repl hw q⟩
  | [], _ :: _, h => h.elim
  | _ :: _, [], h => h.elim
theorem KVr.snoc {k : κ} {w : V} {e : D} (hw : Rep F r w e) : ∀ {vs : List (κ × V)} {kvs : List (κ × D)}, KVr F r vs kvs → KVr F r (vs ++ [(k, w)]) (kvs ++ [(k, e)])
  | [], [], _ => ⟨rfl, hw, trivial⟩
  | (f, v) :: vs, (g, d') :: kvs, ⟨z, h, q⟩ => ⟨z, h, KVr.snoc hw q⟩
  | [], _ :: _, h => h.elim
  | _ :: _, [], h => h.elim
theorem KVr.put {k : κ} {w : V} {e : D} (hw : Rep F r w e) {vs : List (κ × V)} {kvs : List (κ × D)} (h : KVr F r vs kvs) : KVr F r (putK vs k w) (putKD kvs k e) := by
  unfold putK putKD
  rw [h.any]
  split
  · exact h.repl hw
  · exact h.snoc hw
end
end
/-! ### keys -/
def keysOf : List D → Option (List L2.Key)
  | [] => some []
  | .int i :: ds => (keysOf ds).map (Sum.inl i :: ·)
  | .str s :: ds => (keysOf ds).map (Sum.inr ⟨s.toArray⟩ :: ·)
  | _ => none
@[simp] theorem keysOf_nil : keysOf [] = some [] := rfl
@[simp] theorem keysOf_int (i : Int) (ds : List D) : keysOf (.int i :: ds) = (keysOf ds).map (Sum.inl i :: ·) := rfl
@[simp] theorem keysOf_str (s : List Nat) (ds : List D) : keysOf (.str s :: ds) = (keysOf ds).map (Sum.inr ⟨s.toArray⟩ :: ·) := rfl
theorem keysOf_ok {F : Hp} {r : List Addr} : ∀ {ds : List D} {vs : List V} {ks : List L2.Key}, Reps F r vs ds → keysOf ds = some ks → vs = ks.map kV
  | [], _, _, .nil, e => by cases e; rfl
  | .int i :: ds, _, ks, .cons h t, e => by
    rw [keysOf_int] at e
    cases q : keysOf ds with
    | none => rw [q] at e; cases e
    | some ks' =>
      rw [q] at e; cases e
      cases h
      rw [keysOf_ok t q]; rfl
  | .str s :: ds, _, ks, .cons h t, e => by
    rw [keysOf_str] at e
    cases q : keysOf ds with
    | none => rw [q] at e; cases e
    | some ks' =>
      rw [q] at e; cases e
      cases h
      rw [keysOf_ok t q]; rfl
  | .non :: ds, _, ks, _, e => by cases e
  | .bl _ :: ds, _, ks, _, e => by cases e
  | .tup _ :: ds, _, ks, _, e => by cases e
  | .lst _ :: ds, _, ks, _, e => by cases e
  | .ref _ :: ds, _, ks, _, e => by cases e
  | .scr _ :: ds, _, ks, _, e => by cases e
/-- what the dict d holds at the key e; none where no word is said -/
def dvalG (st : Store) (d e : D) : Option (Option D) := match d with
  | .ref n => match st[n]? with
    | some (.dT kvs) => match e with
      | .tup ks => (keysOf ks).map (valK kvs)
      | _ => none
    | some (.dK kvs) => match e with
      | .int i => some (valK kvs (.inl i))
      | .str s => some (valK kvs (.inr ⟨s.toArray⟩))
      | _ => none
    | _ => none
  | _ => none
theorem dval_ok {W : Wd} {Rs F H : Hp} {r : List Addr} {st : Store} {x y : V} {dx dy : D} {o : Option D} (h : Holds W Rs F H r st) (kx : Rep F r x dx) (ky : Rep F r y dy) (e : dvalG st dx dy = some o) :
    ∃ a ov, x = .ref a ∧ DGet H a y ov ∧ RelK F r o ov := by
  cases kx with
  | @ref a n q =>
    unfold dvalG at e
    simp only at e
    split at e
    · rename_i kvs e1
      obtain ⟨vs, h1, k1⟩ := h.ob n a _ q e1
      cases ky with
      | @tup b vs2 ds qb kb =>
        simp only at e
        cases e2 : keysOf ds with
        | none => rw [e2] at e; cases e
        | some ks =>
          rw [e2] at e
          cases e
          have e3 := keysOf_ok kb e2
          subst e3
          exact ⟨a, _, rfl, DGet.t h1 (h.sF _ _ qb), k1.rel⟩
      | _ => cases e
    · rename_i kvs e1
      obtain ⟨vs, h1, k1⟩ := h.ob n a _ q e1
      cases ky with
      | int i =>
        cases e
        exact ⟨a, _, rfl, DGet.k (k := .inl i) h1, k1.rel⟩
      | str s hs hl =>
        cases e
        exact ⟨a, _, rfl, DGet.k (k := .inr ⟨s.toArray⟩) h1, k1.rel⟩
      | _ => cases e
    · cases e
  | _ => cases e
section
variable {W : Wd} {X : Cx} {E : XK}
theorem hu_of {j : Nat} {A : Around} (hr : Room j A) : A.units + 1 < cLine := by
  have := hr.units
  omega
/-! ### d[k] -/
def dgetG : G2 := fun st d e => match dvalG st d e with
  | some (some v) => .ok (v, st)
  | _ => .bad
theorem de_dget {a b : Expr} {fa fb : EV} {pos : Pos} (hu : X.A.units + 1 < cLine) (ha : DE W X E a fa) (hb : DE W X E b fb) (hs : NoSl b) : DE W X E (.Subscript a b pos) (eOp dgetG fa fb) := by
  obtain ⟨ta, pa, qa⟩ := ha.ex
  obtain ⟨tb, pb, qb⟩ := hb.ex
  refine .mk (pe_dget hu pa pb hs) fun Rs F H rr sg env st Q hH hE hP => eOp_post (rd := fun x y H Q => ∃ a v, x = .ref a ∧ DGet H a y (some v) ∧ Q v H) qa qb ?_ hH hE hP
  intro Rs F H rr st x y dx dy Q E h kx ky hP
  unfold dgetG at hP
  cases e : dvalG st dx dy with
  | none => rw [e] at hP; exact hP.elim
  | some o =>
    rw [e] at hP
    cases o with
    | none => exact hP.elim
    | some d =>
      obtain ⟨a, ov, rfl, g, v, rfl, k⟩ := dval_ok h kx ky e
      exact ⟨a, v, rfl, g, onE_here h k hP⟩
/-! ### k in d -/
def dinG (neg : Bool) : G2 := fun st e d => match dvalG st d e with
  | some o => .ok (.bl (if neg = true then !o.isSome else o.isSome), st)
  | none => .bad
theorem some_same {F : Hp} {r : List Addr} {o : Option D} {ov : Option V} (h : RelK F r o ov) : ov.isSome = o.isSome := by
  cases o with
  | none => rw [show ov = none from h]; rfl
  | some d => obtain ⟨v, rfl, _⟩ := h; rfl
theorem dop_din (hu : X.A.units + 1 < cLine) : DOp W X (compareOp .In) (dinG false) := by
  refine .of (r := fun x y H Q => ∃ a o, y = .ref a ∧ DGet H a x o ∧ Q (.bl o.isSome) H) ?_ fun Rs F H rr st x y dx dy Q E h kx ky hP => ?_
  · intro pins s σ H x y v u Q I rx ry h
    obtain ⟨a, o, rfl, g, q⟩ := h
    obtain rfl : u = Value.ref a := ry
    exact d_in hu I g rx fun s3 I3 => ⟨.bl o.isSome, H, I3, rfl, q⟩
  · unfold dinG at hP
    cases e : dvalG st dy dx with
    | none => rw [e] at hP; exact hP.elim
    | some o =>
      rw [e] at hP
      obtain ⟨a, ov, rfl, g, k⟩ := dval_ok h ky kx e
      refine ⟨a, ov, rfl, g, ?_⟩
      rw [some_same (o := o) k]
      exact onE_here h (.bl _) hP
theorem dop_dinN (hu : X.A.units + 1 < cLine) : DOp W X (compareOp .NotIn) (dinG true) := by
  refine .of (r := fun x y H Q => ∃ a o, y = .ref a ∧ DGet H a x o ∧ Q (.bl (!o.isSome)) H) ?_ fun Rs F H rr st x y dx dy Q E h kx ky hP => ?_
  · intro pins s σ H x y v u Q I rx ry h
    obtain ⟨a, o, rfl, g, q⟩ := h
    obtain rfl : u = Value.ref a := ry
    exact d_notIn hu I g rx fun s3 I3 => ⟨.bl (!o.isSome), H, I3, rfl, q⟩
  · unfold dinG at hP
    cases e : dvalG st dy dx with
    | none => rw [e] at hP; exact hP.elim
    | some o =>
      rw [e] at hP
      obtain ⟨a, ov, rfl, g, k⟩ := dval_ok h ky kx e
      refine ⟨a, ov, rfl, g, ?_⟩
      rw [some_same (o := o) k]
      exact onE_here h (.bl _) hP
/-! ### d[k] = v -/
def dsetG : SetV := fun st o i v => match o with
  | .ref n => match st[n]? with
    | some (.dT kvs) => match i with
      | .tup ks => match keysOf ks with
        | some k => if kvs.length < LIM then some (st.set n (.dT (putKD kvs k v))) else none
        | none => none
      | _ => none
    | some (.dK kvs) => match i with
      | .int j => if kvs.length < LIM then some (st.set n (.dK (putKD kvs (.inl j) v))) else none
      | .str s => if kvs.length < LIM then some (st.set n (.dK (putKD kvs (.inr ⟨s.toArray⟩) v))) else none
      | _ => none
    | _ => none
  | _ => none
def rDPut : V → V → V → Hp → (Hp → Prop) → Prop := fun o i v H Q => ∃ a H', o = .ref a ∧ DPut H a i v H' ∧ Q H'
theorem set_dictD (hu : X.A.units + 1 < cLine) : PSet X rDPut := by
  intro pins s σ H o i v ov iv u Q I ro ri rv h
  obtain ⟨a, H', rfl, g, q⟩ := h
  obtain rfl : ov = Value.ref a := ro
  exact d_setItem hu I g ri rv fun s' I' => ⟨H', I', q⟩
theorem lim_size {n : Nat} (h : n < LIM) : n < sizeLine := Nat.lt_of_lt_of_le h (lim_line (Nat.le_refl _))
theorem dset_dict (hu : X.A.units + 1 < cLine) : DSet W X dsetG := ⟨_, set_dictD hu, fun Rs F H r st o i v dO di dv N hH ko ki kv st' e hN => by
  cases ko with
  | @ref a n q =>
    unfold dsetG at e
    simp only at e
    split at e
    · rename_i kvs e1
      obtain ⟨vs, h1, k1⟩ := hH.ob n a _ q e1
      cases ki with
      | @tup b vs2 ds qb kb =>
        simp only at e
        cases e2 : keysOf ds with
        | none => rw [e2] at e; cases e
        | some ks =>
          rw [e2] at e
          simp only at e
          split at e
          · rename_i hl
            cases e
            have e3 := keysOf_ok kb e2
            subst e3
            exact ⟨a, _, rfl, DPut.t h1 (hH.sF _ _ qb) (by rw [k1.len]; exact lim_size hl), hN _ (hH.write q ⟨_, upd_same, k1.put kv⟩)⟩
          · cases e
      | _ => cases e
    · rename_i kvs e1
      obtain ⟨vs, h1, k1⟩ := hH.ob n a _ q e1
      cases ki with
      | int j =>
        simp only at e
        split at e
        · rename_i hl
          cases e
          exact ⟨a, _, rfl, DPut.k (k := .inl j) h1 (by rw [k1.len]; exact lim_size hl), hN _ (hH.write q ⟨_, upd_same, k1.put kv⟩)⟩
        · cases e
      | str s hs hl0 =>
        simp only at e
        split at e
        · rename_i hl
          cases e
          exact ⟨a, _, rfl, DPut.k (k := .inr ⟨s.toArray⟩) h1 (by rw [k1.len]; exact lim_size hl), hN _ (hH.write q ⟨_, upd_same, k1.put kv⟩)⟩
        · cases e
      | _ => cases e
    · cases e
  | _ => cases e⟩
/-! ### {} -/
def eDictT : EV := fun _ st => .ok (.ref st.length, st ++ [.dT []])
def eDictK : EV := fun _ st => .ok (.ref st.length, st ++ [.dK []])
@[simp] theorem r_eDictT (env : Env) (st : Store) : eDictT env st = .ok (.ref st.length, st ++ [.dT []]) := (rfl)
@[simp] theorem r_eDictK (env : Env) (st : Store) : eDictK env st = .ok (.ref st.length, st ++ [.dK []]) := (rfl)
theorem new_at {Rs F H : Hp} {r : List Addr} {st : Store} {p : Addr} {o : HO} {b : Ob} {Q : VK} (hH : Holds W Rs F H r st) (hp : H p = none) (k : ObOk W F (r ++ [p]) (upd H p o) p b) (h : onE W Rs F r Q (.ref st.length, st ++ [b])) : Q (.ref p) (upd H p o) :=
  h F _ _ _ (Same.refl _) (Ext.snoc _ _) (hH.fresh hp k) (.ref (by rw [← hH.len]; simp))
theorem de_dictT {pos : Pos} : DE W X E (.Dict [] [] pos) eDictT :=
  .mk pe_dnewT fun Rs F H r sg env st Q hH hE hP p hp => new_at (b := .dT []) hH hp ⟨[], upd_same, trivial⟩ hP
theorem de_dictK {pos : Pos} : DE W X E (.Dict [] [] pos) eDictK :=
  .mk pe_dnewK fun Rs F H r sg env st Q hH hE hP p hp => new_at (b := .dK []) hH hp ⟨[], upd_same, trivial⟩ hP
end
end Dl
/-! ## D3 -/
/-! The meanings of some defs (printed by pick.py). -/
namespace Dl
open PySem L2
/-- stops_by: 10 slots, 3 parameters -/
def d_stops_by (m_Stretch_width : FV) : SV := sCons (sAsg (eDictT) (gN 3)) (sCons (sFor (iSeq (eV 2)) (gN 4) (sFor (iR2 (aCons (eFld 12 "begin" (eV 4)) (aCons (eFld 12 "end" (eV 4)) (aNil)))) (gN 5) (sAsg (eMeth 12 "width" 2 m_Stretch_width (eV 4) (aCons (eV 1) (aNil))) (gSb (eV 3) (eTup (aCons (eV 5) (aCons (eFld 12 "column" (eV 4)) (aNil)))) dsetG)))) (sCons (sAsg (eLst true (aNil)) (gN 6)) (sCons (sFor (iEn (aCons (eV 0) (aNil))) (gTp 2 (gsCons (gN 5) (gsCons (gN 7) (gsNil)))) (sCons (sAsg (eLst true (aCons (eC (.int 0)) (aNil))) (gN 8)) (sCons (sFor (iR1 (aCons (eOp subG (eB lenG (aCons (eV 7) (aNil))) (eC (.int 1))) (aNil))) (gN 9) (sExpr (eMt "list" (appendG) (eV 8) (aCons (eOp (addG false) (eOp ixG (eV 8) (eNeg (eC (.int 1)))) (eOp dgetG (eV 3) (eTup (aCons (eV 5) (aCons (eV 9) (aNil)))))) (aNil))))) (sExpr (eMt "list" (appendG) (eV 6) (aCons (eV 8) (aNil))))))) (sRet (eV 6)))))
/-- begins_by: 7 slots, 3 parameters -/
def d_begins_by (m_stops_by : FV) (m_Stretch_is_right : FV) (m_Stretch_width : FV) : SV := sCons (sAsg (eCall 3 m_stops_by (aCons (eV 0) (aCons (eV 1) (aCons (eV 2) (aNil))))) (gN 3)) (sCons (sFor (iSeq (eV 2)) (gN 4) (sIf (tv (eMeth 12 "is_right" 1 m_Stretch_is_right (eV 4) aNil)) (sFor (iR1 (aCons (eB lenG (aCons (eFld 12 "cells" (eV 4)) (aNil))) (aNil))) (gN 5) (sCons (sAsg (eOp ixG (eV 3) (eOp (addG false) (eFld 12 "begin" (eV 4)) (eV 5))) (gN 6)) (sAsg (eOp subG (eOp subG (eOp (addG false) (eOp ixG (eV 6) (eFld 12 "column" (eV 4))) (eMeth 12 "width" 2 m_Stretch_width (eV 4) (aCons (eV 1) (aNil)))) (eOp ixG (eV 1) (eC (.int 0)))) (eB lenG (aCons (eOp ixG (eFld 12 "cells" (eV 4)) (eV 5)) (aNil)))) (gSb (eV 6) (eFld 12 "column" (eV 4)) setLG)))) (sNext))) (sRet (eV 3)))
/-- stops: 2 slots, 2 parameters -/
def d_stops (m_need_page : FV) (m_need_style : FV) (m_stops_by : FV) (m_all_stretches : FV) : SV := sCons (sExpr (eCall 1 m_need_page (aCons (eV 0) (aNil)))) (sCons (sExpr (eCall 1 m_need_style (aCons (eV 1) (aNil)))) (sRet (eCall 3 m_stops_by (aCons (eV 0) (aCons (eV 1) (aCons (eCall 1 m_all_stretches (aCons (eV 0) (aNil))) (aNil)))))))
/-- laid: 2 slots, 2 parameters -/
def d_laid (m_need_page : FV) (m_need_style : FV) (m_begins_by : FV) (m_all_stretches : FV) : SV := sCons (sExpr (eCall 1 m_need_page (aCons (eV 0) (aNil)))) (sCons (sExpr (eCall 1 m_need_style (aCons (eV 1) (aNil)))) (sRet (eCall 3 m_begins_by (aCons (eV 0) (aCons (eV 1) (aCons (eCall 1 m_all_stretches (aCons (eV 0) (aNil))) (aNil)))))))
/-- law_ends: 6 slots, 2 parameters -/
def d_law_ends (m_law_wide : FV) : SV := sCons (sAsg (eLst true (aNil)) (gN 2)) (sCons (sFor (iR1 (aCons (eB lenG (aCons (eV 0) (aNil))) (aNil))) (gN 3) (sCons (sAsg (eLst true (aCons (eC (.int 0)) (aNil))) (gN 4)) (sCons (sFor (iR1 (aCons (eOp subG (eB lenG (aCons (eOp ixG (eV 0) (eV 3)) (aNil))) (eC (.int 1))) (aNil))) (gN 5) (sExpr (eMt "list" (appendG) (eV 4) (aCons (eOp (addG false) (eOp ixG (eV 4) (eNeg (eC (.int 1)))) (eCall 4 m_law_wide (aCons (eV 0) (aCons (eV 1) (aCons (eV 3) (aCons (eV 5) (aNil))))))) (aNil))))) (sExpr (eMt "list" (appendG) (eV 2) (aCons (eV 4) (aNil))))))) (sRet (eV 2)))
/-- law_begins: 7 slots, 2 parameters -/
def d_law_begins (m_law_ends : FV) (m_law_turned : FV) : SV := sCons (sAsg (eCall 2 m_law_ends (aCons (eV 0) (aCons (eV 1) (aNil)))) (gN 2)) (sCons (sFor (iR1 (aCons (eB lenG (aCons (eV 0) (aNil))) (aNil))) (gN 3) (sCons (sAsg (eB (listG false) (aCons (eOp ixG (eV 2) (eV 3)) (aNil))) (gN 4)) (sFor (iR1 (aCons (eOp subG (eB lenG (aCons (eOp ixG (eV 0) (eV 3)) (aNil))) (eC (.int 1))) (aNil))) (gN 5) (sIf (tv (eCall 3 m_law_turned (aCons (eV 0) (aCons (eV 3) (aCons (eV 5) (aNil)))))) (sCons (sAsg (eOp subG (eOp ixG (eV 4) (eOp (addG false) (eV 5) (eC (.int 1)))) (eOp ixG (eV 1) (eC (.int 0)))) (gN 6)) (sAsg (eOp subG (eV 6) (eB lenG (aCons (eOp ixG (eOp ixG (eV 0) (eV 3)) (eV 5)) (aNil)))) (gSb (eOp ixG (eV 2) (eV 3)) (eV 5) setLG))) (sNext))))) (sRet (eV 2)))
/-- law_k03: 10 slots, 1 parameters -/
def d_law_k03 (m_law_begun : FV) (m_law_page : FV) (m_law_take : FV) (m_law_style : FV) (m_law_begins : FV) (m_law_ends : FV) (m_laid : FV) (m_stops : FV) (m_law_alike : FV) : SV := sCons (sAsg (eCall 1 m_law_begun (aCons (eV 0) (aNil))) (gN 1)) (sCons (sFor (iR1 (aCons (eC (.int 3)) (aNil))) (gN 2) (sCons (sPar 3 4 (aCons (eCall 2 m_law_page (aCons (eV 1) (aCons (eOp ixG (eLst false (aCons (eC (.int 6)) (aCons (eC (.int 30)) (aNil)))) (eCall 2 m_law_take (aCons (eV 1) (aCons (eC (.int 2)) (aNil))))) (aNil)))) (aCons (eCall 1 m_law_style (aCons (eV 1) (aNil))) (aNil)))) (sCons (sAsg (eLst false (aCons (eCall 2 m_law_ends (aCons (eV 3) (aCons (eV 4) (aNil)))) (aCons (eCall 2 m_law_begins (aCons (eV 3) (aCons (eV 4) (aNil)))) (aNil)))) (gN 5)) (sCons (sAsg (eB (listG false) (aCons (eV 3) (aNil))) (gN 6)) (sFor (iR1 (aCons (eC (.int 2)) (aNil))) (gN 7) (sCons (sAsg (eLst false (aCons (eCall 2 m_stops (aCons (eV 6) (aCons (eV 4) (aNil)))) (aCons (eCall 2 m_laid (aCons (eV 6) (aCons (eV 4) (aNil)))) (aNil)))) (gN 8)) (sCons (sIf (tOrD (tNotD (tv (eCall 2 m_law_alike (aCons (eV 8) (aCons (eV 5) (aNil)))))) (tv (eOp (eqG true) (eV 6) (eV 3)))) (sRet (eC (.bl false))) (sNext)) (sFor (iSeq (eV 8)) (gN 9) (sCons (sExpr (eMt "list" (appendG) (eOp ixG (eV 9) (eNeg (eC (.int 1)))) (aCons (eC (.int 0)) (aNil)))) (sExpr (eMt "list" (appendG) (eV 9) (aCons (eLst false (aNil)) (aNil))))))))))))) (sRet (eC (.bl true))))
end Dl
/-! ## B03 -/
/-! Where cells lie: left ends, begins, by plain counting. -/
namespace Dl
open PySem L2
/-! ### the stretch of a closed cell -/
theorem begOf_eq {p : Page} {c b : Nat} (hb : isB p c b = true) : ∀ k, b ≤ k → (∀ j, b ≤ j → j ≤ k → clo p c j = true) → begOf p c k = b
  | 0, h, _ => by
    have : b = 0 := by omega
    subst this; rfl
  | k + 1, h, hc => by
    by_cases z : b = k + 1
    · subst z
      rw [begOf_self]
      simp only [isB, Bool.and_eq_true, Bool.or_eq_true, Bool.not_eq_true', beq_iff_eq] at hb
      exact hb.2
    · unfold begOf
      rw [if_pos (hc k (by omega) (by omega))]
      exact begOf_eq hb k (by omega) fun j h1 h2 => hc j h1 (by omega)
def sttAt (p : Page) (k c : Nat) : Stt := sttOf p c (begOf p c k)
/-- the cell k, c lies in the stretch s -/
def Covers (s : Stt) (k c : Nat) : Prop := s.c = c ∧ s.b ≤ k ∧ k < s.e
instance (s : Stt) (k c : Nat) : Decidable (Covers s k c) := by unfold Covers; exact inferInstance
theorem stts_form {p : Page} {s : Stt} (h : s ∈ stts p) : s = sttOf p s.c s.b := by
  unfold stts at h
  rw [List.mem_flatMap] at h
  obtain ⟨c, hc, h⟩ := h
  obtain ⟨b, hb, rfl⟩ := List.mem_map.mp h
  rfl
theorem covers_at {p : Page} {s : Stt} (h : s ∈ stts p) {k c : Nat} (hk : Covers s k c) : s = sttAt p k c := by
  have so := stts_mem h
  obtain ⟨rfl, h1, h2⟩ := hk
  unfold sttAt
  rw [begOf_eq so.beg k h1 fun j a b => so.clo j a (by omega)]
  exact stts_form h
theorem begOf_isB {p : Page} {c : Nat} : ∀ k, clo p c k = true → isB p c (begOf p c k) = true
  | 0, h => by
    show isB p c 0 = true
    simp [isB, h]
  | k + 1, h => by
    unfold begOf
    by_cases hc : clo p c k = true
    · rw [if_pos hc]; exact begOf_isB k hc
    · rw [if_neg hc]
      simp [isB, h, hc]
theorem endOf_run {p : Page} {c k : Nat} (hk : clo p c k = true) : endOf p c (begOf p c k) = endOf p c (k + 1) := by
  have hlt : k < p.length := by
    obtain ⟨r, hr, _⟩ := clo_row hk
    exact (List.getElem?_eq_some_iff.mp hr).1
  have eo := endOf_ok (p := p) (c := c) (k := k + 1) (by omega)
  have bl := begOf_le p c k
  exact endOf_eq (by omega) eo.2.1 (run_all hk) eo.2.2.2
theorem sttAt_mem {p : Page} {k c : Nat} (hc : c < 5) (hk : clo p c k = true) : sttAt p k c ∈ stts p ∧ Covers (sttAt p k c) k c := by
  have hlt : k < p.length := by
    obtain ⟨r, hr, _⟩ := clo_row hk
    exact (List.getElem?_eq_some_iff.mp hr).1
  have eo := endOf_ok (p := p) (c := c) (k := k + 1) (by omega)
  have bl := begOf_le p c k
  refine ⟨?_, rfl, bl, ?_⟩
  · unfold stts
    rw [List.mem_flatMap]
    refine ⟨c, List.mem_range.mpr hc, List.mem_map.mpr ⟨begOf p c k, ?_, rfl⟩⟩
    unfold begs
    rw [List.mem_filter, List.mem_range]
    exact ⟨by omega, begOf_isB k hk⟩
  · show k < endOf p c (begOf p c k)
    rw [endOf_run hk]; omega
theorem cellsOf_at {p : Page} {k c : Nat} (hk : clo p c k = true) : cellsOf p (sttAt p k c) = cellsBE p c (begOf p c k) (endOf p c (k + 1)) := by
  rw [cellsOf_BE]
  show cellsBE p c (begOf p c k) (endOf p c (begOf p c k)) = _
  rw [endOf_run hk]
/-! ### widths and left ends -/
def wAt (p : Page) (y : Sty) (k c : Nat) : Int := wid y (cellsOf p (sttAt p k c))
def sumW (p : Page) (y : Sty) (k : Nat) : Nat → Int
  | 0 => 0
  | c + 1 => sumW p y k c + wAt p y k c
def leftsN (p : Page) (y : Sty) (k n : Nat) : List Int := (List.range n).map (sumW p y k)
theorem leftsN_succ (p : Page) (y : Sty) (k n : Nat) : leftsN p y k (n + 1) = leftsN p y k n ++ [sumW p y k n] := by
  unfold leftsN
  rw [List.range_succ, List.map_append]; rfl
@[simp] theorem leftsN_len (p : Page) (y : Sty) (k n : Nat) : (leftsN p y k n).length = n := by simp [leftsN]
def cellsIn (p : Page) (k : Nat) : Nat := (p.getD k []).length
def leftsR (p : Page) (y : Sty) (k : Nat) : List Int := leftsN p y k (cellsIn p k)
def rightAt (p : Page) (k c : Nat) : Bool := clo p c k && right (cellsOf p (sttAt p k c))
def bAt (p : Page) (y : Sty) (k c : Nat) : Int := if rightAt p k c = true then sumW p y k (c + 1) - y.g - (cellAt p k c).length else sumW p y k c
def begsR (p : Page) (y : Sty) (k : Nat) : List Int := (List.range (cellsIn p k)).map (bAt p y k)
theorem wid_lo {y : Sty} (hy : y.ok) (ss : List (List Nat)) : 0 ≤ wid y ss := by
  have := hy.2.1
  unfold wid; omega
/-! ### rows of numbers in the store -/
def rowI (p : Page) (f : Nat → Nat → Int) (k : Nat) : List D := ((List.range (cellsIn p k)).map (f k)).map .int
def gridS (p : Page) (f : Nat → Nat → Int) : Store := (List.range p.length).map fun k => .lst (rowI p f k)
@[simp] theorem rowI_len (p : Page) (f : Nat → Nat → Int) (k : Nat) : (rowI p f k).length = cellsIn p k := by simp [rowI]
@[simp] theorem gridS_len (p : Page) (f : Nat → Nat → Int) : (gridS p f).length = p.length := by simp [gridS]
theorem rowI_at {p : Page} (f : Nat → Nat → Int) {k c : Nat} (h : c < cellsIn p k) : (rowI p f k)[c]? = some (.int (f k c)) := by simp [rowI, h]
theorem gridS_at {p : Page} (f : Nat → Nat → Int) {k : Nat} (h : k < p.length) : (gridS p f)[k]? = some (.lst (rowI p f k)) := by simp [gridS, h]
theorem rowI_congr {p : Page} {f g : Nat → Nat → Int} {k : Nat} (h : ∀ c, c < cellsIn p k → f k c = g k c) : rowI p f k = rowI p g k := by
  unfold rowI
  refine congrArg (List.map D.int) (List.map_congr_left fun c hc => h c ?_)
  exact List.mem_range.mp hc
theorem gridS_congr {p : Page} {f g : Nat → Nat → Int} (h : ∀ k c, k < p.length → c < cellsIn p k → f k c = g k c) : gridS p f = gridS p g := by
  unfold gridS
  refine List.map_congr_left fun k hk => ?_
  rw [rowI_congr fun c hc => h k c (List.mem_range.mp hk) hc]
theorem gridS_set {p : Page} (f : Nat → Nat → Int) {k c : Nat} (hk : k < p.length) (hc : c < cellsIn p k) (v : Int) :
    (gridS p f).set k (.lst ((rowI p f k).set c (.int v))) = gridS p fun k' c' => if k' = k ∧ c' = c then v else f k' c' := by
  refine List.ext_getElem? fun j => ?_
  by_cases hj : j < p.length
  · rw [gridS_at _ hj]
    by_cases z : k = j
    · subst z
      rw [List.getElem?_set_self (by simpa using hk)]
      refine congrArg (fun l => some (Ob.lst l)) (List.ext_getElem? fun i => ?_)
      by_cases hi : i < cellsIn p k
      · rw [rowI_at _ hi]
        by_cases q : c = i
        · subst q
          rw [List.getElem?_set_self (by simpa using hc)]
          simp
        · rw [List.getElem?_set_ne q, rowI_at _ hi]
          simp [Ne.symm q]
      · rw [List.getElem?_eq_none (by simp; omega), List.getElem?_eq_none (by simp; omega)]
    · rw [List.getElem?_set_ne z, gridS_at _ hj, rowI_congr fun c' _ => ?_]
      simp [Ne.symm z]
  · rw [List.getElem?_eq_none (by simp; omega), List.getElem?_eq_none (by simp; omega)]
theorem cellsIn_row {p : Page} {k : Nat} {r : Row} (h : p[k]? = some r) : cellsIn p k = r.length := by
  unfold cellsIn
  rw [List.getD_eq_getElem?_getD, h]; rfl
theorem cellsIn_le {p : Page} (hp : okPage p = true) {k : Nat} (hk : k < p.length) : 1 ≤ cellsIn p k ∧ cellsIn p k ≤ 6 := by
  obtain ⟨p1, p2, p3⟩ := okPage_parts hp
  have hr : p[k]? = some p[k] := by simp [hk]
  rw [cellsIn_row hr]
  obtain ⟨r1, r2, r3⟩ := okRow_parts (p3 _ (List.mem_of_getElem? hr))
  exact ⟨r1, r2⟩
theorem clo_cells {p : Page} {k c : Nat} (hk : k < p.length) : clo p c k = decide (c + 1 < cellsIn p k) := by
  have hr : p[k]? = some p[k] := by simp [hk]
  rw [clo_at hr, cellsIn_row hr]
end Dl
/-! ## B03b -/
/-! stops_by. -/
namespace Dl
open PySem L2
theorem ints_getL {lo : Int} {n j : Nat} {x : D} (h : (intsD lo n)[j]? = some x) : j < n ∧ x = .int (lo + (j : Int)) := by
  have hl := (List.getElem?_eq_some_iff.mp h).1
  rw [intsD_len] at hl
  rw [ints_at lo n j hl] at h
  cases h
  exact ⟨hl, rfl⟩
def m_stops_by : FV := funD 10 (d_stops_by m_Stretch_width)
def kkc (k c : Nat) : List L2.Key := [Sum.inl (k : Int), Sum.inl (c : Int)]
theorem kkc_inj {k c k' c' : Nat} : kkc k c = kkc k' c' ↔ k = k' ∧ c = c' := by
  unfold kkc
  simp only [List.cons.injEq, Sum.inl.injEq, and_true]
  omega
/-- what the widths tell -/
def Told (p : Page) (y : Sty) (kvs : List (List L2.Key × D)) (k c : Nat) : Prop := valK kvs (kkc k c) = some (.int (wAt p y k c))
theorem told_put {p : Page} {y : Sty} {kvs : List (List L2.Key × D)} {k c k' c' : Nat} (h : Told p y kvs k c ∨ (k = k' ∧ c = c')) : Told p y (putKD kvs (kkc k' c') (.int (wAt p y k' c'))) k c := by
  unfold Told
  rw [valK_put]
  by_cases z : kkc k c = kkc k' c'
  · rw [if_pos z]
    obtain ⟨rfl, rfl⟩ := kkc_inj.mp z
    rfl
  · rw [if_neg z]
    rcases h with h | h
    · exact h
    · exact absurd (kkc_inj.mpr h) z
theorem stAt_app {p : Page} {st more : Store} {k : Nat} {s : Stt} (h : StAt p st k s) : StAt p (st ++ more) k s := by
  unfold StAt at h ⊢
  rw [List.getElem?_append_left (List.getElem?_eq_some_iff.mp h).1]; exact h
theorem get_app {st more : Store} {n : Nat} {o : Ob} (h : st[n]? = some o) : (st ++ more)[n]? = some o := by
  rw [List.getElem?_append_left (List.getElem?_eq_some_iff.mp h).1]; exact h
theorem stops_by_ok {p : Page} (hp : okPage p = true) (y : Sty) {d : D} {w : List (Nat × List D)} {st : Store} (hd : listOf st d = some (encP p, w)) {n : Nat} {RR : List D} (hn : st[n]? = some (.lst RR)) (hR : All2 (IsSt p st) RR (stts p)) :
    ∃ kvs, m_stops_by [d, y.enc, .ref n] st = .ok (.ref (st.length + 1), st ++ .dT kvs :: .lst (refs (st.length + 2) p.length) :: gridS p (sumW p y)) := by
  rw [m_stops_by, funD, d_stops_by]
  obtain ⟨p1, p2, p3⟩ := okPage_parts hp
  have hit : itemsOf (st ++ [Ob.dT []]) (.ref n) = some (RR, [(n, RR)]) := by simp only [itemsOf, get_app hn]
  simp [hit]
  generalize q : forGo _ _ _ _ _ _ = r
  obtain ⟨e, s, rfl, kvs, a4, a5, rfl, rfl, hkl, hkv⟩ := for_at q (fun i env st' => ∃ kvs a4 a5, st' = st ++ [Ob.dT kvs] ∧ env = [some d, some y.enc, some (.ref n), some (.ref st.length), a4, a5, none, none, none, none] ∧ kvs.length ≤ 30 * i ∧ ∀ s ∈ (stts p).take i, ∀ k, s.b ≤ k → k < s.e → Told p y kvs k s.c)
    ⟨[], none, none, rfl, rfl, by simp, by simp⟩ (fun i env st' _ ⟨kvs, a4, a5, e1, e2, e3⟩ => by subst e1; exact still_one (get_app hn)) (fun i x env st' hi ⟨kvs, a4, a5, e1, e2, hl, hk⟩ => by
      obtain ⟨s, hs, kk, rfl, hkk⟩ := hR.get hi
      have so := stts_mem (List.mem_of_getElem? hs)
      have slt := so.lt
      have sle := so.le
      have sc4 := so.c4
      have sa : ∀ more, StAt p (st ++ more) kk s := fun more => stAt_app hkk
      have il : i < 150 := by have := (List.getElem?_eq_some_iff.mp hs).1; have := stts_le hp; omega
      subst e2
      have f2 := fld_begin (sa [Ob.dT kvs]) [some d, some y.enc, some (.ref n), some (.ref st.length), some (.ref kk), a5, none, none, none, none] 4 rfl
      have f3 := fld_end (sa [Ob.dT kvs]) [some d, some y.enc, some (.ref n), some (.ref st.length), some (.ref kk), a5, none, none, none, none] 4 rfl
      rw [← e1] at f2 f3
      have mb : (-1000000 ≤ (s.b : Int) ∧ (s.b : Int) ≤ 1000000) ∧ -1000000 ≤ (s.e : Int) ∧ (s.e : Int) ≤ 1000000 := by omega
      have en2 : ((s.e : Int) - (s.b : Int)).toNat = s.e - s.b := by omega
      have hle : s.e - s.b ≤ LIM := le_LIM (by omega)
      simp [f2, f3, -r_eFld, mb, en2, hle]
      generalize q : forGo _ _ _ _ _ _ = r
      obtain ⟨e, s', rfl, kvs', a5', rfl, rfl, hl', hk1, hk2⟩ := for_at q (fun j env st' => ∃ kvs a5, st' = st ++ [Ob.dT kvs] ∧ env = [some d, some y.enc, some (.ref n), some (.ref st.length), some (.ref kk), a5, none, none, none, none] ∧ kvs.length ≤ 30 * i + j ∧ (∀ s ∈ (stts p).take i, ∀ k, s.b ≤ k → k < s.e → Told p y kvs k s.c) ∧ ∀ k, s.b ≤ k → k < s.b + j → Told p y kvs k s.c)
        ⟨kvs, a5, e1, rfl, by omega, hk, fun k h1 h2 => by omega⟩ (fun _ _ _ _ _ => rfl) (fun j x env st' hj ⟨kvs, a5, e1, e2, hl, hk1, hk2⟩ => by
          obtain ⟨hj2, rfl⟩ := ints_getL hj
          subst e2
          have f4 := fld_column (sa [Ob.dT kvs]) [some d, some y.enc, some (.ref n), some (.ref st.length), some (.ref kk), some (.int ((s.b : Int) + (j : Int))), none, none, none, none] 4 rfl
          have w1 := width_ok hp so (sa [Ob.dT kvs]) y
          have hk' : (st ++ [Ob.dT kvs])[kk]? = some (.ins 12 (stFs s (cellsOf p s))) := sa [Ob.dT kvs]
          have ll : kvs.length < LIM := lt_LIM (by omega)
          have ww : wid y (cellsOf p s) = wAt p y (s.b + j) s.c := by
            unfold wAt
            rw [← covers_at (List.mem_of_getElem? hs) (k := s.b + j) (c := s.c) ⟨rfl, by omega, by omega⟩]
          have ds : dsetG (st ++ [Ob.dT kvs]) (.ref st.length) (.tup [.int ((s.b : Int) + (j : Int)), .int s.c]) (.int (wid y (cellsOf p s))) = some (st ++ [Ob.dT (putKD kvs (kkc (s.b + j) s.c) (.int (wAt p y (s.b + j) s.c)))]) := by
            have ek : kkc (s.b + j) s.c = [Sum.inl ((s.b : Int) + (j : Int)), Sum.inl (s.c : Int)] := by
              unfold kkc; rw [show ((s.b + j : Nat) : Int) = (s.b : Int) + (j : Int) by omega]
            rw [ek, ← ww]
            simp [dsetG, ll]
          rw [← e1] at f4 w1 hk' ds
          refine turn_eq (e := [some d, some y.enc, some (.ref n), some (.ref st.length), some (.ref kk), some (.int ((s.b : Int) + (j : Int))), none, none, none, none]) (s := st ++ [Ob.dT (putKD kvs (kkc (s.b + j) s.c) (.int (wAt p y (s.b + j) s.c)))]) (by
            simp [f4, -r_eFld, hk', st_width, w1, ds, gSb]) ⟨_, _, rfl, rfl, Nat.le_trans (putKD_len _ _ _) (by omega), fun s1 h1 k h2 h3 => told_put (.inl (hk1 s1 h1 k h2 h3)), fun k h1 h2 => told_put ?_⟩
          by_cases z : k = s.b + j
          · exact .inr ⟨z, rfl⟩
          · exact .inl (hk2 k h1 (by omega)))
      rw [intsD_len] at hl' hk2
      refine ⟨kvs', rfl, ⟨_, _, rfl⟩, by omega, fun s1 h1 k h2 h3 => ?_⟩
      rw [take_snoc hs, List.mem_append] at h1
      rcases h1 with h1 | h1
      · exact hk1 s1 h1 k h2 h3
      · obtain rfl : s1 = s := by simpa using h1
        exact hk2 k h2 (by omega))
  rw [hR.len, List.take_length] at hkv
  have told : ∀ k c, clo p c k = true → c < 5 → Told p y kvs k c := fun k c h hc => by
    obtain ⟨m, cv⟩ := sttAt_mem hc h
    have := hkv _ m k cv.2.1 cv.2.2
    rwa [cv.1] at this
  clear hkv hkl
  have hd1 : ∀ more, listOf (st ++ more) d = some (encP p, w) := fun more => listOf_stays (Stays.app _ _) hd
  simp [hd1]
  generalize q : forGo _ _ _ _ _ _ = r
  obtain ⟨e, s, rfl, a5, a7, a8, a9, rfl, rfl⟩ := for_at q (fun i env st' => ∃ a5 a7 a8 a9, st' = st ++ Ob.dT kvs :: .lst (refs (st.length + 2) i) :: (gridS p (sumW p y)).take i ∧ env = [some d, some y.enc, some (.ref n), some (.ref st.length), a4, a5, some (.ref (st.length + 1)), a7, a8, a9])
    ⟨_, _, _, _, by simp [refs], rfl⟩ (fun i env st' _ ⟨a5, a7, a8, a9, e1, e2⟩ => by subst e1; exact still_list (hd1 _)) (fun i x env st' hi ⟨a5, a7, a8, a9, e1, e2⟩ => by
      obtain ⟨z, hz, rfl⟩ := pairUp_at hi
      unfold encP at hz
      rw [List.getElem?_map] at hz
      cases er : p[i]? with
      | none => rw [er] at hz; cases hz
      | some r =>
        rw [er] at hz
        cases hz
        have hip := (List.getElem?_eq_some_iff.mp er).1
        have ci := cellsIn_row er
        have cl := cellsIn_le hp hip
        have el : st'.length = st.length + 2 + i := by rw [e1]; simp; omega
        have g0 : st'[st.length]? = some (.dT kvs) := by rw [e1]; simp
        have g1 : st'[st.length + 1]? = some (.lst (refs (st.length + 2) i)) := by rw [e1]; simp
        have m1 : -1000000 ≤ (r.length : Int) - 1 ∧ (r.length : Int) - 1 ≤ 1000000 := by omega
        have tn : ((r.length : Int) - 1).toNat = r.length - 1 := by omega
        subst e2
        simp [subG, m1, tn]
        generalize q : forGo _ _ _ _ _ _ = r'
        obtain ⟨e, s, rfl, a9', rfl, rfl⟩ := for_at q (fun j env st'' => ∃ a9, st'' = st' ++ [Ob.lst ((leftsN p y i (j + 1)).map .int)] ∧ env = [some d, some y.enc, some (.ref n), some (.ref st.length), a4, some (.int i), some (.ref (st.length + 1)), some (encR r), some (.ref st'.length), a9])
          ⟨_, rfl, rfl⟩ (fun _ _ _ _ _ => rfl) (fun j x env st'' hj ⟨a9, e1, e2⟩ => by
            obtain ⟨hj, rfl⟩ := ints_get hj
            have hcl : clo p j i = true := by rw [clo_cells hip, ci]; exact decide_eq_true (by omega)
            have tl := told i j hcl (by omega)
            have gA : (st' ++ [Ob.lst ((leftsN p y i (j + 1)).map D.int)])[st.length]? = some (.dT kvs) := get_app g0
            have gL : (st' ++ [Ob.lst ((leftsN p y i (j + 1)).map D.int)])[st'.length]? = some (.lst ((leftsN p y i (j + 1)).map .int)) := by simp
            have ixl : ixG (st' ++ [Ob.lst ((leftsN p y i (j + 1)).map D.int)]) (.ref st'.length) (.int (-1)) = .ok (.int (sumW p y i j), st' ++ [Ob.lst ((leftsN p y i (j + 1)).map D.int)]) := by
              have : atI ((leftsN p y i (j + 1)).map D.int) (-1) = some (.int (sumW p y i j)) := by
                rw [leftsN_succ, List.map_append]; exact atI_last _ _
              simp [ixG, lstOf, this]
            have dg : dgetG (st' ++ [Ob.lst ((leftsN p y i (j + 1)).map D.int)]) (.ref st.length) (.tup [.int i, .int j]) = .ok (.int (wAt p y i j), st' ++ [Ob.lst ((leftsN p y i (j + 1)).map D.int)]) := by
              have e3 : dvalG (st' ++ [Ob.lst ((leftsN p y i (j + 1)).map D.int)]) (.ref st.length) (.tup [.int i, .int j]) = some (some (.int (wAt p y i j))) := by
                simp only [dvalG, gA, keysOf_int, keysOf_nil, Option.map_some]
                exact congrArg some tl
              simp only [dgetG, e3]
            have tm : tyM (st' ++ [Ob.lst ((leftsN p y i (j + 1)).map D.int)]) (.ref st'.length) = some "list" := by simp only [tyM, gL]
            have ll : j + 1 < LIM := lt_LIM (by omega)
            have ap : appendG (st' ++ [Ob.lst ((leftsN p y i (j + 1)).map D.int)]) (.ref st'.length) [.int (sumW p y i j + wAt p y i j)] = .ok (.non, st' ++ [Ob.lst ((leftsN p y i (j + 2)).map D.int)]) := by
              rw [leftsN_succ p y i (j + 1)]
              simp [appendG, ll]
              rfl
            subst e2
            rw [← e1] at ixl dg tm ap
            exact turn_eq (e := [some d, some y.enc, some (.ref n), some (.ref st.length), a4, some (.int i), some (.ref (st.length + 1)), some (encR r), some (.ref st'.length), some (.int j)]) (s := st' ++ [Ob.lst ((leftsN p y i (j + 2)).map D.int)]) (by
              simp [ixl, dg, tm, ap, addG]) ⟨_, rfl, rfl⟩)
        rw [intsD_len]
        have h1 : r.length - 1 + 1 = cellsIn p i := by omega
        rw [h1]
        have gL : (st' ++ [Ob.lst ((leftsN p y i (cellsIn p i)).map D.int)])[st.length + 1]? = some (.lst (refs (st.length + 2) i)) := get_app g1
        have tm : tyM (st' ++ [Ob.lst ((leftsN p y i (cellsIn p i)).map D.int)]) (.ref (st.length + 1)) = some "list" := by simp only [tyM, gL]
        have ll : i < LIM := lt_LIM (by omega)
        have er' : rowI p (sumW p y) i = (leftsN p y i (cellsIn p i)).map D.int := rfl
        have ap : appendG (st' ++ [Ob.lst ((leftsN p y i (cellsIn p i)).map D.int)]) (.ref (st.length + 1)) [.ref st'.length] = .ok (.non, st ++ Ob.dT kvs :: .lst (refs (st.length + 2) (i + 1)) :: (gridS p (sumW p y)).take (i + 1)) := by
          simp only [appendG, gL, refs_len, ll, if_true]
          refine congrArg (fun l => R.ok (D.non, l)) ?_
          rw [refs_succ, ← el, take_snoc (gridS_at _ hip), er', e1]
          simp
        simp [tm, ap])
  rw [pairUp_len, encP_len]
  simp
  exact List.take_of_length_le (by simp)
end Dl
/-! ## B03c -/
/-! begins_by, stops, laid. -/
namespace Dl
open PySem L2
theorem stts_nodup (p : Page) : (stts p).Nodup := by
  unfold stts List.Nodup
  rw [List.pairwise_flatMap]
  refine ⟨fun c hc => ?_, ?_⟩
  · unfold sttsC
    rw [List.pairwise_map]
    have h0 : List.Pairwise (fun a b : Nat => a ≠ b) (begs p c p.length) := by
      unfold begs
      exact List.Pairwise.filter _ List.nodup_range
    exact h0.imp fun {a b} h z => h (congrArg Stt.b z)
  · have h0 : List.Pairwise (fun a b : Nat => a ≠ b) (List.range 5) := List.nodup_range
    refine h0.imp fun {a b} h x hx y hy z => ?_
    obtain ⟨b1, _, rfl⟩ := List.mem_map.mp hx
    obtain ⟨b2, _, rfl⟩ := List.mem_map.mp hy
    exact h (congrArg Stt.c z)
def cov (p : Page) (i k c : Nat) : Bool := ((stts p).take i).any fun s => decide (Covers s k c)
theorem cov_false {p : Page} {i : Nat} {s : Stt} (hs : (stts p)[i]? = some s) {k c : Nat} (hk : Covers s k c) : cov p i k c = false := by
  unfold cov
  rw [List.any_eq_false]
  intro s' h'
  simp only [decide_eq_true_eq]
  intro hc
  have e1 := covers_at (List.mem_of_mem_take h') hc
  have e2 := covers_at (List.mem_of_getElem? hs) hk
  rw [← e2] at e1
  subst e1
  obtain ⟨j, hj⟩ := List.mem_iff_getElem?.mp h'
  rw [List.getElem?_take] at hj
  split at hj
  · rename_i hlt
    obtain ⟨l1, g1⟩ := List.getElem?_eq_some_iff.mp hj
    obtain ⟨l2, g2⟩ := List.getElem?_eq_some_iff.mp hs
    have := List.pairwise_iff_getElem.mp (stts_nodup p) j i l1 l2 hlt
    exact this (g1.trans g2.symm)
  · cases hj
theorem cov_succ {p : Page} {i : Nat} {s : Stt} (hs : (stts p)[i]? = some s) (k c : Nat) : cov p (i + 1) k c = (cov p i k c || decide (Covers s k c)) := by
  unfold cov
  rw [take_snoc hs, List.any_append]
  simp
/-! ### a list of rows in the store -/
def upd2 (f : Nat → Nat → Int) (k c : Nat) (v : Int) : Nat → Nat → Int := fun k' c' => if k' = k ∧ c' = c then v else f k' c'
def layS (B : Store) (p : Page) (f : Nat → Nat → Int) : Store := B ++ .lst (refs (B.length + 1) p.length) :: gridS p f
section
variable {B : Store} {p : Page} {f : Nat → Nat → Int} {k c : Nat}
theorem lay_keep {o : Ob} {n : Nat} (h : B[n]? = some o) : (layS B p f)[n]? = some o := get_app h
theorem lay_found : (layS B p f)[B.length]? = some (.lst (refs (B.length + 1) p.length)) := by simp [layS]
theorem lay_row (hk : k < p.length) : (layS B p f)[B.length + 1 + k]? = some (.lst (rowI p f k)) := by
  unfold layS
  rw [List.getElem?_append_right (by omega), show B.length + 1 + k - B.length = k + 1 by omega, List.getElem?_cons_succ, gridS_at f hk]
theorem refs_get {n m : Nat} (h : k < m) : (refs n m)[k]? = some (.ref (n + k)) := by simp [refs, h]
theorem lay_ixF (hk : k < p.length) : ixG (layS B p f) (.ref B.length) (.int k) = .ok (.ref (B.length + 1 + k), layS B p f) := by
  have : lstOf (layS B p f) (.ref B.length) = some (refs (B.length + 1) p.length) := by simp only [lstOf, lay_found]
  simp only [ixG, this, atI_nat, refs_get hk]
  rfl
theorem lay_ixR (hk : k < p.length) (hc : c < cellsIn p k) : ixG (layS B p f) (.ref (B.length + 1 + k)) (.int c) = .ok (.int (f k c), layS B p f) := by
  have : lstOf (layS B p f) (.ref (B.length + 1 + k)) = some (rowI p f k) := by simp only [lstOf, lay_row hk]
  simp only [ixG, this, atI_nat, rowI_at f hc]
  rfl
theorem lay_set (hk : k < p.length) (hc : c < cellsIn p k) (v : Int) : setLG (layS B p f) (.ref (B.length + 1 + k)) (.int c) (.int v) = some (layS B p (upd2 f k c v)) := by
  have hx : ixN (rowI p f k).length (c : Int) = some c := by
    have h2 : (c : Int) < ((cellsIn p k : Nat) : Int) := by omega
    simp [ixN, hc]
  simp only [setLG, lay_row hk, hx]
  unfold layS upd2
  rw [List.set_append_right _ _ (by omega), show B.length + 1 + k - B.length = k + 1 by omega, List.set_cons_succ, gridS_set f hk hc]
end
theorem lay_congr {B : Store} {p : Page} {f g : Nat → Nat → Int} (h : ∀ k c, k < p.length → c < cellsIn p k → f k c = g k c) : layS B p f = layS B p g := by
  unfold layS; rw [gridS_congr h]
def m_begins_by : FV := funD 7 (d_begins_by m_stops_by m_Stretch_is_right m_Stretch_width)
theorem begins_by_ok {p : Page} (hp : okPage p = true) (y : Sty) {d : D} {w : List (Nat × List D)} {st : Store} (hd : listOf st d = some (encP p, w)) {n : Nat} {RR : List D} (hn : st[n]? = some (.lst RR)) (hR : All2 (IsSt p st) RR (stts p)) :
    ∃ kvs, m_begins_by [d, y.enc, .ref n] st = .ok (.ref (st.length + 1), layS (st ++ [.dT kvs]) p (bAt p y)) := by
  rw [m_begins_by, funD, d_begins_by]
  obtain ⟨p1, p2, p3⟩ := okPage_parts hp
  obtain ⟨kvs, sb⟩ := stops_by_ok hp y hd hn hR
  obtain ⟨B, hB⟩ : ∃ B, B = st ++ [Ob.dT kvs] := ⟨_, rfl⟩
  have Bl : B.length = st.length + 1 := by rw [hB]; simp
  have eS : st ++ Ob.dT kvs :: Ob.lst (refs (st.length + 2) p.length) :: gridS p (sumW p y) = layS B p (sumW p y) := by
    unfold layS
    rw [Bl, hB]; simp
  rw [eS, ← Bl] at sb
  refine ⟨kvs, ?_⟩
  rw [← hB, ← Bl]
  have hnB : B[n]? = some (.lst RR) := by rw [hB]; exact get_app hn
  have hit : ∀ f, itemsOf (layS B p f) (.ref n) = some (RR, [(n, RR)]) := fun f => by simp only [itemsOf, lay_keep hnB]
  have hRB : All2 (IsSt p B) RR (stts p) := hR.imp fun a b ⟨k, u, v⟩ => ⟨k, u, by rw [hB]; exact get_app v⟩
  clear hR hn hd
  simp [sb, hit]
  generalize q : forGo _ _ _ _ _ _ = r
  obtain ⟨e, s, rfl, f, a4, a5, a6, rfl, rfl, hf⟩ := for_at q (fun i env st' => ∃ f a4 a5 a6, st' = layS B p f ∧ env = [some d, some y.enc, some (.ref n), some (.ref B.length), a4, a5, a6] ∧ ∀ k c, f k c = if cov p i k c = true then bAt p y k c else sumW p y k c)
    ⟨_, _, _, _, rfl, rfl, fun k c => by simp [cov]⟩ (fun i env st' _ ⟨f, a4, a5, a6, e1, e2, e3⟩ => by subst e1; exact still_one (lay_keep hnB)) (fun i x env st' hi ⟨f, a4, a5, a6, e1, e2, hf⟩ => by
      obtain ⟨s, hs, kk, rfl, hkk⟩ := hRB.get hi
      have so := stts_mem (List.mem_of_getElem? hs)
      have slt := so.lt
      have sle := so.le
      have sc4 := so.c4
      have sa : ∀ f, StAt p (layS B p f) kk s := fun f => lay_keep hkk
      have hk' : ∀ f, (layS B p f)[kk]? = some (.ins 12 (stFs s (cellsOf p s))) := fun f => sa f
      have w2 := fun f => is_right_ok hp so (sa f)
      subst e1 e2
      cases hr : right (cellsOf p s) with
      | false =>
        rw [hr] at w2
        refine turn_eq (e := [some d, some y.enc, some (.ref n), some (.ref B.length), some (.ref kk), a5, a6]) (s := layS B p f) (by simp [hk', st_right, w2]) ⟨f, _, _, _, rfl, rfl, fun k c => ?_⟩
        rw [hf k c, cov_succ hs]
        by_cases hc : Covers s k c
        · have e0 : bAt p y k c = sumW p y k c := by
            unfold bAt rightAt
            rw [← covers_at (List.mem_of_getElem? hs) hc, hr]
            simp
          simp [e0]
        · simp [hc]
      | true =>
        rw [hr] at w2
        have f1 := fld_cells (sa f) [some d, some y.enc, some (.ref n), some (.ref B.length), some (.ref kk), a5, a6] 4 rfl
        have cl := cellsOf_len p s
        have m1 : (s.e - s.b : Nat) ≤ LIM := le_LIM (by omega)
        have m2 : -1000000 ≤ ((s.e - s.b : Nat) : Int) ∧ ((s.e - s.b : Nat) : Int) ≤ 1000000 := by omega
        simp [hk', st_right, w2, f1, -r_eFld, lenG, lstOf, cl, m1, m2]
        generalize q : forGo _ _ _ _ _ _ = r
        obtain ⟨e, s', rfl, f', a5', a6', rfl, rfl, hf'⟩ := for_at q (fun j env st' => ∃ f a5 a6, st' = layS B p f ∧ env = [some d, some y.enc, some (.ref n), some (.ref B.length), some (.ref kk), a5, a6] ∧ ∀ k c, f k c = if (cov p i k c || (decide (Covers s k c) && decide (k < s.b + j))) = true then bAt p y k c else sumW p y k c)
          ⟨f, _, _, rfl, rfl, fun k c => by
            rw [hf k c]
            have : (decide (Covers s k c) && decide (k < s.b + 0)) = false := by
              by_cases z : Covers s k c
              · have := z.2.1
                simp [z]; omega
              · simp [z]
            rw [this, Bool.or_false]⟩ (fun _ _ _ _ _ => rfl) (fun j x env st' hj ⟨f, a5, a6, e1, e2, hf⟩ => by
            obtain ⟨hj2, rfl⟩ := ints_get hj
            subst e1 e2
            have kp : s.b + j < p.length := by omega
            have hcl : clo p s.c (s.b + j) = true := so.clo _ (by omega) (by omega)
            have hcc : s.c + 1 < cellsIn p (s.b + j) := by
              rw [clo_cells kp] at hcl; exact of_decide_eq_true hcl
            have cv : Covers s (s.b + j) s.c := ⟨rfl, by omega, by omega⟩
            have sAt := covers_at (List.mem_of_getElem? hs) cv
            have fv : f (s.b + j) s.c = sumW p y (s.b + j) s.c := by
              rw [hf, cov_false hs cv]; simp
            have ww : wid y (cellsOf p s) = wAt p y (s.b + j) s.c := by unfold wAt; rw [← sAt]
            have bv : bAt p y (s.b + j) s.c = sumW p y (s.b + j) s.c + wid y (cellsOf p s) - y.g - ((cellAt p (s.b + j) s.c).length : Int) := by
              unfold bAt rightAt
              rw [hcl, ← sAt, hr, ww]
              rfl
            have env1 : ∀ z, eFld 12 "begin" (eV 4) [some d, some y.enc, some (.ref n), some (.ref B.length), some (.ref kk), some (.int j), z] (layS B p f) = .ok (.int s.b, layS B p f) := fun z => fld_begin (sa f) _ 4 rfl
            have env2 : ∀ z, eFld 12 "column" (eV 4) [some d, some y.enc, some (.ref n), some (.ref B.length), some (.ref kk), some (.int j), z] (layS B p f) = .ok (.int s.c, layS B p f) := fun z => fld_column (sa f) _ 4 rfl
            have env3 : ∀ z, eFld 12 "cells" (eV 4) [some d, some y.enc, some (.ref n), some (.ref B.length), some (.ref kk), some (.int j), z] (layS B p f) = .ok (.lst ((cellsOf p s).map .str), layS B p f) := fun z => fld_cells (sa f) _ 4 rfl
            have w1 := width_ok hp so (sa f) y
            have x1 := lay_ixF (B := B) (p := p) (f := f) kp
            rw [show ((s.b + j : Nat) : Int) = (s.b : Int) + (j : Int) by omega] at x1
            have x2 := lay_ixR (B := B) (p := p) (f := f) kp (show s.c < cellsIn p (s.b + j) by omega)
            rw [fv] at x2
            have x3 := lay_set (B := B) (p := p) (f := f) kp (show s.c < cellsIn p (s.b + j) by omega) (bAt p y (s.b + j) s.c)
            rw [bv] at x3
            have x4 : atI ((cellsOf p s).map D.str) (j : Int) = some (.str (cellAt p (s.b + j) s.c)) := by
              rw [atI_nat]
              have : j < s.e - s.b := by omega
              simp [cellsOf, this]
            refine turn_eq (e := [some d, some y.enc, some (.ref n), some (.ref B.length), some (.ref kk), some (.int j), some (.ref (B.length + 1 + (s.b + j)))]) (s := layS B p (upd2 f (s.b + j) s.c (sumW p y (s.b + j) s.c + wid y (cellsOf p s) - y.g - ((cellAt p (s.b + j) s.c).length : Int)))) (by
              simp [env1, env2, env3, -r_eFld, x1, x2, x3, x4, hk', st_width, w1, addG, subG, gSb]) ⟨_, _, _, rfl, rfl, fun k c => ?_⟩
            rw [← bv]
            unfold upd2
            by_cases z : k = s.b + j ∧ c = s.c
            · obtain ⟨rfl, rfl⟩ := z
              simp [cv]
            · rw [if_neg z, hf k c]
              have : (decide (Covers s k c) && decide (k < s.b + j)) = (decide (Covers s k c) && decide (k < s.b + (j + 1))) := by
                by_cases h : Covers s k c
                · have : k ≠ s.b + j := fun q => z ⟨q, h.1.symm⟩
                  simp only [h, decide_true, Bool.true_and]
                  refine decide_eq_decide.mpr ?_
                  omega
                · simp [h]
              rw [this])
        rw [intsD_len] at hf'
        refine ⟨f', rfl, ⟨_, _, _, rfl⟩, fun k c => ?_⟩
        rw [hf' k c, cov_succ hs]
        have : (decide (Covers s k c) && decide (k < s.b + (s.e - s.b))) = decide (Covers s k c) := by
          by_cases h : Covers s k c
          · have := h.2.2
            simp [h]; omega
          · simp [h]
        rw [this])
  rw [hRB.len] at hf
  simp
  refine lay_congr fun k c hk hc => ?_
  rw [hf k c]
  by_cases hcl : clo p c k = true
  · have h5 : c < 5 := by
      have := cellsIn_le hp hk
      rw [clo_cells hk] at hcl
      have := of_decide_eq_true hcl
      omega
    obtain ⟨m, cv⟩ := sttAt_mem h5 hcl
    have : cov p (stts p).length k c = true := by
      unfold cov
      rw [List.take_length, List.any_eq_true]
      exact ⟨_, m, decide_eq_true cv⟩
    rw [if_pos this]
  · have e0 : bAt p y k c = sumW p y k c := by
      unfold bAt rightAt
      simp [hcl]
    rw [e0]; simp
end Dl
/-! ## B03d -/
/-! Law k03: the law's own left ends and begins. -/
namespace Dl
open PySem L2
def m_law_ends : FV := funD 6 (d_law_ends m_law_wide)
theorem ends_ok {p : Page} (hp : okPage p = true) (y : Sty) {d : D} {w : List (Nat × List D)} {st : Store} (hd : listOf st d = some (encP p, w)) :
    m_law_ends [d, y.enc] st = .ok (.ref st.length, layS st p (sumW p y)) := by
  rw [m_law_ends, funD, d_law_ends]
  obtain ⟨p1, p2, p3⟩ := okPage_parts hp
  have hd1 : ∀ more, listOf (st ++ more) d = some (encP p, w) := fun more => listOf_stays (Stays.app _ _) hd
  have ln := fun more => len_list (hd1 more)
  have m1 : -1000000 ≤ (p.length : Int) ∧ (p.length : Int) ≤ 1000000 := by omega
  simp [ln, m1]
  generalize q : forGo _ _ _ _ _ _ = r
  obtain ⟨e, s, rfl, a3, a4, a5, rfl, rfl⟩ := for_at q (fun i env st' => ∃ a3 a4 a5, st' = st ++ .lst (refs (st.length + 1) i) :: (gridS p (sumW p y)).take i ∧ env = [some d, some y.enc, some (.ref st.length), a3, a4, a5])
    ⟨_, _, _, by simp [refs], rfl⟩ (fun _ _ _ _ _ => rfl) (fun i x env st' hi ⟨a3, a4, a5, e1, e2⟩ => by
      obtain ⟨hi2, rfl⟩ := ints_get hi
      have er : p[i]? = some p[i] := by simp [hi2]
      have ci := cellsIn_row er
      have cl := cellsIn_le hp hi2
      have el : st'.length = st.length + 1 + i := by rw [e1]; simp; omega
      have g1 : st'[st.length]? = some (.lst (refs (st.length + 1) i)) := by rw [e1]; simp
      have hdS : ∀ more, listOf (st' ++ more) d = some (encP p, w) := fun more => by rw [e1, List.append_assoc]; exact hd1 _
      have ix1 : ∀ more, ixG (st' ++ more) d (.int i) = .ok (encR p[i], st' ++ more) := fun more => by
        rw [ix_list (hdS more), atI_nat]; simp [encP, hi2]
      have m1 : -1000000 ≤ (p[i].length : Int) - 1 ∧ (p[i].length : Int) - 1 ≤ 1000000 := by omega
      have tn : ((p[i].length : Int) - 1).toNat = p[i].length - 1 := by omega
      subst e2
      simp [ix1, subG, m1, tn]
      generalize q : forGo _ _ _ _ _ _ = r'
      obtain ⟨e, s, rfl, a5', rfl, rfl⟩ := for_at q (fun j env st'' => ∃ a5, st'' = st' ++ [Ob.lst ((leftsN p y i (j + 1)).map .int)] ∧ env = [some d, some y.enc, some (.ref st.length), some (.int i), some (.ref st'.length), a5])
        ⟨_, rfl, rfl⟩ (fun _ _ _ _ _ => rfl) (fun j x env st'' hj ⟨a5, e1, e2⟩ => by
          obtain ⟨hj2, rfl⟩ := ints_get hj
          have hcl : clo p j i = true := by rw [clo_cells hi2, ci]; exact decide_eq_true (by omega)
          have lw := law_wide_ok hp (hdS [Ob.lst ((leftsN p y i (j + 1)).map D.int)]) y hcl
          rw [← cellsOf_at hcl] at lw
          have gL : (st' ++ [Ob.lst ((leftsN p y i (j + 1)).map D.int)])[st'.length]? = some (.lst ((leftsN p y i (j + 1)).map .int)) := by simp
          have ixl : ixG (st' ++ [Ob.lst ((leftsN p y i (j + 1)).map D.int)]) (.ref st'.length) (.int (-1)) = .ok (.int (sumW p y i j), st' ++ [Ob.lst ((leftsN p y i (j + 1)).map D.int)]) := by
            have : atI ((leftsN p y i (j + 1)).map D.int) (-1) = some (.int (sumW p y i j)) := by
              rw [leftsN_succ, List.map_append]; exact atI_last _ _
            simp [ixG, lstOf, this]
          have tm : tyM (st' ++ [Ob.lst ((leftsN p y i (j + 1)).map D.int)]) (.ref st'.length) = some "list" := by simp only [tyM, gL]
          have ll : j + 1 < LIM := lt_LIM (by omega)
          have ap : appendG (st' ++ [Ob.lst ((leftsN p y i (j + 1)).map D.int)]) (.ref st'.length) [.int (sumW p y i j + wid y (cellsOf p (sttAt p i j)))] = .ok (.non, st' ++ [Ob.lst ((leftsN p y i (j + 2)).map D.int)]) := by
            rw [leftsN_succ p y i (j + 1)]
            simp [appendG, ll]
            rfl
          subst e2
          rw [← e1] at ixl lw tm ap
          exact turn_eq (e := [some d, some y.enc, some (.ref st.length), some (.int i), some (.ref st'.length), some (.int j)]) (s := st' ++ [Ob.lst ((leftsN p y i (j + 2)).map D.int)]) (by
            simp [ixl, lw, tm, ap, addG]) ⟨_, rfl, rfl⟩)
      rw [intsD_len]
      have h1 : p[i].length - 1 + 1 = cellsIn p i := by omega
      rw [h1]
      have gL : (st' ++ [Ob.lst ((leftsN p y i (cellsIn p i)).map D.int)])[st.length]? = some (.lst (refs (st.length + 1) i)) := get_app g1
      have tm : tyM (st' ++ [Ob.lst ((leftsN p y i (cellsIn p i)).map D.int)]) (.ref st.length) = some "list" := by simp only [tyM, gL]
      have ll : i < LIM := lt_LIM (by omega)
      have er' : rowI p (sumW p y) i = (leftsN p y i (cellsIn p i)).map D.int := rfl
      have ap : appendG (st' ++ [Ob.lst ((leftsN p y i (cellsIn p i)).map D.int)]) (.ref st.length) [.ref st'.length] = .ok (.non, st ++ .lst (refs (st.length + 1) (i + 1)) :: (gridS p (sumW p y)).take (i + 1)) := by
        simp only [appendG, gL, refs_len, ll, if_true]
        refine congrArg (fun l => R.ok (D.non, l)) ?_
        rw [refs_succ, ← el, take_snoc (gridS_at _ hi2), er', e1]
        simp
      simp [tm, ap])
  rw [intsD_len]
  simp
  unfold layS
  rw [List.take_of_length_le (by simp)]
theorem list_of_ref {st : Store} {n : Nat} {ds : List D} (h : st[n]? = some (.lst ds)) : listG false st [.ref n] = .ok (.lst ds, st) := by
  have : lstOf st (.ref n) = some ds := by simp only [lstOf, h]
  simp [listG, this]
def m_law_begins : FV := funD 7 (d_law_begins m_law_ends m_law_turned)
theorem begins_ok {p : Page} (hp : okPage p = true) (y : Sty) {d : D} {w : List (Nat × List D)} {st : Store} (hd : listOf st d = some (encP p, w)) :
    m_law_begins [d, y.enc] st = .ok (.ref st.length, layS st p (bAt p y)) := by
  rw [m_law_begins, funD, d_law_begins]
  obtain ⟨p1, p2, p3⟩ := okPage_parts hp
  have en := ends_ok hp y hd
  have hdS : ∀ f, listOf (layS st p f) d = some (encP p, w) := fun f => listOf_stays (Stays.app _ _) hd
  have ln := fun f => len_list (hdS f)
  have m1 : -1000000 ≤ (p.length : Int) ∧ (p.length : Int) ≤ 1000000 := by omega
  simp [en, ln, m1]
  generalize q : forGo _ _ _ _ _ _ = r
  obtain ⟨e, s, rfl, f, a3, a4, a5, a6, rfl, rfl, hf⟩ := for_at q (fun i env st' => ∃ f a3 a4 a5 a6, st' = layS st p f ∧ env = [some d, some y.enc, some (.ref st.length), a3, a4, a5, a6] ∧ ∀ k c, c < cellsIn p k → f k c = if k < i then bAt p y k c else sumW p y k c)
    ⟨_, _, _, _, _, rfl, rfl, fun k c _ => by simp⟩ (fun _ _ _ _ _ => rfl) (fun i x env st' hi ⟨f, a3, a4, a5, a6, e1, e2, hf⟩ => by
      obtain ⟨hi2, rfl⟩ := ints_get hi
      have er : p[i]? = some p[i] := by simp [hi2]
      have ci := cellsIn_row er
      have cl := cellsIn_le hp hi2
      subst e1 e2
      have ix1 : ∀ f, ixG (layS st p f) d (.int i) = .ok (encR p[i], layS st p f) := fun f => by
        rw [ix_list (hdS f), atI_nat]; simp [encP, hi2]
      have ixF := fun f => lay_ixF (B := st) (p := p) (f := f) hi2
      have lr : listG false (layS st p f) [.ref (st.length + 1 + i)] = .ok (.lst (rowI p (sumW p y) i), layS st p f) := by
        have e : rowI p f i = rowI p (sumW p y) i := rowI_congr fun c hc => by
          have := hf i c hc
          rwa [if_neg (Nat.lt_irrefl _)] at this
        rw [list_of_ref (lay_row hi2), e]
      have m1 : -1000000 ≤ (p[i].length : Int) - 1 ∧ (p[i].length : Int) - 1 ≤ 1000000 := by omega
      have tn : ((p[i].length : Int) - 1).toNat = p[i].length - 1 := by omega
      simp [ixF, lr, ix1, subG, m1, tn]
      generalize q : forGo _ _ _ _ _ _ = r'
      obtain ⟨e, s, rfl, f', a5', a6', rfl, rfl, hf'⟩ := for_at q (fun j env st' => ∃ f a5 a6, st' = layS st p f ∧ env = [some d, some y.enc, some (.ref st.length), some (.int i), some (.lst (rowI p (sumW p y) i)), a5, a6] ∧ ∀ k c, c < cellsIn p k → f k c = if k < i ∨ (k = i ∧ c < j) then bAt p y k c else sumW p y k c)
        ⟨f, _, _, rfl, rfl, fun k c hc => by rw [hf k c hc]; simp⟩ (fun _ _ _ _ _ => rfl) (fun j x env st' hj ⟨f, a5, a6, e1, e2, hf⟩ => by
          obtain ⟨hj2, rfl⟩ := ints_get hj
          subst e1 e2
          have hcl : clo p j i = true := by rw [clo_cells hi2, ci]; exact decide_eq_true (by omega)
          have lt := law_turned_ok hp (hdS f) hcl
          rw [← cellsOf_at hcl] at lt
          cases hr : right (cellsOf p (sttAt p i j)) with
          | false =>
            rw [hr] at lt
            refine turn_eq (e := [some d, some y.enc, some (.ref st.length), some (.int i), some (.lst (rowI p (sumW p y) i)), some (.int j), a6]) (s := layS st p f) (by simp [lt]) ⟨f, _, _, rfl, rfl, fun k c hc => ?_⟩
            rw [hf k c hc]
            by_cases z : k = i ∧ c = j
            · obtain ⟨rfl, rfl⟩ := z
              have : bAt p y k c = sumW p y k c := by
                unfold bAt rightAt
                rw [hr]; simp
              rw [this]; simp
            · have : (k < i ∨ k = i ∧ c < j) ↔ (k < i ∨ k = i ∧ c < j + 1) := by omega
              simp only [this]
          | true =>
            rw [hr] at lt
            have bv : bAt p y i j = sumW p y i (j + 1) - y.g - ((cellAt p i j).length : Int) := by
              unfold bAt rightAt
              rw [hcl, hr]; rfl
            have x1 : atI (rowI p (sumW p y) i) ((j : Int) + 1) = some (.int (sumW p y i (j + 1))) := by
              have := atI_nat (rowI p (sumW p y) i) (j + 1)
              rw [rowI_at _ (by omega)] at this
              exact this
            obtain ⟨R, c1, c2⟩ := cell_ix (hdS f) hcl
            have x3 := lay_set (B := st) (p := p) (f := f) hi2 (show j < cellsIn p i by omega) (bAt p y i j)
            rw [bv] at x3
            refine turn_eq (e := [some d, some y.enc, some (.ref st.length), some (.int i), some (.lst (rowI p (sumW p y) i)), some (.int j), some (.int (sumW p y i (j + 1) - y.g))]) (s := layS st p (upd2 f i j (sumW p y i (j + 1) - y.g - ((cellAt p i j).length : Int)))) (by
              simp [lt, x1, addG, subG, c1, c2, ixF, x3, gSb]) ⟨_, _, _, rfl, rfl, fun k c hc => ?_⟩
            rw [← bv]
            unfold upd2
            by_cases z : k = i ∧ c = j
            · obtain ⟨rfl, rfl⟩ := z
              simp
            · rw [if_neg z, hf k c hc]
              have : (k < i ∨ k = i ∧ c < j) ↔ (k < i ∨ k = i ∧ c < j + 1) := by omega
              simp only [this])
      rw [intsD_len] at hf'
      refine ⟨f', rfl, ⟨_, _, _, _, rfl⟩, fun k c hc => ?_⟩
      rw [hf' k c hc]
      by_cases z : k < i
      · rw [if_pos (.inl z), if_pos (by omega)]
      · by_cases z2 : k = i
        · subst z2
          rw [if_pos (by omega : k < k + 1)]
          by_cases z3 : c < p[k].length - 1
          · rw [if_pos (.inr ⟨rfl, z3⟩)]
          · rw [if_neg (by omega)]
            unfold bAt rightAt
            rw [clo_cells hi2]
            rw [decide_eq_false (by omega)]
            simp
        · rw [if_neg (by omega), if_neg (by omega)])
  rw [intsD_len] at hf
  simp
  refine lay_congr fun k c hk hc => ?_
  rw [hf k c hc, if_pos hk]
end Dl
/-! ## B03e -/
/-! Law k03. -/
namespace Dl
open PySem L2
def m_stops : FV := funD 2 (d_stops m_need_page m_need_style m_stops_by m_all_stretches)
def m_laid : FV := funD 2 (d_laid m_need_page m_need_style m_begins_by m_all_stretches)
theorem stops_by_lay {p : Page} (hp : okPage p = true) (y : Sty) {d : D} {w : List (Nat × List D)} {st : Store} (hd : listOf st d = some (encP p, w)) {n : Nat} {RR : List D} (hn : st[n]? = some (.lst RR)) (hR : All2 (IsSt p st) RR (stts p)) :
    ∃ kvs, m_stops_by [d, y.enc, .ref n] st = .ok (.ref (st.length + 1), layS (st ++ [.dT kvs]) p (sumW p y)) := by
  obtain ⟨kvs, h⟩ := stops_by_ok hp y hd hn hR
  refine ⟨kvs, h.trans ?_⟩
  unfold layS
  simp
theorem stops_ok {p : Page} (hp : okPage p = true) {y : Sty} (hy : y.ok) {d : D} {w : List (Nat × List D)} {st : Store} (hd : listOf st d = some (encP p, w)) :
    ∃ M, m_stops [d, y.enc] st = .ok (.ref (st.length + M.length), layS (st ++ M) p (sumW p y)) := by
  rw [m_stops, funD, d_stops]
  obtain ⟨RR, more, ha, hR⟩ := all_stretches_ok hp hd
  have np := need_page_ok hd hp
  have ns := need_style_ok hy st
  have hd1 : listOf (st ++ .lst RR :: more) d = some (encP p, w) := listOf_stays (Stays.app _ _) hd
  obtain ⟨kvs, sb⟩ := stops_by_lay hp y hd1 (n := st.length) (RR := RR) (by simp) hR
  refine ⟨.lst RR :: more ++ [.dT kvs], ?_⟩
  simp [np, ns, ha, sb]
  omega
theorem laid_ok {p : Page} (hp : okPage p = true) {y : Sty} (hy : y.ok) {d : D} {w : List (Nat × List D)} {st : Store} (hd : listOf st d = some (encP p, w)) :
    ∃ M, m_laid [d, y.enc] st = .ok (.ref (st.length + M.length), layS (st ++ M) p (bAt p y)) := by
  rw [m_laid, funD, d_laid]
  obtain ⟨RR, more, ha, hR⟩ := all_stretches_ok hp hd
  have np := need_page_ok hd hp
  have ns := need_style_ok hy st
  have hd1 : listOf (st ++ .lst RR :: more) d = some (encP p, w) := listOf_stays (Stays.app _ _) hd
  obtain ⟨kvs, sb⟩ := begins_by_ok hp y hd1 (n := st.length) (RR := RR) (by simp) hR
  refine ⟨.lst RR :: more ++ [.dT kvs], ?_⟩
  simp [np, ns, ha, sb]
  omega
/-! ### rows that are read -/
def rowsD (p : Page) (f : Nat → Nat → Int) : List D := (List.range p.length).map fun k => .lst (rowI p f k)
theorem rds_mk {S : Store} : ∀ {ds xs : List D}, ds.length = xs.length → (∀ (i : Nat) (d x : D), ds[i]? = some d → xs[i]? = some x → Rd S d x) → Rds S ds xs
  | [], [], _, _ => by rw [Rds]; trivial
  | d :: ds, x :: xs, hl, h => by
    rw [Rds]
    exact ⟨h 0 d x rfl rfl, rds_mk (by simpa using hl) fun i a b e1 e2 => h (i + 1) a b (by simpa using e1) (by simpa using e2)⟩
  | [], _ :: _, hl, _ => by simp at hl
  | _ :: _, [], hl, _ => by simp at hl
theorem rowI_pks (p : Page) (f : Nat → Nat → Int) (k : Nat) : D.pks (rowI p f k) = true := pks_ints _
theorem rd_lay {B S : Store} {p : Page} {f : Nat → Nat → Int} (h : Stays (layS B p f) S) : Rd S (.ref B.length) (.lst (rowsD p f)) := by
  rw [Rd]
  refine ⟨refs (B.length + 1) p.length, [(B.length, refs (B.length + 1) p.length)], ?_, rds_mk (by simp [rowsD]) fun i d x e1 e2 => ?_⟩
  · simp only [listOf, h _ _ lay_found]
  · have hi : i < p.length := by have := (List.getElem?_eq_some_iff.mp e1).1; simpa using this
    rw [refs_get hi] at e1
    cases e1
    have e3 : (rowsD p f)[i]? = some (.lst (rowI p f i)) := by simp [rowsD, hi]
    rw [e3] at e2
    cases e2
    rw [Rd]
    exact ⟨rowI p f i, [(B.length + 1 + i, _)], by simp only [listOf, h _ _ (lay_row hi)]; rfl, rds_self (rowI_pks p f i)⟩
theorem rowsD_sm {p : Page} (hp : okPage p = true) (f : Nat → Nat → Int) : D.sm (.lst (rowsD p f)) = true := by
  obtain ⟨p1, p2, p3⟩ := okPage_parts hp
  rw [D.sm, decide_eq_true (by simp [rowsD]; omega), Bool.true_and]
  refine sms_of fun d hd => ?_
  obtain ⟨k, hk, rfl⟩ := List.mem_map.mp hd
  have := cellsIn_le hp (List.mem_range.mp hk)
  rw [D.sm, rowI_len, decide_eq_true (by omega), Bool.true_and]
  exact sms_ints _
theorem rowsD_dp (p : Page) (f : Nat → Nat → Int) : D.dp (.lst (rowsD p f)) ≤ 3 := by
  rw [dp_lst]
  have : D.dps (rowsD p f) ≤ 2 := dps_le.mpr fun d hd => by
    obtain ⟨k, _, rfl⟩ := List.mem_map.mp hd
    rw [dp_lst]
    have := dps_ints ((List.range (cellsIn p k)).map (f k))
    unfold rowI
    omega
  omega
/-! ### what was told is spoilt -/
theorem pre_set {A : Type} {S more : List A} {n : Nat} {o : A} (h : S.length ≤ n) : ∃ more', (S ++ more).set n o = S ++ more' := ⟨_, List.set_append_right n o h⟩
theorem pre_trans {a b c : Store} (h : ∃ m, b = a ++ m) (k : ∃ m, c = b ++ m) : ∃ m, c = a ++ m := by
  obtain ⟨m, rfl⟩ := h
  obtain ⟨n, rfl⟩ := k
  exact ⟨m ++ n, List.append_assoc _ _ _⟩
theorem lay_pre (st M : Store) (p : Page) (f : Nat → Nat → Int) : ∃ m, layS (st ++ M) p f = st ++ m := ⟨M ++ Ob.lst (refs ((st ++ M).length + 1) p.length) :: gridS p f, by unfold layS; rw [List.append_assoc]⟩
theorem spoil3 {st : Store} {n m : Nat} {l : List D} (hm : 1 ≤ m) (hm2 : m ≤ 30) (h1 : st[n]? = some (.lst (refs (n + 1) m))) (h2 : st[n + m]? = some (.lst l)) (hl : l.length ≤ 6) (env : Env) (he : env[9]? = some (some (.ref n))) :
    (sCons (sExpr (eMt "list" (appendG) (eOp ixG (eV 9) (eNeg (eC (.int 1)))) (aCons (eC (.int 0)) (aNil)))) (sExpr (eMt "list" (appendG) (eV 9) (aCons (eLst false (aNil)) (aNil))))) env st
      = .nx env ((st.set (n + m) (.lst (l ++ [.int 0]))).set n (.lst (refs (n + 1) m ++ [.lst []]))) := by
  have hlt := (List.getElem?_eq_some_iff.mp h2).1
  have l1 : l.length < LIM := lt_LIM (by omega)
  have l2 : m < LIM := lt_LIM (by omega)
  have x1 : ixG st (.ref n) (.int (-1)) = .ok (.ref (n + m), st) := by
    have e : lstOf st (.ref n) = some (refs (n + 1) m) := by simp only [lstOf, h1]
    have e2 : atI (refs (n + 1) m) (-1) = some (.ref (n + m)) := by
      obtain ⟨k, rfl⟩ : ∃ k, m = k + 1 := ⟨m - 1, by omega⟩
      rw [refs_succ, atI_last]
      congr 2; omega
    simp only [ixG, e, e2]
    rfl
  have h3 : (st.set (n + m) (.lst (l ++ [.int 0])))[n]? = some (.lst (refs (n + 1) m)) := by
    rw [List.getElem?_set_ne (by omega)]; exact h1
  have t1 : tyM st (.ref (n + m)) = some "list" := by simp only [tyM, h2]
  have t2 : tyM (st.set (n + m) (.lst (l ++ [.int 0]))) (.ref n) = some "list" := by simp only [tyM, h3]
  have a1 : appendG st (.ref (n + m)) [.int 0] = .ok (.non, st.set (n + m) (.lst (l ++ [.int 0]))) := by simp only [appendG, h2, l1, if_true]
  have a2 : appendG (st.set (n + m) (.lst (l ++ [.int 0]))) (.ref n) [.lst []] = .ok (.non, (st.set (n + m) (.lst (l ++ [.int 0]))).set n (.lst (refs (n + 1) m ++ [.lst []]))) := by simp only [appendG, h3, refs_len, l2, if_true]
  simp [he, x1, t1, a1, t2, a2]
theorem spoil_pair {S1 st : Store} {a b m : Nat} {l1 l2 : List D} (hst : ∃ more, st = S1 ++ more) (ha : S1.length ≤ a) (hab : a + m < b) (hm : 1 ≤ m) (hm2 : m ≤ 30) (h1 : st[a]? = some (.lst (refs (a + 1) m))) (h2 : st[a + m]? = some (.lst l1)) (h3 : st[b]? = some (.lst (refs (b + 1) m))) (h4 : st[b + m]? = some (.lst l2)) (k1 : l1.length ≤ 6) (k2 : l2.length ≤ 6) (pre : Env) (hp : pre.length = 9) (z : Option D) :
    ∃ z' more', forGo [] (gN 9) (sCons (sExpr (eMt "list" (appendG) (eOp ixG (eV 9) (eNeg (eC (.int 1)))) (aCons (eC (.int 0)) (aNil)))) (sExpr (eMt "list" (appendG) (eV 9) (aCons (eLst false (aNil)) (aNil))))) [.ref a, .ref b] (pre ++ [z]) st = .nx (pre ++ [z']) (S1 ++ more') := by
  have g9 : ∀ z z' : Option D, (pre ++ [z]).set 9 z' = pre ++ [z'] := fun z z' => by
    rw [List.set_append_right _ _ (by omega), hp]; rfl
  have i9 : ∀ z : Option D, (pre ++ [z])[9]? = some z := fun z => by
    rw [List.getElem?_append_right (by omega), hp]; rfl
  obtain ⟨more, rfl⟩ := hst
  have s1 := spoil3 hm hm2 h1 h2 k1 (pre ++ [some (.ref a)]) (i9 _)
  have e1 : ∃ m', ((S1 ++ more).set (a + m) (.lst (l1 ++ [.int 0]))).set a (.lst (refs (a + 1) m ++ [.lst []])) = S1 ++ m' := by
    obtain ⟨m1, q1⟩ := pre_set (S := S1) (more := more) (n := a + m) (o := Ob.lst (l1 ++ [.int 0])) (by omega)
    rw [q1]; exact pre_set ha
  have n1 : ∀ (k : Nat) (o : Ob), k ≠ a → k ≠ a + m → (S1 ++ more)[k]? = some o → (((S1 ++ more).set (a + m) (.lst (l1 ++ [.int 0]))).set a (.lst (refs (a + 1) m ++ [.lst []])))[k]? = some o := fun k o x1 x2 x3 => by
    rw [List.getElem?_set_ne (Ne.symm x1), List.getElem?_set_ne (Ne.symm x2)]; exact x3
  have h3' := n1 _ _ (by omega) (by omega) h3
  have h4' := n1 _ _ (by omega) (by omega) h4
  obtain ⟨m1, e1⟩ := e1
  rw [e1] at s1 h3' h4'
  have s2 := spoil3 hm hm2 h3' h4' k2 (pre ++ [some (.ref b)]) (i9 _)
  have e2 : ∃ m', ((S1 ++ m1).set (b + m) (.lst (l2 ++ [.int 0]))).set b (.lst (refs (b + 1) m ++ [.lst []])) = S1 ++ m' := by
    obtain ⟨m2, q1⟩ := pre_set (S := S1) (more := m1) (n := b + m) (o := Ob.lst (l2 ++ [.int 0])) (by omega)
    rw [q1]; exact pre_set (by omega)
  obtain ⟨m2, e2⟩ := e2
  rw [e2] at s2
  refine ⟨some (.ref b), m2, ?_⟩
  unfold forGo
  simp only [still_nil, if_true, r_gN, sOf_ok, g9, s1]
  unfold forGo
  simp only [still_nil, if_true, r_gN, sOf_ok, g9, s2]
  unfold forGo
  simp only [still_nil, if_true]
def m_law_k03 : FV := funD 10 (d_law_k03 m_law_begun m_law_page m_law_take m_law_style m_law_begins m_law_ends m_laid m_stops m_law_alike)
theorem law_k03_true (ns : List Int) (_ : ns.length ≤ 63) : ∃ st, m_law_k03 [.scr ns] [] = .ok (.bl true, st) := by
  rw [m_law_k03, funD, d_law_k03]
  obtain ⟨b, hb⟩ := begun_ok ns
  simp [hb]
  generalize q : forGo _ _ _ _ _ _ = r
  obtain ⟨e, s, rfl, b', rest, rfl, e', rfl, he'⟩ := for_at q (fun i env st' => ∃ b rest, st' = Bx b rest ∧ ∃ e', env = [some (.scr ns), some (.ref 1)] ++ e' ∧ e'.length = 8) ⟨b, [], rfl, _, rfl, rfl⟩ (fun _ _ _ _ _ => rfl) (fun i x env st' hi ⟨b, rest, e1, e', e2, e3⟩ => by
    subst e1 e2
    obtain ⟨a2, e', rfl⟩ : ∃ a l, e' = a :: l := by
      cases e' with
      | nil => simp at e3
      | cons a l => exact ⟨a, l, rfl⟩
    obtain ⟨a3, a4, a5, a6, a7, a8, a9, rfl⟩ := len7 (by simpa using e3)
    obtain ⟨y0, ey, my⟩ := atI_mem (l := [D.int 6, D.int 30]) (i := (tk b 2).1) (tk_lo b (by decide)) (tk_hi b (by decide))
    have hy : ∃ n : Int, y0 = .int n ∧ 1 ≤ n ∧ n ≤ 30 := by
      simp at my
      rcases my with rfl | rfl <;> exact ⟨_, rfl, by decide, by decide⟩
    obtain ⟨n, rfl, n0, n9⟩ := hy
    obtain ⟨p, b2, hp, _, ep⟩ := page_ok (tk b 2).2 rest n n0 n9
    obtain ⟨y, b3, hy, es⟩ := style_ok b2 (rest ++ [.lst (encP p)])
    obtain ⟨p1, p2, p3⟩ := okPage_parts hp
    obtain ⟨S0, hS0⟩ : ∃ S0, S0 = Bx b3 (rest ++ [.lst (encP p)]) := ⟨_, rfl⟩
    have g0 : S0[rest.length + 2]? = some (.lst (encP p)) := by rw [hS0]; simp
    have lp : ∀ more, listOf (S0 ++ more) (.ref (rest.length + 2)) = some (encP p, [(rest.length + 2, encP p)]) := fun more => by simp only [listOf, get_app g0]
    have du1 := ends_ok hp y (by have := lp []; rwa [List.append_nil] at this)
    have du2 := begins_ok hp y (st := layS S0 p (sumW p y)) (lp _)
    obtain ⟨S1, hS1⟩ : ∃ S1, S1 = layS (layS S0 p (sumW p y)) p (bAt p y) := ⟨_, rfl⟩
    rw [← hS1] at du2
    have S1x : ∃ more, S1 = S0 ++ more := ⟨_, by rw [hS1]; unfold layS; rw [List.append_assoc]⟩
    have g1 : S1[rest.length + 2]? = some (.lst (encP p)) := by
      obtain ⟨m, e⟩ := S1x
      rw [e]; exact get_app g0
    have lo2 : lstOf S1 (.ref (rest.length + 2)) = some (encP p) := by simp only [lstOf, g1]
    rw [← hS0] at es
    simp [take_eq, ey, ep, es, du1, du2, listG, lo2]
    generalize q : forGo _ _ _ _ _ _ = r
    obtain ⟨e, s, rfl, more, rfl, e', rfl, h3⟩ := for_at q (fun i env st' => ∃ more, st' = S1 ++ more ∧ ∃ e', env = [some (.scr ns), some (.ref 1), some x, some (.ref (rest.length + 2)), some y.enc, some (.lst [.ref S0.length, .ref (layS S0 p (sumW p y)).length]), some (.lst (encP p))] ++ e' ∧ e'.length = 3) ⟨[], by simp, _, rfl, rfl⟩ (fun _ _ _ _ _ => rfl) (fun j z env st' hj ⟨more, e1, e', e2, e3⟩ => by
      obtain ⟨a7, a8, a9, rfl⟩ : ∃ a b c, e' = [a, b, c] := by
        match e', e3 with
        | [a, b, c], _ => exact ⟨a, b, c, rfl⟩
      obtain ⟨M1, so⟩ := stops_ok (st := st') hp hy (d := .lst (encP p)) (w := []) rfl
      obtain ⟨S2, hS2⟩ : ∃ S2, S2 = layS (st' ++ M1) p (sumW p y) := ⟨_, rfl⟩
      rw [← hS2] at so
      obtain ⟨M2, la⟩ := laid_ok (st := S2) hp hy (d := .lst (encP p)) (w := []) rfl
      obtain ⟨S3, hS3⟩ : ∃ S3, S3 = layS (S2 ++ M2) p (bAt p y) := ⟨_, rfl⟩
      rw [← hS3] at la
      have n1 : (st' ++ M1).length = st'.length + M1.length := by simp
      have n2 : (S2 ++ M2).length = S2.length + M2.length := by simp
      have s12 : Stays S1 st' := by rw [e1]; exact Stays.app _ _
      have s23 : Stays st' S2 := by rw [hS2]; unfold layS; rw [List.append_assoc]; exact Stays.app _ _
      have s34 : Stays S2 S3 := by rw [hS3]; unfold layS; rw [List.append_assoc]; exact Stays.app _ _
      have sS3 : Stays S1 S3 := (s12.trans s23).trans s34
      have r1 : Rd S3 (.ref (st'.length + M1.length)) (.lst (rowsD p (sumW p y))) := by
        rw [← n1]; exact rd_lay (by rw [← hS2]; exact s34)
      have r2 : Rd S3 (.ref (S2.length + M2.length)) (.lst (rowsD p (bAt p y))) := by
        rw [← n2]; exact rd_lay (by rw [← hS3]; exact Stays.refl _)
      have r3 : Rd S3 (.ref S0.length) (.lst (rowsD p (sumW p y))) := rd_lay (Stays.trans (by rw [hS1]; conv => rhs; unfold layS
                                                                                              exact Stays.app _ _) sS3)
      have r4 : Rd S3 (.ref (layS S0 p (sumW p y)).length) (.lst (rowsD p (bAt p y))) := rd_lay (by rw [← hS1]; exact sS3)
      have al : m_law_alike [.lst [.ref (st'.length + M1.length), .ref (S2.length + M2.length)], .lst [.ref S0.length, .ref (layS S0 p (sumW p y)).length]] S3 = .ok (.bl true, S3) := by
        refine alike_rd 8 (.lst [.lst (rowsD p (sumW p y)), .lst (rowsD p (bAt p y))]) _ _ ?_ ?_ ?_ ?_
        · rw [Rd]
          refine ⟨_, [], rfl, ?_⟩
          simp only [Rds, r1, r2, and_self]
        · rw [Rd]
          refine ⟨_, [], rfl, ?_⟩
          simp only [Rds, r3, r4, and_self]
        · simp [D.sm, D.sms]
          have q1 := rowsD_sm hp (sumW p y)
          have q2 := rowsD_sm hp (bAt p y)
          simp only [D.sm, Bool.and_eq_true, decide_eq_true_eq] at q1 q2
          exact ⟨q1, q2⟩
        · have := rowsD_dp p (sumW p y)
          have := rowsD_dp p (bAt p y)
          rw [dp_lst, dps_cons, dps_cons, dps_nil]
          omega
      have g3 := sS3 _ _ g1
      have ee : eqG true S3 (.lst (encP p)) (.ref (rest.length + 2)) = .ok (.bl false, S3) := by
        rw [eqG_refR g3, eqG_pl (by simp) (by simp) (by have := dps_encP p; simp; omega) (by have := dps_encP p; simp; omega)]
        simp
      subst e2
      have l2S : S2.length = st'.length + M1.length + 1 + p.length := by rw [hS2]; simp [layS]; omega
      have lS1 : S1.length ≤ st'.length := by rw [e1]; simp
      have pre1 : ∃ m, S2 = st' ++ m := by rw [hS2]; exact lay_pre st' M1 p _
      have pre2 : ∃ m, S3 = S2 ++ m := by rw [hS3]; exact lay_pre S2 M2 p _
      have pre3 : ∃ m, S3 = S1 ++ m := pre_trans ⟨more, e1⟩ (pre_trans pre1 pre2)
      have f1 : S3[st'.length + M1.length]? = some (.lst (refs (st'.length + M1.length + 1) p.length)) := s34 _ _ (by rw [hS2, ← n1]; exact lay_found)
      have f2 : S3[st'.length + M1.length + p.length]? = some (.lst (rowI p (sumW p y) (p.length - 1))) := s34 _ _ (by
        have := lay_row (B := st' ++ M1) (p := p) (f := sumW p y) (k := p.length - 1) (by omega)
        rw [← hS2, n1, show st'.length + M1.length + 1 + (p.length - 1) = st'.length + M1.length + p.length by omega] at this
        exact this)
      have f3 : S3[S2.length + M2.length]? = some (.lst (refs (S2.length + M2.length + 1) p.length)) := by rw [hS3, ← n2]; exact lay_found
      have f4 : S3[S2.length + M2.length + p.length]? = some (.lst (rowI p (bAt p y) (p.length - 1))) := by
        have := lay_row (B := S2 ++ M2) (p := p) (f := bAt p y) (k := p.length - 1) (by omega)
        rw [← hS3, n2, show S2.length + M2.length + 1 + (p.length - 1) = S2.length + M2.length + p.length by omega] at this
        exact this
      have rl : ∀ f, (rowI p f (p.length - 1)).length ≤ 6 := fun f => by rw [rowI_len]; exact (cellsIn_le hp (by omega)).2
      obtain ⟨z', m', sp⟩ := spoil_pair pre3 (by omega) (by omega) p1 p2 f1 f2 f3 f4 (rl _) (rl _) [some (.scr ns), some (.ref 1), some x, some (.ref (rest.length + 2)), some y.enc, some (.lst [.ref S0.length, .ref (layS S0 p (sumW p y)).length]), some (.lst (encP p)), some z, some (.lst [.ref (st'.length + M1.length), .ref (S2.length + M2.length)])] rfl a9
      simp only [List.cons_append, List.nil_append] at sp
      refine turn_eq (e := [some (.scr ns), some (.ref 1), some x, some (.ref (rest.length + 2)), some y.enc, some (.lst [.ref S0.length, .ref (layS S0 p (sumW p y)).length]), some (.lst (encP p)), some z, some (.lst [.ref (st'.length + M1.length), .ref (S2.length + M2.length)]), z']) (s := S1 ++ m') (by
        simp [so, la, al, ee, itemsOf, sp]) ⟨_, rfl, _, rfl, rfl⟩)
    obtain ⟨c7, c8, c9, rfl⟩ : ∃ a b c, e' = [a, b, c] := by
      match e', h3 with
      | [a, b, c], _ => exact ⟨a, b, c, rfl⟩
    obtain ⟨m0, e0⟩ := S1x
    exact ⟨⟨_, _, by rw [e0, hS0]; rfl⟩, _, rfl, rfl⟩)
  simp
end Dl
/-! ## DlZip -/
/-! zip of a tuple and a list. -/
namespace Dl
open PySem PySem.Spec PyProof.Rows L2
/-- a tuple and a list, as they stand at each turn, in new pairs -/
def ItM (K : PySem.W.Frag) (a b : Addr) : It where
  go i H := ∃ xs ys : List V, ∃ x y : V, (SqT K H a xs ∧ SqL K H b ys) ∧ xs[i]? = some x ∧ ys[i]? = some y
  yld i H v H' := ∃ T : Addr, ∃ x y : V, (v = .ref T ∧ H T = none ∧ H' = upd H T (.tup [x, y])) ∧ (∀ xs, SqT K H a xs → xs[i]? = some x) ∧ (∀ ys, SqL K H b ys → ys[i]? = some y)
  stop i H := ∃ xs ys : List V, (SqT K H a xs ∧ SqL K H b ys) ∧ (xs.length ≤ i ∨ ys.length ≤ i)
section
variable {prog : Program} {w : World} {A : Around}
/-- a tuple's walk that is at its end -/
theorem overT (hh : A.handled = none) (it t : Addr) (zs : Array Value) (i : Nat) (h : zs.size ≤ i) (P : Nat → Value → Prop) : Draws prog w A it [it, t] i P (fun j hp => (hp.IsTupleIter it t j ∧ hp.IsTuple t zs) ∧ i ≤ j) where
  live _ _ q := by obtain ⟨⟨⟨o, e, _⟩, _⟩, _⟩ := q; exact ⟨o, e⟩
  frame _ _ _ q k := ⟨⟨q.1.1.at (k it (by simp)), q.1.2.at (k t (by simp))⟩, q.2⟩
  item j _ _ _ hj q _ := absurd q.2 (Nat.not_le.mpr hj)
  done _ _ _ q hE := wpAny_nextOf_tuple_end hh q.1.1 q.1.2 (Array.getElem?_eq_none h) hE
/-- a list's walk that is at its end -/
theorem overL (hh : A.handled = none) (it t : Addr) (zs : Array Value) (i : Nat) (h : zs.size ≤ i) (P : Nat → Value → Prop) : Draws prog w A it [it, t] i P (fun j hp => (hp.IsListIter it t j ∧ hp.IsList t zs) ∧ i ≤ j) where
  live _ _ q := by obtain ⟨⟨⟨o, e, _⟩, _⟩, _⟩ := q; exact ⟨o, e⟩
  frame _ _ _ q k := ⟨⟨q.1.1.at (k it (by simp)), q.1.2.at (k t (by simp))⟩, q.2⟩
  item j _ _ _ hj q _ := absurd q.2 (Nat.not_le.mpr hj)
  done _ _ _ q hE := wpAny_nextOf_list_end hh q.1.1 q.1.2 (Array.getElem?_eq_none h) hE
end
theorem nin {x a b : Addr} (h : x ≠ a) (k : x ≠ b) : x ∉ [a, b] := by simp [h, k]
theorem sepM {z TI TO i1 i2 a b : Addr} (D : ZipApart z TI TO i1 i2 a b) : ZipSep2 z TI TO i1 i2 [i1, a] [i2, b] :=
  ⟨D.TIz, D.TOz, D.TITO, D.TIi1, List.mem_cons_self, nin D.i1z.symm D.l1z.symm, nin D.TOi1 D.l1TO.symm, D.TIi2, List.mem_cons_self, nin D.i2z.symm D.l2z.symm, nin D.TOi2 D.l2TO.symm, nin D.i12 D.l2i1.symm, nin D.i12.symm D.l1i2.symm⟩
theorem turn_M {P : Program} {w : World} {K : PySem.W.Frag} {es : List Expr} {n : Nat} {tp : Pos} {a b z TI TO i1 i2 : Addr} (D : ZipApart z TI TO i1 i2 a b) :
    Turn P w K (.Tuple es n tp) (ItM K a b) [z, TI, TO, i1, i2] z (fun i hp => (IsZip hp z TI TO .none ∧ IsPair hp TI (.ref i1) (.ref i2) ∧ ∃ x y, IsPair hp TO x y) ∧ hp.IsTupleIter i1 a i ∧ hp.IsListIter i2 b i) where
  mem := List.mem_cons_self
  obj i hp st c hc := by
    obtain ⟨⟨k1, k2, x, y, k3⟩, ⟨o1, e1, _, d1⟩, o2, e2, _, d2⟩ := st
    simp only [List.mem_cons, List.not_mem_nil, or_false] at hc
    rcases hc with rfl | rfl | rfl | rfl | rfl
    · exact ⟨_, k1, fun _ u => nomatch u⟩
    · exact ⟨_, k2, fun _ u => nomatch u⟩
    · exact ⟨_, k3, fun _ u => nomatch u⟩
    · refine ⟨o1, e1, fun v u => ?_⟩
      rw [d1] at u; cases u
    · refine ⟨o2, e2, fun v u => ?_⟩
      rw [d2] at u; cases u
  keep i hp hp' st k := by
    obtain ⟨⟨k1, k2, x, y, k3⟩, k4, k5⟩ := st
    exact ⟨⟨k z (by simp) _ k1, k TI (by simp) _ k2, x, y, k TO (by simp) _ k3⟩, k4.at (k i1 (by simp)), k5.at (k i2 (by simp))⟩
  item X e1 e2 e3 hcalm i pins s sg H E I fp st gg := by
    subst e1 e2 e3
    obtain ⟨⟨k1, k2, x0, y0, k3⟩, k4, k5⟩ := st
    obtain ⟨xs, ys, x, y, ⟨sx, sy⟩, hx, hy⟩ := gg
    obtain ⟨ts, rt, pt, _⟩ := I.tuple sx
    obtain ⟨ls, rl, pl, _⟩ := I.list sy
    obtain ⟨u, hu, ru⟩ := rt.get hx
    obtain ⟨v, hv, rv⟩ := rl.get hy
    have in1 : i < ts.toArray.size := by simpa using (List.getElem?_eq_some_iff.mp hu).1
    have in2 : i < ls.toArray.size := by simpa using (List.getElem?_eq_some_iff.mp hv).1
    have zs : z < s.heap.objs.size := Heap.lt_size k1
    have hh : X.A.in1.handled = none := I.ok.hd hcalm
    refine wpAny_pyNext_zipD2_item (sepM D) (Draws.tuple (A := X.A.in1) hh i1 a D.l1i1 ts.toArray) (Draws.list (A := X.A.in1) hh i2 b D.l2i2 ls.toArray) k1 k2 k3 ⟨k4, pt⟩ ⟨k5, pl.isList⟩ in1 in2 fun u' v' hp' tk q1 q2 z1 TO1 t1 t2 nT nsz old => ?_
    have hu' : u' = u := by
      have : ts[i]? = some u' := by simpa using q1
      rw [hu] at this; exact (Option.some.inj this).symm
    have hv' : v' = v := by
      have : ls[i]? = some v' := by simpa using q2
      rw [hv] at this; exact (Option.some.inj this).symm
    subst hu' hv'
    refine ⟨_, rfl, wpAny_letOwnedTupleGo_zip (s := { s with heap := hp', toks := tk }) z1 fun hp'' z2 sb => ?_⟩
    have zne : s.heap.objs.size ≠ z := Nat.ne_of_gt zs
    have at'' : hp''.get? s.heap.objs.size = some { cls := .type "tuple", data := .seq #[u', v'] } := (sb.2 _ zne).trans nT
    have two : (2 : Nat) ≤ sizeLine := by decide
    have ok : ObjOk X.prog X.w (upd H s.heap.objs.size (.tup [x, y])) hp'' s.heap.objs.size (.tup [x, y]) := ⟨two, [u', v'], .cons ru (.cons rv .nil), _, at'', rfl, _, rfl⟩
    have J := I.turnedNew (t' := tk) (ch := [z, TI, TO, i1, i2]) (h' := hp'') (fun c o nc e => by
      simp only [List.mem_cons, List.not_mem_nil, or_false, not_or] at nc
      exact (sb.2 c nc.1).trans (old c o nc.1 nc.2.2.1 nc.2.2.2.1 nc.2.2.2.2 e)) fp (Nat.le_refl _) ok
    have up : ∀ (c : Addr) (o : Obj), c ≠ z → hp'.get? c = some o → hp''.get? c = some o := fun c o nc e => (sb.2 c nc).trans e
    refine ⟨.ref s.heap.objs.size, _, J, rfl, ⟨_, x, y, ⟨rfl, I.hok.fresh (Nat.le_refl _), rfl⟩, fun l hl => ?_, fun l hl => ?_⟩, ⟨⟨z2, up _ _ D.TIz (old _ _ D.TIz D.TITO D.TIi1 D.TIi2 k2), u', v', up _ _ D.TOz TO1⟩, t1.1.at fun o e => up _ o D.i1z e, t2.1.at fun o e => up _ o D.i2z e⟩, fun c hc => ?_⟩
    · rw [I.tuple_inj hl sx]; exact hx
    · rw [I.list_inj hl sy]; exact hy
    · have below : c < s.heap.objs.size := by
        simp only [List.mem_cons, List.not_mem_nil, or_false] at hc
        rcases hc with rfl | rfl | rfl | rfl | rfl
        · exact zs
        · exact Heap.lt_size k2
        · exact Heap.lt_size k3
        · obtain ⟨_, e, _⟩ := k4; exact Heap.lt_size e
        · obtain ⟨_, e, _⟩ := k5; exact Heap.lt_size e
      rw [upd_ne (Nat.ne_of_lt below)]
      exact (fp c hc).1
  done X e1 e2 e3 hcalm i pins s sg H E I fp st gg := by
    subst e1 e2 e3
    obtain ⟨⟨k1, k2, x0, y0, k3⟩, k4, k5⟩ := st
    obtain ⟨xs, ys, ⟨sx, sy⟩, hend⟩ := gg
    obtain ⟨ts, rt, pt, _⟩ := I.tuple sx
    obtain ⟨ls, rl, pl, _⟩ := I.list sy
    have n1 := rt.length
    have n2 := rl.length
    have hh : X.A.in1.handled = none := I.ok.hd hcalm
    have fin : ∀ (hp' : Heap) (tk : Nat), (∀ c o, c ≠ z → c ≠ TO → c ≠ i1 → c ≠ i2 → s.heap.get? c = some o → hp'.get? c = some o) → (none : Option Value) = none ∧ Inv X pins sg H { s with heap := hp', toks := tk } := fun hp' tk old =>
      ⟨rfl, I.turnedL (t' := tk) (ch := [z, TI, TO, i1, i2]) (fun c o nc e => by
        simp only [List.mem_cons, List.not_mem_nil, or_false, not_or] at nc
        exact old c o nc.1 nc.2.2.1 nc.2.2.2.1 nc.2.2.2.2 e) fp⟩
    by_cases c1 : xs.length ≤ i
    · have D1 := overT (prog := X.prog) (w := X.w) (A := X.A.in1) hh i1 a ts.toArray i (by simp; omega) fun _ _ => True
      by_cases c2 : ys.length ≤ i
      · exact wpAny_pyNext_zipD2_end (sepM D) D1 (overL (A := X.A.in1) hh i2 b ls.toArray i (by simp; omega) fun _ _ => True) k1 k2 k3 ⟨⟨k4, pt⟩, Nat.le_refl _⟩ ⟨⟨k5, pl.isList⟩, Nat.le_refl _⟩ (Nat.le_refl _) (Nat.le_refl _) (.inl rfl) fin
      · exact wpAny_pyNext_zipD2_end (sepM D) D1 (Draws.list (A := X.A.in1) hh i2 b D.l2i2 ls.toArray) k1 k2 k3 ⟨⟨k4, pt⟩, Nat.le_refl _⟩ ⟨k5, pl.isList⟩ (Nat.le_refl _) (by simp; omega) (.inl rfl) fin
    · have c2 : ys.length ≤ i := hend.resolve_left c1
      exact wpAny_pyNext_zipD2_end (sepM D) (Draws.tuple (A := X.A.in1) hh i1 a D.l1i1 ts.toArray) (overL (A := X.A.in1) hh i2 b ls.toArray i (by simp; omega) fun _ _ => True) k1 k2 k3 ⟨k4, pt⟩ ⟨⟨k5, pl.isList⟩, Nat.le_refl _⟩ (by simp; omega) (Nat.le_refl _) (.inr rfl) fin
  self A i s Q E st h := wpAny_pyIter_zip st.1.1 h
def iZpT (K : PySem.W.Frag) (t : TA) : TI := fun sg H Rr => t sg H fun vs H1 => ∃ a b : Addr, ∃ xs ys : List V, vs = [.ref a, .ref b] ∧ (SqT K H1 a xs ∧ SqL K H1 b ys) ∧ Rr (ItM K a b) H1
theorem pi_zipM {X : Cx} {e e2 : Expr} {t : TA} {p pos tpos : Pos} {es : List Expr} {n : Nat} (hg : Gl X "zip") (hm : X.mg "zip" = none) (ha : PA X [e, e2] t)
    (hs : starEach [e, e2] X.env = (false, eval e X.env) :: starEach [e2] X.env := by rfl) (hpl : (backTo pos (starEach [e2] X.env)).any (·.1) = false := by rfl) :
    PI X (.Tuple es n tpos) (.Call (.Name "zip" p) [e, e2] [] pos) (iZpT X.K t) := by
  constructor
  intro pins s sg H Rr I h
  refine Call_ (ld_blt I hg hm PyProof.Rows.boot_zip (PyProof.Rows.callWith_type1 (thn (ha.run pos pins s sg H _ I h) fun us s1 hus => ?_) hs hpl))
  obtain ⟨vs, H1, I1, r1, a, b, xs, ys, rfl, ⟨sx, sy⟩, q⟩ := hus
  match r1 with
  | .cons ra (.cons rb .nil) =>
    cases ra
    cases rb
    obtain ⟨ts, rt, pt, _⟩ := I1.tuple sx
    obtain ⟨ls, rl, pl, _⟩ := I1.list sy
    have ba : a < s1.heap.objs.size := by obtain ⟨_, e, _⟩ := id pt; exact Heap.lt_size e
    refine zip_begins2 (begins_tuple a ts.toArray) (begins_list b ls.toArray) pt pl.isList fun hp' z1 T1 O1 o1 o2 sz old => wpAny_pyIter_zip z1 ?_
    have I2 : Inv X pins sg H1 { s1 with heap := hp' } := I1.kept (t' := s1.toks) old
    refine ⟨_, _, _, _, H1, rfl, I2, turn_M (PySem.W.ktu_apart s1.heap.objs.size a b ba pl.lt), ⟨⟨z1, T1, _, _, O1⟩, ⟨_, o1, rfl, rfl⟩, _, o2, rfl, rfl⟩, fun c hc => ?_, q⟩
    have ge : s1.heap.objs.size ≤ c := by
      simp only [List.mem_cons, List.not_mem_nil, or_false] at hc
      rcases hc with rfl | rfl | rfl | rfl | rfl <;> omega
    exact I1.fpOk ge (I1.hok.fresh ge)
section
variable {W : Wd} {X : Cx} {E : XK}
theorem drv_zipM {K : PySem.W.Frag} {F0 : Hp} {r0 : List Addr} {a b : Addr} {us : List V} {ds : List D} {w' : Wk} (h : F0 a = some (.tup us)) (hk : Reps F0 r0 us ds)
    (h' : ∀ Rs F H r st, Same F0 F → Ext r0 r → Holds W Rs F H r st → still w'.2 st = true → ∃ vs, H b = some (.lst vs) ∧ Reps F r vs w'.1) : Drv W F0 r0 (ItM K a b) (zipUp ds w'.1, w'.2) := fun i Rs F H r st s x hH hst => by
  have k1 := hk.mono s x
  have h1 : SqT K H a us := .of (hH.sF _ _ (s _ _ h))
  obtain ⟨ws, h2, k2⟩ := h' Rs F H r st s x hH hst
  refine ⟨fun d e => ?_, fun hl => ⟨us, ws, ⟨h1, .of h2⟩, ?_⟩⟩
  · obtain ⟨d1, d2, e1, e2, rfl⟩ := zipUp_at e
    obtain ⟨v1, f1, m1⟩ := k1.get e1
    obtain ⟨v2, f2, m2⟩ := k2.get e2
    refine ⟨⟨us, ws, v1, v2, ⟨h1, .of h2⟩, f1, f2⟩, fun y H' yl => ?_⟩
    obtain ⟨T, z1, z2, ⟨rfl, hT, rfl⟩, yl1, yl2⟩ := yl
    have q1 := yl1 us h1
    have q2 := yl2 ws (.of h2)
    rw [f1] at q1; cases q1
    rw [f2] at q2; cases q2
    obtain ⟨s1, h3⟩ := hH.frozen (o := .tup [v1, v2]) hT
    exact ⟨_, s1, h3, .tup upd_same (.cons (m1.mono s1 (Ext.refl _)) (.cons (m2.mono s1 (Ext.refl _)) .nil))⟩
  · rw [zipUp_len] at hl
    rw [k1.length, k2.length]
    omega
/-- zip of a tuple and a list -/
def iZm (g : AV) : IV := fun env st => (g env st).bind fun a => match a.1 with
  | [.tup ds, e] => match listOf a.2 e with
    | some w' => .ok ((zipUp ds w'.1, w'.2), a.2)
    | none => .bad
  | _ => .bad
theorem di_zipM {e e2 : Expr} {g : AV} {p pos tpos : Pos} {elts : List Expr} {kk : Nat} (hg : Gl X "zip") (hm : X.mg "zip" = none) (ha : DA W X E [e, e2] g)
    (hs : starEach [e, e2] X.env = (false, eval e X.env) :: starEach [e2] X.env := by rfl) (hpl : (backTo pos (starEach [e2] X.env)).any (·.1) = false := by rfl) :
    DI W X E (.Tuple elts kk tpos) (.Call (.Name "zip" p) [e, e2] [] pos) (iZm g) := by
  obtain ⟨t, pa, q⟩ := ha.ex
  refine ⟨_, pi_zipM hg hm pa hs hpl, fun Rs F H r sg env st Q hH hE hP => ?_⟩
  refine q Rs F H r sg env st _ hH hE (bindX hP fun a ea z F1 H1 r1 vs s1 x1 h1 k1 => ?_)
  obtain ⟨ds, st1⟩ := a
  simp only at z
  split at z
  · split at z
    · rename_i us e w' e2
      match k1 with
      | .cons k (.cons k' .nil) =>
        obtain ⟨b, rfl, ⟨ws, h3, k3⟩, hh'⟩ := listOf_ok h1 k' e2
        cases k with
        | tup f kk => exact ⟨_, b, _, ws, rfl, ⟨.of (h1.sF _ _ f), .of h3⟩, z _ F1 H1 r1 s1 x1 h1 (drv_zipM f kk hh')⟩
    · exact z.elim
  · exact z.elim
end
end Dl
/-! ## DlTxt -/
/-! More of texts: ljust. -/
namespace Dl
open PySem L2
def ljustL (s : List Nat) (i : Int) : List Nat := s ++ List.replicate (i.toNat - s.length) 32
def ljustG : GM := fun st o ds => match o, ds with
  | .str s, [.int i] => if -1000000 ≤ i ∧ i ≤ 1000000 then .ok (.str (ljustL s i), st) else .bad
  | _, _ => .bad
theorem ljust_mk (s : List Nat) (i : Int) : Txt.ljust ⟨s.toArray⟩ i = ⟨(ljustL s i).toArray⟩ := by
  have hl : (⟨s.toArray⟩ : Str).length = s.length := by simp [Str.length]
  unfold Txt.ljust ljustL
  rw [hl]
  by_cases h : i ≤ s.length
  · rw [if_pos h, show i.toNat - s.length = 0 by omega]
    simp
  · rw [if_neg h]
    unfold Builtin.Str.padded
    congr 1
    apply Array.ext'
    simp
section
variable {W : Wd} {X : Cx} {E : XK}
theorem dm_ljust : DM W X "str.ljust" ljustG := ⟨_, mt_ljust, fun Rs F H rr st v d vs ds Q E h ko k hP => by
  unfold ljustG at hP
  split at hP
  · rename_i s i
    match k with
    | .cons k .nil =>
      cases k
      split at hP
      · rename_i hi
        cases ko with
        | str s hs hsl =>
          have ok : PadOk i = true := by
            unfold PadOk fitsSsize Builtin.Str.tooLong
            have h1 : ¬ i < -(2 ^ 63 : Int) := by omega
            have h2 : ¬ i ≥ (2 ^ 63 : Int) := by omega
            have h3 : ¬ i.toNat > sizeLine := by rw [sizeLine_eq]; omega
            simp [h1, h2, h3]
            omega
          refine ⟨_, i, rfl, rfl, ok, ?_⟩
          rw [ljust_mk]
          refine onE_here h (.str _ ?_ ?_) hP
          · unfold ljustL
            rw [List.all_append, hs, Bool.true_and, List.all_eq_true]
            intro c hc
            rw [(List.mem_replicate.mp hc).2]; decide
          · unfold ljustL LIM at *
            rw [List.length_append, List.length_replicate]
            omega
      · exact hP.elim
  · exact hP.elim⟩
end
end Dl
/-! ## D4 -/
/-! The meanings of some defs (printed by pick.py). -/
namespace Dl
open PySem L2
/-- line_of: 5 slots, 2 parameters -/
def d_line_of : SV := sCons (sAsg (eC (.str [])) (gN 2)) (sCons (sFor (iZm (aCons (eV 0) (aCons (eV 1) (aNil)))) (gTp 2 (gsCons (gN 3) (gsCons (gN 4) (gsNil)))) (sIf (tv (eOp (eqG true) (eV 3) (eC (.str [])))) (sAsg (eOp (addG false) (eMt "str" (ljustG) (eV 2) (aCons (eV 4) (aNil))) (eV 3)) (gN 2)) (sNext))) (sRet (eV 2)))
/-- shown: 5 slots, 2 parameters -/
def d_shown (m_laid : FV) (m_line_of : FV) : SV := sCons (sAsg (eCall 2 m_laid (aCons (eV 0) (aCons (eV 1) (aNil)))) (gN 2)) (sRet (eLc true (iZp (aCons (eV 0) (aCons (eV 2) (aNil)))) [3, 4] (.two 3 4) (tYesD) (eCall 2 m_line_of (aCons (eV 3) (aCons (eV 4) (aNil))))))
/-- law_lines: 8 slots, 2 parameters -/
def d_law_lines (m_law_begins : FV) : SV := sCons (sAsg (eLst true (aNil)) (gN 2)) (sCons (sAsg (eCall 2 m_law_begins (aCons (eV 0) (aCons (eV 1) (aNil)))) (gN 3)) (sCons (sFor (iR1 (aCons (eB lenG (aCons (eV 0) (aNil))) (aNil))) (gN 4) (sCons (sAsg (eC (.str [])) (gN 5)) (sCons (sFor (iZm (aCons (eOp ixG (eV 0) (eV 4)) (aCons (eOp ixG (eV 3) (eV 4)) (aNil)))) (gTp 2 (gsCons (gN 6) (gsCons (gN 7) (gsNil)))) (sCons (whileGo (tAndD (tv (eOp (eqG true) (eV 6) (eC (.str [])))) (tv (eOp ltG (eB lenG (aCons (eV 5) (aNil))) (eV 7)))) (sAsg (eOp (addG false) (eV 5) (eC (.str [32]))) (gN 5)) 100000) (sAsg (eOp (addG false) (eV 5) (eV 6)) (gN 5)))) (sExpr (eMt "list" (appendG) (eV 2) (aCons (eV 5) (aNil))))))) (sRet (eV 2))))
/-- law_k04: 9 slots, 1 parameters -/
def d_law_k04 (m_law_begun : FV) (m_law_page : FV) (m_law_take : FV) (m_law_style : FV) (m_law_lines : FV) (m_shown : FV) (m_law_alike : FV) : SV := sCons (sAsg (eCall 1 m_law_begun (aCons (eV 0) (aNil))) (gN 1)) (sCons (sFor (iR1 (aCons (eC (.int 3)) (aNil))) (gN 2) (sCons (sPar 3 4 (aCons (eCall 2 m_law_page (aCons (eV 1) (aCons (eOp ixG (eLst false (aCons (eC (.int 6)) (aCons (eC (.int 30)) (aNil)))) (eCall 2 m_law_take (aCons (eV 1) (aCons (eC (.int 2)) (aNil))))) (aNil)))) (aCons (eCall 1 m_law_style (aCons (eV 1) (aNil))) (aNil)))) (sCons (sAsg (eCall 2 m_law_lines (aCons (eV 3) (aCons (eV 4) (aNil)))) (gN 5)) (sCons (sAsg (eB (listG false) (aCons (eV 3) (aNil))) (gN 6)) (sFor (iR1 (aCons (eC (.int 2)) (aNil))) (gN 7) (sCons (sAsg (eCall 2 m_shown (aCons (eV 6) (aCons (eV 4) (aNil)))) (gN 8)) (sCons (sIf (tOrD (tNotD (tv (eCall 2 m_law_alike (aCons (eV 8) (aCons (eV 5) (aNil)))))) (tv (eOp (eqG true) (eV 6) (eV 3)))) (sRet (eC (.bl false))) (sNext)) (sExpr (eMt "list" (appendG) (eV 8) (aCons (eC (.str [])) (aNil))))))))))) (sRet (eC (.bl true))))
end Dl
/-! ## B05 -/
/-! Lines as they are shown. -/
namespace Dl
open PySem L2
@[simp] theorem r_iZm (g : AV) (env : Env) (st : Store) : iZm g env st = (g env st).bind fun a => match a.1 with
  | [.tup ds, e] => match listOf a.2 e with
    | some w' => .ok ((zipUp ds w'.1, w'.2), a.2)
    | none => .bad
  | _ => .bad := (rfl)
/-! ### how far begins can lie -/
theorem most_le {ss : List (List Nat)} (h0 : ss ≠ []) (h : ∀ s ∈ ss, s.length ≤ 10) : 0 ≤ most ss ∧ most ss ≤ 10 := by
  have ne : ss.map (fun s => (s.length : Int)) ≠ [] := by simpa using h0
  obtain ⟨h1, _⟩ := maxL_mem ne
  unfold most
  obtain ⟨s, hs, e⟩ := List.mem_map.mp h1
  have := h s hs
  rw [← e]
  omega
theorem wAt_b {p : Page} (hp : okPage p = true) {y : Sty} (hy : y.ok) {k c : Nat} (hk : k < p.length) (hc : c + 1 < cellsIn p k) : 0 ≤ wAt p y k c ∧ wAt p y k c ≤ 14 := by
  have hcl : clo p c k = true := by rw [clo_cells hk]; exact decide_eq_true hc
  have := (cellsIn_le hp hk).2
  obtain ⟨m, cv⟩ := sttAt_mem (by omega : c < 5) hcl
  obtain ⟨c1, c2, c3⟩ := cells_fit hp (stts_mem m)
  have b := most_le c2 fun s hs => (okCell_parts (c3 s hs)).1
  obtain ⟨⟨h1, h2⟩, h3, h4⟩ := hy
  unfold wAt wid
  omega
theorem sumW_b {p : Page} (hp : okPage p = true) {y : Sty} (hy : y.ok) {k : Nat} (hk : k < p.length) : ∀ c, c < cellsIn p k → 0 ≤ sumW p y k c ∧ sumW p y k c ≤ 14 * (c : Int)
  | 0, _ => by simp [sumW]
  | c + 1, h => by
    have h1 := sumW_b hp hy hk c (by omega)
    have h2 := wAt_b hp hy hk h
    simp only [sumW]
    omega
theorem cellAt_len {p : Page} (hp : okPage p = true) {k c : Nat} (hk : k < p.length) (hc : c < cellsIn p k) : (cellAt p k c).length ≤ 10 := by
  obtain ⟨p1, p2, p3⟩ := okPage_parts hp
  have hr : p[k]? = some p[k] := by simp [hk]
  rw [cellsIn_row hr] at hc
  obtain ⟨r1, r2, r3⟩ := okRow_parts (p3 _ (List.mem_of_getElem? hr))
  have e : cellAt p k c = p[k][c] := by simp [cellAt, hk, hc]
  rw [e]
  exact (okCell_parts (r3 _ (by simp))).1
theorem bAt_b {p : Page} (hp : okPage p = true) {y : Sty} (hy : y.ok) {k c : Nat} (hk : k < p.length) (hc : c < cellsIn p k) : -100 ≤ bAt p y k c ∧ bAt p y k c ≤ 100 := by
  have h6 := (cellsIn_le hp hk).2
  have h1 := sumW_b hp hy hk c hc
  have hl := cellAt_len hp hk hc
  have ⟨⟨g1, g2⟩, _⟩ := hy
  unfold bAt
  by_cases hr : rightAt p k c = true
  · rw [if_pos hr]
    have hcl : clo p c k = true := by
      unfold rightAt at hr
      simp only [Bool.and_eq_true] at hr
      exact hr.1
    rw [clo_cells hk] at hcl
    have h2 := wAt_b hp hy hk (of_decide_eq_true hcl)
    simp only [sumW]
    omega
  · rw [if_neg hr]
    omega
/-! ### lines -/
def lineN (p : Page) (f : Nat → Nat → Int) (k : Nat) : Nat → List Nat
  | 0 => []
  | n + 1 => if cellAt p k n = [] then lineN p f k n else ljustL (lineN p f k n) (f k n) ++ cellAt p k n
def lineR (p : Page) (f : Nat → Nat → Int) (k : Nat) : List Nat := lineN p f k (cellsIn p k)
theorem ljustL_len (s : List Nat) (i : Int) : (ljustL s i).length = max s.length i.toNat := by
  unfold ljustL
  rw [List.length_append, List.length_replicate]
  omega
theorem lineN_len {p : Page} (hp : okPage p = true) {f : Nat → Nat → Int} {k : Nat} (hk : k < p.length) (hf : ∀ c, c < cellsIn p k → -100 ≤ f k c ∧ f k c ≤ 100) : ∀ n, n ≤ cellsIn p k → (lineN p f k n).length ≤ 100 + 10 * n
  | 0, _ => by simp [lineN]
  | n + 1, h => by
    have ih := lineN_len hp hk hf n (by omega)
    have hl := cellAt_len hp hk (show n < cellsIn p k by omega)
    have := hf n (by omega)
    unfold lineN
    split
    · omega
    · rw [List.length_append, ljustL_len]
      omega
theorem zip_row {p : Page} {f : Nat → Nat → Int} {k : Nat} {r : Row} (hr : p[k]? = some r) {c : Nat} {x : D} (h : (zipUp (r.map .str) (rowI p f k))[c]? = some x) : c < cellsIn p k ∧ x = .tup [.str (cellAt p k c), .int (f k c)] := by
  obtain ⟨a, b, e1, e2, rfl⟩ := zipUp_at h
  have ci := cellsIn_row hr
  rw [List.getElem?_map] at e1
  have hc : c < r.length := by
    cases q : r[c]? with
    | none => rw [q] at e1; cases e1
    | some s => exact (List.getElem?_eq_some_iff.mp q).1
  have ec : cellAt p k c = r[c] := by simp [cellAt, hr, hc]
  have e3 : r[c]? = some r[c] := by simp [hc]
  rw [e3] at e1
  cases e1
  rw [rowI_at f (by omega)] at e2
  cases e2
  rw [ec]
  exact ⟨by omega, rfl⟩
theorem zip_row_len {p : Page} {f : Nat → Nat → Int} {k : Nat} {r : Row} (hr : p[k]? = some r) : (zipUp (r.map .str) (rowI p f k)).length = cellsIn p k := by
  rw [zipUp_len, List.length_map, rowI_len, cellsIn_row hr, Nat.min_self]
def m_line_of : FV := funD 5 d_line_of
theorem line_of_ok {p : Page} (hp : okPage p = true) {f : Nat → Nat → Int} {k : Nat} {r : Row} (hr : p[k]? = some r) (hf : ∀ c, c < cellsIn p k → -100 ≤ f k c ∧ f k c ≤ 100) {e : D} {w : List (Nat × List D)} {st : Store} (he : listOf st e = some (rowI p f k, w)) :
    m_line_of [encR r, e] st = .ok (.str (lineR p f k), st) := by
  rw [m_line_of, funD, d_line_of]
  have hk := (List.getElem?_eq_some_iff.mp hr).1
  have hc6 := (cellsIn_le hp hk).2
  simp [encR, he]
  generalize q : forGo _ _ _ _ _ _ = r'
  obtain ⟨e', s, rfl, rfl, a3, a4, rfl⟩ := for_at q (fun i env st' => st' = st ∧ ∃ a3 a4, env = [some (.tup (r.map .str)), some e, some (.str (lineN p f k i)), a3, a4]) ⟨rfl, _, _, rfl⟩ (fun i env st' _ hI => by rw [hI.1]; exact still_list he) (fun c x env st' hi ⟨e1, a3, a4, e2⟩ => by
    subst e1 e2
    obtain ⟨hc, rfl⟩ := zip_row hr hi
    have ll := lineN_len hp hk hf c (by omega)
    have hl := cellAt_len hp hk hc
    have hfc := hf c hc
    have b1 : -1000000 ≤ f k c := by omega
    have b2 : f k c ≤ 1000000 := by omega
    have jl := ljustL_len (lineN p f k c) (f k c)
    have l3 : (ljustL (lineN p f k c) (f k c)).length + (cellAt p k c).length ≤ LIM := le_LIM (by omega)
    by_cases z : cellAt p k c = []
    · simp [z, lineN]
    · simp [z, lineN, tyM, ljustG, b1, b2, addG, l3])
  rw [zip_row_len hr]
  simp [lineR]
def m_shown : FV := funD 5 (d_shown m_laid m_line_of)
def linesD (p : Page) (f : Nat → Nat → Int) : List D := (List.range p.length).map fun k => .str (lineR p f k)
theorem linesD_at {p : Page} {f : Nat → Nat → Int} {k : Nat} (h : k < p.length) : (linesD p f)[k]? = some (.str (lineR p f k)) := by simp [linesD, h]
theorem shown_ok {p : Page} (hp : okPage p = true) {y : Sty} (hy : y.ok) {d : D} {w : List (Nat × List D)} {st : Store} (hd : listOf st d = some (encP p, w)) :
    ∃ M, m_shown [d, y.enc] st = .ok (.ref (st.length + M.length), st ++ M ++ [.lst (linesD p (bAt p y))]) := by
  rw [m_shown, funD, d_shown]
  obtain ⟨M, la⟩ := laid_ok hp hy hd
  obtain ⟨p1, p2, p3⟩ := okPage_parts hp
  obtain ⟨S, hS⟩ : ∃ S, S = layS (st ++ M) p (bAt p y) := ⟨_, rfl⟩
  have hB : (st ++ M).length = st.length + M.length := by simp
  rw [← hS] at la
  have hdS : listOf S d = some (encP p, w) := by
    obtain ⟨m, e⟩ := lay_pre st M p (bAt p y)
    rw [hS, e]; exact listOf_stays (Stays.app _ _) hd
  have gF : S[st.length + M.length]? = some (.lst (refs (st.length + M.length + 1) p.length)) := by rw [hS, ← hB]; exact lay_found
  have hF : listOf S (.ref (st.length + M.length)) = some (refs (st.length + M.length + 1) p.length, [(st.length + M.length, refs (st.length + M.length + 1) p.length)]) := by simp only [listOf, gF]
  have zl : (zipUp (encP p) (refs (st.length + M.length + 1) p.length)).length = p.length := by
    rw [zipUp_len, encP_len, refs_len, Nat.min_self]
  have zl2 : p.length ≤ LIM := le_LIM (by omega)
  have ex : ∃ m, S = st ++ M ++ m := by
    rw [hS]; exact ⟨_, rfl⟩
  refine ⟨S.drop st.length, ?_⟩
  have eS : st ++ S.drop st.length = S := by
    obtain ⟨m, e⟩ := ex
    rw [e, List.append_assoc, List.drop_left]
  rw [eS]
  have lS : st.length + (S.drop st.length).length = S.length := by
    conv => rhs; rw [← eS]
    rw [List.length_append]
  rw [lS]
  simp [la, hdS, hF, zl, zl2]
  generalize q : lcGo _ _ _ _ _ _ _ _ = r'
  obtain ⟨acc, s, rfl, rfl, rfl⟩ := lc_at q (fun i acc st' => S = st' ∧ acc = (linesD p (bAt p y)).take i) ⟨rfl, rfl⟩ (fun i acc st' _ hI => by
    rw [← hI.1]
    unfold still
    rw [List.all_append, Bool.and_eq_true]
    exact ⟨still_list hdS, still_list hF⟩) (fun i x acc st' hi ⟨e1, e2⟩ => by
    subst e1 e2
    obtain ⟨a, b, e1, e2, rfl⟩ := zipUp_at hi
    unfold encP at e1
    rw [List.getElem?_map] at e1
    cases er : p[i]? with
    | none => rw [er] at e1; cases e1
    | some r =>
      rw [er] at e1
      cases e1
      have hip := (List.getElem?_eq_some_iff.mp er).1
      rw [refs_get hip] at e2
      cases e2
      have gR : S[st.length + M.length + 1 + i]? = some (.lst (rowI p (bAt p y) i)) := by rw [hS, ← hB]; exact lay_row hip
      have lo := line_of_ok hp er (f := bAt p y) (fun c hc => bAt_b hp hy hip hc) (e := .ref (st.length + M.length + 1 + i)) (w := [(st.length + M.length + 1 + i, rowI p (bAt p y) i)]) (st := S) (by simp only [listOf, gR])
      refine ⟨_, rfl, ?_⟩
      simp [lo]
      rw [take_snoc (linesD_at hip)])
  rw [zl]
  simp [newL]
  exact List.take_of_length_le (by simp [linesD])
end Dl
/-! ## B05b -/
/-! Law k04. -/
namespace Dl
open PySem L2
theorem ljust_grow (s : List Nat) (i : Int) (m : Nat) (h : s.length + m = i.toNat) : ljustL s i = s ++ List.replicate m 32 := by
  unfold ljustL
  rw [show i.toNat - s.length = m by omega]
def m_law_lines : FV := funD 8 (d_law_lines m_law_begins)
/-- the loop that lays blanks -/
theorem blanks_ok {s cell : List Nat} {i : Int} (hs : s.length ≤ 500) (hi : i ≤ 100) (a b c d e f g : Option D) (st : Store) (hn : cell ≠ []) :
    whileGo (tAndD (tv (eOp (eqG true) (eV 6) (eC (.str [])))) (tv (eOp ltG (eB lenG (aCons (eV 5) (aNil))) (eV 7)))) (sAsg (eOp (addG false) (eV 5) (eC (.str [32]))) (gN 5)) 100000 [a, b, c, d, e, some (.str s), some (.str cell), some (.int i)] st
      = .nx [a, b, c, d, e, some (.str (ljustL s i)), some (.str cell), some (.int i)] st := by
  generalize q : whileGo _ _ _ _ _ = r
  obtain ⟨e', s', rfl, rfl, rfl⟩ := while_go (n := i.toNat - s.length) q (fun n env st' => st = st' ∧ ∃ m : Nat, n + m = i.toNat - s.length ∧ env = [a, b, c, d, e, some (.str (s ++ List.replicate m 32)), some (.str cell), some (.int i)]) (fun env st' => st = st' ∧ env = [a, b, c, d, e, some (.str (ljustL s i)), some (.str cell), some (.int i)]) (by omega) ⟨rfl, 0, rfl, by simp⟩ (fun n env st' ⟨e1, m, e2, e3⟩ => by
    subst e1 e3
    cases n with
    | zero =>
      have h1 : ¬ ((s.length : Int) + (m : Int) < i) := by omega
      have e4 : m = i.toNat - s.length := by omega
      simp [hn, ltG, h1]
      rw [e4]; rfl
    | succ n =>
      have h1 : (s.length : Int) + (m : Int) < i := by omega
      have l1 : s.length + m + 1 ≤ LIM := le_LIM (by omega)
      have l2 : s.length + (m + 1) ≤ LIM := le_LIM (by omega)
      simp [hn, ltG, h1, addG, l1, l2]
      exact ⟨n, by omega, m + 1, by omega, by rw [List.replicate_succ']⟩)
  rfl
theorem law_lines_ok {p : Page} (hp : okPage p = true) {y : Sty} (hy : y.ok) {d : D} {w : List (Nat × List D)} {st : Store} (hd : listOf st d = some (encP p, w)) :
    ∃ M, m_law_lines [d, y.enc] st = .ok (.ref st.length, st ++ .lst (linesD p (bAt p y)) :: M) := by
  rw [m_law_lines, funD, d_law_lines]
  obtain ⟨p1, p2, p3⟩ := okPage_parts hp
  have hd1 : listOf (st ++ [Ob.lst []]) d = some (encP p, w) := listOf_stays (Stays.app _ _) hd
  have be := begins_ok hp y hd1
  have l1 : (st ++ [Ob.lst []]).length = st.length + 1 := by simp
  rw [l1] at be
  obtain ⟨G, hG⟩ : ∃ G, layS (st ++ [Ob.lst []]) p (bAt p y) = st ++ Ob.lst [] :: G := ⟨_, by unfold layS; rw [List.append_assoc]; rfl⟩
  rw [hG] at be
  have row : ∀ T k, k < p.length → (st ++ Ob.lst T :: G)[st.length + 2 + k]? = some (.lst (rowI p (bAt p y) k)) := fun T k hk => by
    have := lay_row (B := st ++ [Ob.lst []]) (p := p) (f := bAt p y) hk
    rw [hG, l1] at this
    rw [List.getElem?_append_right (by omega)] at this ⊢
    rw [show st.length + 1 + 1 + k - st.length = (k + 1) + 1 by omega] at this
    rw [show st.length + 2 + k - st.length = (k + 1) + 1 by omega]
    simpa using this
  have fnd : ∀ T, (st ++ Ob.lst T :: G)[st.length + 1]? = some (.lst (refs (st.length + 2) p.length)) := fun T => by
    have := lay_found (B := st ++ [Ob.lst []]) (p := p) (f := bAt p y)
    rw [hG, l1] at this
    rw [List.getElem?_append_right (by omega)] at this ⊢
    rw [show st.length + 1 - st.length = 0 + 1 by omega] at this ⊢
    simpa using this
  have hdT : ∀ T, listOf (st ++ Ob.lst T :: G) d = some (encP p, w) := fun T => listOf_stays (Stays.app _ _) hd
  have ln := fun T => len_list (hdT T)
  have m1 : -1000000 ≤ (p.length : Int) ∧ (p.length : Int) ≤ 1000000 := by omega
  simp [be, ln, m1]
  generalize q : forGo _ _ _ _ _ _ = r'
  obtain ⟨e', s, rfl, rfl, a4, a5, a6, a7, rfl⟩ := for_at q (fun i env st' => st' = st ++ Ob.lst ((linesD p (bAt p y)).take i) :: G ∧ ∃ a4 a5 a6 a7, env = [some d, some y.enc, some (.ref st.length), some (.ref (st.length + 1)), a4, a5, a6, a7]) ⟨by simp, _, _, _, _, rfl⟩ (fun _ _ _ _ _ => rfl) (fun i x env st' hi ⟨e1, a4, a5, a6, a7, e2⟩ => by
    subst e2
    obtain ⟨hi2, rfl⟩ := ints_get hi
    have er : p[i]? = some p[i] := by simp [hi2]
    have ix1 : ixG st' d (.int i) = .ok (encR p[i], st') := by
      rw [e1, ix_list (hdT _), atI_nat]; simp [encP, hi2]
    have ix2 : ixG st' (.ref (st.length + 1)) (.int i) = .ok (.ref (st.length + 2 + i), st') := by
      have : lstOf st' (.ref (st.length + 1)) = some (refs (st.length + 2) p.length) := by rw [e1]; simp only [lstOf, fnd]
      simp only [ixG, this, atI_nat, refs_get hi2]
      rfl
    have lr : listOf st' (.ref (st.length + 2 + i)) = some (rowI p (bAt p y) i, [(st.length + 2 + i, rowI p (bAt p y) i)]) := by
      rw [e1]; simp only [listOf, row _ i hi2]
    have hf : ∀ c, c < cellsIn p i → -100 ≤ bAt p y i c ∧ bAt p y i c ≤ 100 := fun c hc => bAt_b hp hy hi2 hc
    have hc6 := (cellsIn_le hp hi2).2
    have own : st'[st.length]? = some (.lst ((linesD p (bAt p y)).take i)) := by rw [e1]; simp
    simp [ix1, ix2, encR, lr]
    generalize q : forGo _ _ _ _ _ _ = r'
    obtain ⟨e', s, rfl, rfl, a6', a7', rfl⟩ := for_at q (fun c env st'' => st' = st'' ∧ ∃ a6 a7, env = [some d, some y.enc, some (.ref st.length), some (.ref (st.length + 1)), some (.int i), some (.str (lineN p (bAt p y) i c)), a6, a7]) ⟨rfl, _, _, rfl⟩ (fun c env st'' _ hI => by rw [← hI.1]; exact still_list lr) (fun c x env st'' hcx ⟨e1, a6, a7, e2⟩ => by
      subst e1 e2
      obtain ⟨hc, rfl⟩ := zip_row er hcx
      have ll := lineN_len hp hi2 hf c (by omega)
      have hl := cellAt_len hp hi2 hc
      have hfc := hf c hc
      have jl := ljustL_len (lineN p (bAt p y) i c) (bAt p y i c)
      have l3 : (ljustL (lineN p (bAt p y) i c) (bAt p y i c)).length + (cellAt p i c).length ≤ LIM := le_LIM (by omega)
      have l4 : (lineN p (bAt p y) i c).length ≤ LIM := le_LIM (by omega)
      by_cases z : cellAt p i c = []
      · have wh : ∀ env, env = [some d, some y.enc, some (.ref st.length), some (.ref (st.length + 1)), some (.int i), some (.str (lineN p (bAt p y) i c)), some (.str []), some (.int (bAt p y i c))] → whileGo (tAndD (tv (eOp (eqG true) (eV 6) (eC (.str [])))) (tv (eOp ltG (eB lenG (aCons (eV 5) (aNil))) (eV 7)))) (sAsg (eOp (addG false) (eV 5) (eC (.str [32]))) (gN 5)) 100000 env st' = .nx env st' := fun env he => by
          subst he
          rw [whileGo]
          simp
        have wh := wh _ rfl
        simp [z, wh, addG, l4, lineN]
      · have wh := blanks_ok (s := lineN p (bAt p y) i c) (cell := cellAt p i c) (i := bAt p y i c) (by omega) hfc.2 (some d) (some y.enc) (some (.ref st.length)) (some (.ref (st.length + 1))) (some (.int i)) none none st' z
        simp [wh, addG, l3, lineN, z])
    rw [zip_row_len er]
    have tm : tyM st' (.ref st.length) = some "list" := by simp only [tyM, own]
    have lt : ((linesD p (bAt p y)).take i).length < LIM := lt_LIM (by simp [linesD]; omega)
    have ap : appendG st' (.ref st.length) [.str (lineN p (bAt p y) i (cellsIn p i))] = .ok (.non, st ++ Ob.lst ((linesD p (bAt p y)).take (i + 1)) :: G) := by
      simp only [appendG, own, lt, if_true]
      rw [take_snoc (linesD_at hi2), e1]
      simp [lineR]
    simp [tm, ap])
  rw [intsD_len]
  simp
  exact List.take_of_length_le (by simp [linesD])
theorem linesD_pks (p : Page) (f : Nat → Nat → Int) : D.pks (linesD p f) = true := pks_map (fun _ => rfl) _
def m_law_k04 : FV := funD 9 (d_law_k04 m_law_begun m_law_page m_law_take m_law_style m_law_lines m_shown m_law_alike)
theorem law_k04_true (ns : List Int) (_ : ns.length ≤ 63) : ∃ st, m_law_k04 [.scr ns] [] = .ok (.bl true, st) := by
  rw [m_law_k04, funD, d_law_k04]
  obtain ⟨b, hb⟩ := begun_ok ns
  simp [hb]
  generalize q : forGo _ _ _ _ _ _ = r
  obtain ⟨e, s, rfl, b', rest, rfl, e', rfl, he'⟩ := for_at q (fun i env st' => ∃ b rest, st' = Bx b rest ∧ ∃ e', env = [some (.scr ns), some (.ref 1)] ++ e' ∧ e'.length = 7) ⟨b, [], rfl, _, rfl, rfl⟩ (fun _ _ _ _ _ => rfl) (fun i x env st' hi ⟨b, rest, e1, e', e2, e3⟩ => by
    subst e1 e2
    obtain ⟨a2, a3, a4, a5, a6, a7, a8, rfl⟩ := len7 e3
    obtain ⟨y0, ey, my⟩ := atI_mem (l := [D.int 6, D.int 30]) (i := (tk b 2).1) (tk_lo b (by decide)) (tk_hi b (by decide))
    have hy : ∃ n : Int, y0 = .int n ∧ 1 ≤ n ∧ n ≤ 30 := by
      simp at my
      rcases my with rfl | rfl <;> exact ⟨_, rfl, by decide, by decide⟩
    obtain ⟨n, rfl, n0, n9⟩ := hy
    obtain ⟨p, b2, hp, _, ep⟩ := page_ok (tk b 2).2 rest n n0 n9
    obtain ⟨y, b3, hy, es⟩ := style_ok b2 (rest ++ [.lst (encP p)])
    obtain ⟨p1, p2, p3⟩ := okPage_parts hp
    obtain ⟨S0, hS0⟩ : ∃ S0, S0 = Bx b3 (rest ++ [.lst (encP p)]) := ⟨_, rfl⟩
    have g0 : S0[rest.length + 2]? = some (.lst (encP p)) := by rw [hS0]; simp
    obtain ⟨M, du⟩ := law_lines_ok hp hy (d := .ref (rest.length + 2)) (w := [(rest.length + 2, encP p)]) (st := S0) (by simp only [listOf, g0])
    obtain ⟨S1, hS1⟩ : ∃ S1, S1 = S0 ++ .lst (linesD p (bAt p y)) :: M := ⟨_, rfl⟩
    rw [← hS1] at du
    have g1 : S1[rest.length + 2]? = some (.lst (encP p)) := by rw [hS1]; exact get_app g0
    have g2 : S1[S0.length]? = some (.lst (linesD p (bAt p y))) := by rw [hS1]; simp
    have lo2 : lstOf S1 (.ref (rest.length + 2)) = some (encP p) := by simp only [lstOf, g1]
    rw [← hS0] at es
    simp [take_eq, ey, ep, es, du, listG, lo2]
    generalize q : forGo _ _ _ _ _ _ = r
    obtain ⟨e, s, rfl, more, rfl, a7, a8, rfl⟩ := for_at q (fun i env st' => ∃ more, st' = S1 ++ more ∧ ∃ a7 a8, env = [some (.scr ns), some (.ref 1), some x, some (.ref (rest.length + 2)), some y.enc, some (.ref S0.length), some (.lst (encP p)), a7, a8]) ⟨[], by simp, _, _, rfl⟩ (fun _ _ _ _ _ => rfl) (fun j z env st' hj ⟨more, e1, a7, a8, e2⟩ => by
      obtain ⟨M1, so⟩ := shown_ok (st := st') hp hy (d := .lst (encP p)) (w := []) rfl
      obtain ⟨S2, hS2⟩ : ∃ S2, S2 = st' ++ M1 ++ [.lst (linesD p (bAt p y))] := ⟨_, rfl⟩
      rw [← hS2] at so
      have sl : (st' ++ M1).length = st'.length + M1.length := by simp
      have k0 : S2[st'.length + M1.length]? = some (.lst (linesD p (bAt p y))) := by rw [hS2, ← sl]; simp
      have s2 : Stays S1 S2 := by rw [hS2, e1, List.append_assoc, List.append_assoc]; exact Stays.app _ _
      have k1 := s2 _ _ g1
      have k2 := s2 _ _ g2
      have pk := linesD_pks p (bAt p y)
      have al : m_law_alike [.ref (st'.length + M1.length), .ref S0.length] S2 = .ok (.bl true, S2) := by
        refine alike_rd 8 (.lst (linesD p (bAt p y))) _ _ ?_ ?_ ?_ ?_
        · rw [Rd]; exact ⟨_, [(_, _)], by simp only [listOf, k0]; rfl, rds_self pk⟩
        · rw [Rd]; exact ⟨_, [(_, _)], by simp only [listOf, k2]; rfl, rds_self pk⟩
        · rw [D.sm, decide_eq_true (by simp [linesD]; omega), Bool.true_and]
          exact sms_of fun d hd => by
            obtain ⟨k, _, rfl⟩ := List.mem_map.mp hd; rfl
        · rw [dp_lst]
          have : D.dps (linesD p (bAt p y)) ≤ 1 := dps_le.mpr fun d hd => by
            obtain ⟨k, _, rfl⟩ := List.mem_map.mp hd; exact Nat.le_refl _
          omega
      have ee : eqG true S2 (.lst (encP p)) (.ref (rest.length + 2)) = .ok (.bl false, S2) := by
        rw [eqG_refR k1, eqG_pl (by simp) (by simp) (by have := dps_encP p; simp; omega) (by have := dps_encP p; simp; omega)]
        simp
      have tm : tyM S2 (.ref (st'.length + M1.length)) = some "list" := by simp only [tyM, k0]
      have ll : (linesD p (bAt p y)).length < LIM := lt_LIM (by simp [linesD]; omega)
      have ap : ∃ m, appendG S2 (.ref (st'.length + M1.length)) [.str []] = .ok (.non, S1 ++ m) := by
        simp only [appendG, k0, ll, if_true]
        obtain ⟨m, e⟩ : ∃ m, S2 = S1 ++ m := ⟨more ++ M1 ++ [.lst (linesD p (bAt p y))], by rw [hS2, e1]; simp⟩
        obtain ⟨m', e'⟩ := pre_set (S := S1) (more := m) (n := st'.length + M1.length) (o := Ob.lst (linesD p (bAt p y) ++ [.str []])) (by rw [e1]; simp; omega)
        rw [e, e']
        exact ⟨m', rfl⟩
      obtain ⟨m', ap⟩ := ap
      subst e2
      refine turn_eq (e := [some (.scr ns), some (.ref 1), some x, some (.ref (rest.length + 2)), some y.enc, some (.ref S0.length), some (.lst (encP p)), some z, some (.ref (st'.length + M1.length))]) (s := S1 ++ m') (by
        simp [so, al, ee, tm, ap]) ⟨_, rfl, _, _, rfl⟩)
    exact ⟨⟨_, _, by rw [hS1, hS0]; rfl⟩, _, rfl, rfl⟩)
  simp
end Dl
/-! ## DlAttr -/
/-! Attributes as targets. -/
namespace Dl
open PySem L2
section
variable {W : Wd} {X : Cx} {E : XK}
def gFldT (K : PySem.W.Frag) (ta : TE) (f : Str) : TG := fun v σ H Q => ta σ H fun x H2 => ∃ a C dx fs, x = .ref a ∧ H2 a = some (.ins C dx fs) ∧ Cls K C ∧ NoAttr K C f ∧ fs.length < 1000 ∧ Q σ (upd H2 a (.ins C dx (putF f v fs)))
theorem pg_fld {o : Expr} {f : Str} {ta : TE} {pos : Pos} (ha : PE X o ta) (h : ∀ v, assign (.Attribute o f pos) X.env v = (do
      let ov ← holding [v] (eval o X.env)
      standAt pos.atName
      holding [v, ov] (setAttr ov f v)
      release [v, ov] []) := by intro _; rfl) : PG X (.Attribute o f pos) (gFldT X.K ta f) := by
  refine ⟨fun pins s σ H v u Q I r hq => ?_⟩
  rw [h]
  refine wpAny_bind (wpAny_holding (thn (ha.run pins s σ H _ I hq) fun ov s2 ⟨x, H2, I2, rx, a, C, dx, fs, ex, ea, c, n, l, q2⟩ => ?_))
  subst ex
  obtain rfl : ov = Value.ref a := rx
  refine wpAny_bind (wpAny_standAt (wpAny_bind (wpAny_holding (setattr_ok I2 ea c n l r fun s3 I3 => wpAny_release ⟨σ, _, I3, q2⟩))))
/-- o.f = .. -/
def gFldD (c : Nat) (f : Str) (fo : EV) : GV := fun d env st => (fo env st).bind fun o => match o.1 with
  | .ref i => match o.2[i]? with
    | some (.ins c' fs) => if c' = c ∧ fs.length < 900 then .ok (env, o.2.set i (.ins c' (putD f d fs))) else .bad
    | _ => .bad
  | _ => .bad
@[simp] theorem r_gFldD (c : Nat) (f : Str) (fo : EV) (d : D) (env : Env) (st : Store) : gFldD c f fo d env st = (fo env st).bind fun o => match o.1 with
  | .ref i => match o.2[i]? with
    | some (.ins c' fs) => if c' = c ∧ fs.length < 900 then .ok (env, o.2.set i (.ins c' (putD f d fs))) else .bad
    | _ => .bad
  | _ => .bad := (rfl)
theorem dg_fld {o : Expr} {fo : EV} {c : Nat} {f : Str} {pos : Pos} (hK : X.K = W.K) (he : DE W X E o fo) (cl : Cls W.K (W.cls c)) (na : NoAttr W.K (W.cls c) f)
    (h : ∀ v, assign (.Attribute o f pos) X.env v = (do
      let ov ← holding [v] (eval o X.env)
      standAt pos.atName
      holding [v, ov] (setAttr ov f v)
      release [v, ov] []) := by intro _; rfl) : DG W X E (.Attribute o f pos) (gFldD c f fo) := by
  obtain ⟨to, po, qo⟩ := he.ex
  refine ⟨_, pg_fld po h, fun Rs F H r sg env st v d N hH hE k hP => ?_⟩
  refine qo Rs F H r sg env st _ hH hE (bindX hP fun o eo z F1 H1 r1 v1 s1 x1 h1 k1 => ?_)
  obtain ⟨dd, st1⟩ := o
  cases k1 with
  | @ref a i e =>
    simp only at z
    split at z
    · rename_i c' fs e1
      split at z
      · rename_i hc
        obtain ⟨rfl, hl⟩ := hc
        obtain ⟨dx, vfs, e2, k2⟩ := h1.ob i a _ e e1
        rw [hK]
        refine ⟨a, _, dx, vfs, rfl, e2, cl, na, by rw [k2.length]; omega, ?_⟩
        exact z F1 _ r1 sg s1 x1 (h1.write e ⟨dx, _, upd_same, Flds.put (k.mono s1 x1) k2⟩) (hE.mono s1 x1)
      · exact z.elim
    · exact z.elim
  | _ => exact z.elim
end
end Dl
/-! ## DlSeq -/
/-! l.index(x). -/
namespace Dl
open PySem L2
def indexG : GM := fun st o ds => match ds with
  | [d] => match toP st 40 o, toP st 40 d with
    | some (.list ps), some q => match ps.findIdx? fun z => PyData.eqv z q with
      | some j => .ok (.int (j : Nat), st)
      | none => .bad
    | _, _ => .bad
  | _ => .bad
section
variable {W : Wd} {X : Cx} {E : XK}
theorem dm_index (hK : X.K = W.K) (hu : X.A.units + 65 < cLine) : DM W X "list.index" indexG := ⟨_, mt_indexD hu, fun Rs F H rr st v d vs ds Q E h ko k hP => by
  unfold indexG at hP
  split at hP
  · rename_i d0
    split at hP
    · rename_i ps q e1 e2
      split at hP
      · rename_i j ej
        cases k with
        | cons k kn =>
          rename_i v0 vs0
          cases kn
          obtain ⟨a1, a2, a3⟩ := toP_ok h _ _ _ _ ko e1
          obtain ⟨b1, b2, b3⟩ := toP_ok h _ _ _ _ k e2
          have hj := List.findIdx?_eq_some_iff_getElem.mp ej
          obtain ⟨hl, hq, hn⟩ := hj
          have hv : ∃ a, v = V.ref a := by
            cases a1 with
            | lst _ _ => exact ⟨_, rfl⟩
          obtain ⟨a, rfl⟩ := hv
          rw [hK]
          refine ⟨a, _, q, ps, j, ps[j], rfl, rfl, a1, b1, shaped_of a2 a3, shaped_of b2 b3, by simp [hl], hq, fun m z' hm hz => ?_, onE_here h (.int _) hP⟩
          have hml : m < ps.length := by omega
          have := hn m hm
          rw [List.getElem?_eq_getElem hml] at hz
          cases hz
          simpa using this
      · exact hP.elim
    · exact hP.elim
  · exact hP.elim⟩
theorem hu65 {j : Nat} {A : Around} (hr : Room j A) : A.units + 65 < cLine := by
  have := hr.un
  omega
end
end Dl
/-! ## DlEnumT -/
/-! enumerate of a tuple. -/
namespace PySem
open Sem (wp)
open AutoSeq1 (wpAny_loadPart')
theorem new_enumT (a : Addr) (items : Array Value) :
    Meets (Builtin.«enumerate.__new__» ⟨[.type "enumerate", .ref a], []⟩) fun _ R s => s.heap.IsTuple a items ∧
      R (.ok (.ret (.ref (s.heap.push { cls := .type "tuple_iterator", data := .fields #[.ref a, .int 0 0] }).objs.size)))
        { s with heap := (s.heap.push { cls := .type "tuple_iterator", data := .fields #[.ref a, .int 0 0] }).push { cls := .type "enumerate", data := .fields #[.none, .bool false, .ref s.heap.objs.size, rawInt 0, .none, .none] } } :=
  .of_wp fun _ _ _ _ s ⟨hT, h⟩ => by
    have hsub := sub_enumerate
    have go := fun {prog w A E Q} => wpAny_pyIter_tuple (prog := prog) (w := w) (A := A) (E := E) (s := s) (Q := Q) hT
    wp_walk using go
    refine wpAny_stack_any fun _ => wpAny_pure ?_
    split
    next c _ _ _ _ _ => cases c == Value.type "enumerate" <;> (wp_walk using go; exact ⟨_, rfl, h⟩)
    next => wp_walk using go; exact ⟨_, rfl, h⟩
theorem call_enumT {prog : Program} {w : World} {A : Around} {E Q : Value → Shared → Prop} {s : Shared} {a : Addr} {items : Array Value} (hT : s.heap.IsTuple a items)
    (h : ∀ h', IsEnum h' (s.heap.objs.size + 1) s.heap.objs.size 0 .none → h'.IsTupleIter s.heap.objs.size a 0 → (∀ b o, s.heap.get? b = some o → h'.get? b = some o) → Q (.ref (s.heap.objs.size + 1)) { s with heap := h' }) :
    wpAny (model prog w) A (call (.type "enumerate") [.ref a]) Q E s := by
  refine callType_new F.called_enumerate (by decide) (F.typeCall_enumerate_1 _) (F.newCall_enumerate_1 _) (fun _ => F.args_object_init_2 _ _) F.entry_enumerate_new (new_enumT a items) ⟨hT, ?_⟩
  have two {h : Heap} {o : Obj} (hf : o.isFreed = false) : (h.push o).get? h.objs.size = some o := Heap.get?_push_size h hf
  have top := two (h := s.heap.push { cls := .type "tuple_iterator", data := .fields #[.ref a, .int 0 0] }) (o := { cls := .type "enumerate", data := .fields #[.none, .bool false, .ref s.heap.objs.size, rawInt 0, .none, .none] }) rfl
  refine ⟨⟨_, top, rfl⟩, ?_⟩
  rw [Heap.size_push] at top ⊢
  exact h _ top ⟨_, Heap.get?_push_of_some _ (two rfl), rfl, rfl⟩ fun _ _ q => Heap.get?_push_of_some _ (Heap.get?_push_of_some _ q)
section
variable {prog : Program} {w : World} {A : Around} {E : Value → Shared → Prop} {s : Shared}
end
end PySem
namespace Dl
open PySem PySem.Spec PyProof.Rows L2
/-- a tuple's items in new pairs -/
def ItT (K : PySem.W.Frag) (a : Addr) : It where
  go i H := ∃ (xs : List V) (x : V), SqT K H a xs ∧ xs[i]? = some x
  yld i H v H' := ∃ T x, v = .ref T ∧ H T = none ∧ H' = upd H T (.tup [.int (i : Nat), x]) ∧ ∀ xs, SqT K H a xs → xs[i]? = some x
  stop i H := ∃ xs : List V, SqT K H a xs ∧ xs.length ≤ i
theorem overT' {prog : Program} {w : World} {A : Around} (hh : A.handled = none) (it t : Addr) (zs : Array Value) (i : Nat) (h : zs.size ≤ i) (P : Nat → Value → Prop) : Draws prog w A it [it, t] i P (fun j hp => (hp.IsTupleIter it t j ∧ hp.IsTuple t zs) ∧ i ≤ j) where
  live _ _ q := by obtain ⟨⟨⟨o, e, _⟩, _⟩, _⟩ := q; exact ⟨o, e⟩
  frame _ _ _ q k := ⟨⟨q.1.1.at (k it (by simp)), q.1.2.at (k t (by simp))⟩, q.2⟩
  item j _ _ _ hj q _ := absurd q.2 (Nat.not_le.mpr hj)
  done _ _ _ q hE := wpAny_nextOf_tuple_end hh q.1.1 q.1.2 (Array.getElem?_eq_none h) hE
theorem turn_walk {P : Program} {w : World} {K : PySem.W.Frag} {elts : List Expr} {kk : Nat} {tpos : Pos} {J : It} {e : Addr} {wr : List Addr} {tn : Nat → Heap → Prop} (mem : e ∈ wr)
    (obj : ∀ i h, tn i h → ∀ b ∈ wr, ∃ o, h.get? b = some o ∧ ∀ v, o.data ≠ .cell v) (keep : ∀ i h h', tn i h → (∀ b ∈ wr, ∀ o, h.get? b = some o → h'.get? b = some o) → tn i h')
    (self : ∀ (A : Around) (i : Nat) (s : Shared) (Q : Value → Shared → Prop) (E : Value → Shared → Prop), tn i s.heap → Q (.ref e) s → wpAny (model P w) A (pyIter (.ref e)) Q E s)
    (more : ∀ (X : Cx) (pins : List (Addr × Obj)) (σ : L2.St) (H : Hp) (s : Shared) (i : Nat), X.prog = P → X.w = w → X.K = K → X.A.in1.handled = none → Inv X pins σ H s → tn i s.heap → J.go i H →
      ∃ fp n Pt St Mid, WalksT P w X.A e fp wr n Pt St Mid ∧ i < n ∧ St i s.heap ∧ (∀ h, St (i + 1) h → tn (i + 1) h) ∧
        ∀ us, Pt i us → ∃ vs, Vals vs us.toList ∧ vs.length ≤ sizeLine ∧ ∀ T, H T = none → J.yld i H (.ref T) (upd H T (.tup vs)))
    (over : ∀ (X : Cx) (pins : List (Addr × Obj)) (σ : L2.St) (H : Hp) (s : Shared) (i : Nat), X.prog = P → X.w = w → X.K = K → X.A.in1.handled = none → Inv X pins σ H s → tn i s.heap → J.stop i H →
      ∃ fp n Pt St Mid, WalksT P w X.A e fp wr n Pt St Mid ∧ St n s.heap) :
    Turn P w K (.Tuple elts kk tpos) J wr e tn where
  mem := mem
  obj := obj
  keep := keep
  self := self
  done X hP hw hK hc i pins s σ H E I own t0 stop :=
    have ⟨_, _, _, _, _, W, t1⟩ := over X pins σ H s i hP hw hK (I.ok.hd hc) I t0 stop
    W.done s _ E t1 fun _ tk k => ⟨rfl, I.turnedL (t' := tk) k own⟩
  item X hP hw hK hc i pins s σ H E I own t0 go := by
    have ⟨_, n, Pt, _, Mid, W, lt, t1, next, told⟩ := more X pins σ H s i hP hw hK (I.ok.hd hc) I t0 go
    refine W.item i s _ E lt t1 fun T us h1 tk p1 old tup mid k1 => ⟨_, rfl, W.go elts kk tpos i T _ _ E mid fun h2 t2 k2 => ?_⟩
    have ⟨vs, rv, hz, yl⟩ := told us p1
    have nT := W.apart i T h1 mid
    have free : H T = none := I.hok.fresh old
    have ⟨o, ho, hcls, m, hdat⟩ := tup
    subst hP hw
    have new : ObjOk X.prog X.w (upd H T (.tup vs)) h2 T (.tup vs) := ⟨hz, us.toList, rv, o, k2 T o nT ho, hcls, m, by rw [hdat]⟩
    exact ⟨.ref T, upd H T (.tup vs), I.turnedNew (t' := tk) (fun b ob nb q => k2 b ob nb (k1 b ob nb q)) own old new, rfl, yl T free, next h2 t2, fun b hb => (upd_ne fun z : b = T => nT (z ▸ hb)).trans (own b hb).1⟩
theorem pi_enumOf {X : Cx} {e : Expr} {ta : TA} {p pos tpos : Pos} {elts : List Expr} {kk : Nat} {wi : List V → Hp → (It → Hp → Prop) → Prop} (hg : Gl X "enumerate") (hm : X.mg "enumerate" = none) (ha : PA X [e] ta) (hs : starEach [e] X.env = [(false, eval e X.env)])
    (k : ∀ pins s σ H R vs us, Inv X pins σ H s → Vals vs us → wi vs H R → wpAny (model X.prog X.w) X.A (call (.type "enumerate") us) (fun v s1 => wpAny (model X.prog X.w) X.A (pyIter v) (PIE X pins σ (.Tuple elts kk tpos) R) X.xe s1) X.xe s) :
    PI X (.Tuple elts kk tpos) (.Call (.Name "enumerate" p) [e] [] pos) (fun σ H R => ta σ H fun vs H1 => wi vs H1 R) where
  run pins s σ H R I h := Call_ (ld_blt I hg hm boot_enumerate (PyProof.Rows.callWith_type1 (thn (ha.run pos pins s σ H _ I h) fun us s1 ⟨vs, H1, I1, r1, q1⟩ => k pins s1 σ H1 R vs us I1 r1 q1) hs rfl))
theorem pie_enum {X : Cx} {pins : List (Addr × Obj)} {σ : L2.St} {H : Hp} {s : Shared} {h' : Heap} {tg : Expr} {J : It} {tn : Nat → Heap → Prop} {R : It → Hp → Prop} (I : Inv X pins σ H s) (kp : ∀ b o, s.heap.get? b = some o → h'.get? b = some o)
    (T : Turn X.prog X.w X.K tg J [s.heap.objs.size + 1, s.heap.objs.size] (s.heap.objs.size + 1) tn) (t0 : tn 0 h') (r : R J H) : PIE X pins σ tg R (.ref (s.heap.objs.size + 1)) { s with heap := h' } :=
  ⟨_, _, tn, J, H, rfl, I.kept (t' := s.toks) kp, T, t0, fun b hb =>
    have le : s.heap.objs.size ≤ b := match List.mem_cons.mp hb with
      | .inl z => z ▸ Nat.le_succ _
      | .inr z => Nat.le_of_eq (List.mem_singleton.mp z).symm
    I.fpOk le (I.hok.fresh le), r⟩
theorem enum_obj {h : Heap} {e it : Addr} {i : Int} {old : Value} {o : Obj} {vs : Array Value} (he : IsEnum h e it i old) (hi : h.get? it = some o) (hd : o.data = .fields vs) : ∀ b ∈ [e, it], ∃ o, h.get? b = some o ∧ ∀ v, o.data ≠ .cell v := fun b hb =>
  match List.mem_cons.mp hb with
  | .inl z => ⟨_, z ▸ he, fun v q => nomatch (show Data.fields _ = Data.cell v from q)⟩
  | .inr z => ⟨o, List.mem_singleton.mp z ▸ hi, fun v q => nomatch hd.symm.trans q⟩
theorem turn_enumT {P : Program} {w : World} {K : PySem.W.Frag} {elts : List Expr} {kk : Nat} {tpos : Pos} (a e it : Addr) (hei : e ≠ it) (hea : e ≠ a) (hia : it ≠ a) :
    Turn P w K (.Tuple elts kk tpos) (ItT K a) [e, it] e (fun i h => (∃ old, IsEnum h e it ((i : Nat) : Int) old) ∧ h.IsTupleIter it a i) := by
  have ef : e ∉ [it, a] := by simp [hei, hea]
  refine turn_walk (by simp) (fun i h ⟨⟨_, he⟩, _, ho, _, hd⟩ => enum_obj he ho hd) (fun i h h' ⟨⟨old, he⟩, hi⟩ k => ⟨⟨old, k e (by simp) _ he⟩, hi.at (k it (by simp))⟩) (fun A i s Q E ⟨⟨_, he⟩, _⟩ q => wpAny_pyIter_enum he q)
    (fun X pins σ H s i hP hw hK hh I ⟨he, hi⟩ ⟨xs, x, hq, hx⟩ => ?_) fun X pins σ H s i hP hw hK hh I ⟨he, hi⟩ ⟨xs, hq, hl⟩ => ?_
  all_goals
    subst hP hw hK
    have ⟨its, rv, p, _⟩ := I.tuple hq
  · have ⟨u, hu, ru⟩ := rv.get hx
    refine ⟨_, _, _, _, _, WalksT.enumerateD (Draws.tuple hh it a (Ne.symm hia) its.toArray) e hei ef (by simp), (List.getElem?_eq_some_iff.mp hu).1, ⟨he, hi, p⟩, fun h q => ⟨q.1, q.2.1⟩, fun us ⟨t, y, hy, eu⟩ => ⟨[.int (i : Nat), x], ?_, by show 2 ≤ sizeLine; decide, fun T hT => ⟨T, x, rfl, hT, rfl, fun ys hy => I.tuple_inj hy hq ▸ hx⟩⟩⟩
    have : y = u := Option.some.inj ((show its[i]? = some y by simpa using hy).symm.trans hu)
    rw [eu, this]
    exact .cons ⟨_, rfl⟩ (.cons ru .nil)
  · exact ⟨_, i, _, _, _, WalksT.enumerateD (overT' hh it a its.toArray i (by simpa [rv.length] using hl) fun _ _ => True) e hei ef (by simp), he, ⟨hi, p⟩, Nat.le_refl _⟩
def iEnumT (K : PySem.W.Frag) (ta : TA) : TI := fun σ H R => ta σ H fun vs H1 => ∃ a xs, vs = [.ref a] ∧ SqT K H1 a xs ∧ R (ItT K a) H1
theorem pi_enumT {X : Cx} {e : Expr} {ta : TA} {p pos tpos : Pos} {elts : List Expr} {kk : Nat} (hg : Gl X "enumerate") (hm : X.mg "enumerate" = none) (ha : PA X [e] ta) (hs : starEach [e] X.env = [(false, eval e X.env)] := by rfl) :
    PI X (.Tuple elts kk tpos) (.Call (.Name "enumerate" p) [e] [] pos) (iEnumT X.K ta) :=
  pi_enumOf (wi := fun vs H1 R => ∃ a xs, vs = [.ref a] ∧ SqT X.K H1 a xs ∧ R (ItT X.K a) H1) hg hm ha hs fun pins s σ H R vs us I r ⟨a, xs, ev, hq, q⟩ => by
    subst ev
    match us, r with
    | [_], .cons rfl .nil =>
      have ⟨its, _, p, _⟩ := I.tuple hq
      have lt : a < s.heap.objs.size := have ⟨_, e, _⟩ := p; Heap.lt_size e
      exact call_enumT p fun h' he hi kp => wpAny_pyIter_enum he (pie_enum I kp (turn_enumT a _ _ (Nat.succ_ne_self _) (Nat.ne_of_gt (Nat.lt_succ_of_lt lt)) (Nat.ne_of_gt lt)) ⟨⟨_, he⟩, hi⟩ q)
section
variable {W : Wd} {X : Cx} {E : XK}
theorem drv_enumT {K : PySem.W.Frag} {F0 : Hp} {r0 : List Addr} {a : Addr} {us : List V} {ds : List D} (h : F0 a = some (.tup us)) (hk : Reps F0 r0 us ds) : Drv W F0 r0 (ItT K a) (pairUp ds, []) := fun i Rs F H r st s x hH hst => by
  have k1 := hk.mono s x
  have h1 : SqT K H a us := .of (hH.sF _ _ (s _ _ h))
  refine ⟨fun d e => ?_, fun hl => ⟨us, h1, by rw [k1.length]; rw [pairUp_len] at hl; exact hl⟩⟩
  obtain ⟨d', e', rfl⟩ := pairUp_at e
  obtain ⟨v, e1, k⟩ := k1.get e'
  refine ⟨⟨us, v, h1, e1⟩, fun y H' yl => ?_⟩
  obtain ⟨T, z, rfl, hT, rfl, yl⟩ := yl
  have := yl us h1
  rw [e1] at this; cases this
  obtain ⟨s1, h2⟩ := hH.frozen (o := .tup [.int (i : Nat), v]) hT
  exact ⟨_, s1, h2, .tup upd_same (.cons (.int _) (.cons (k.mono s1 (Ext.refl _)) .nil))⟩
/-- enumerate of a tuple -/
def iEnT (g : AV) : IV := fun env st => (g env st).bind fun a => match a.1 with
  | [.tup ds] => .ok ((pairUp ds, []), a.2)
  | _ => .bad
@[simp] theorem r_iEnT (g : AV) (env : Env) (st : Store) : iEnT g env st = (g env st).bind fun a => match a.1 with
  | [.tup ds] => .ok ((pairUp ds, []), a.2)
  | _ => .bad := (rfl)
theorem di_enumT {e : Expr} {g : AV} {p pos tpos : Pos} {elts : List Expr} {kk : Nat} (hg : Gl X "enumerate") (hm : X.mg "enumerate" = none) (ha : DA W X E [e] g) (hs : starEach [e] X.env = [(false, eval e X.env)] := by rfl) :
    DI W X E (.Tuple elts kk tpos) (.Call (.Name "enumerate" p) [e] [] pos) (iEnT g) := by
  obtain ⟨t, pa, q⟩ := ha.ex
  refine ⟨_, pi_enumT hg hm pa hs, fun Rs F H r sg env st Q hH hE hP => ?_⟩
  refine q Rs F H r sg env st _ hH hE (bindX hP fun a ea z F1 H1 r1 vs s1 x1 h1 k1 => ?_)
  obtain ⟨ds, st1⟩ := a
  simp only at z
  split at z
  · match k1 with
    | .cons (.tup q k) .nil => exact ⟨_, _, rfl, .of (h1.sF _ _ q), z _ F1 H1 r1 s1 x1 h1 (drv_enumT q k)⟩
  · exact z.elim
end
end Dl
/-! ## D14 -/
/-! The meanings of some defs (printed by pick.py). -/
namespace Dl
open PySem L2
/-- Sheet_init: 3 slots, 3 parameters -/
def d_Sheet_init (m_need_page : FV) (m_need_style : FV) (m_begins_by : FV) (m_all_stretches : FV) : SV := sCons (sExpr (eCall 1 m_need_page (aCons (eV 1) (aNil)))) (sCons (sExpr (eCall 1 m_need_style (aCons (eV 2) (aNil)))) (sCons (sFldD 13 "rows" (eV 0) (eB (listG false) (aCons (eV 1) (aNil)))) (sCons (sFldD 13 "style" (eV 0) (eV 2)) (sCons (sFldD 13 "lefts" (eV 0) (eCall 3 m_begins_by (aCons (eFld 13 "rows" (eV 0)) (aCons (eV 2) (aCons (eCall 1 m_all_stretches (aCons (eFld 13 "rows" (eV 0)) (aNil))) (aNil)))))) (sFldD 13 "past" (eV 0) (eLst true (aNil)))))))
/-- Sheet_page: 1 slots, 1 parameters -/
def d_Sheet_page : SV := sRet (eB (listG true) (aCons (eFld 13 "rows" (eV 0)) (aNil)))
/-- Sheet_back: 1 slots, 1 parameters -/
def d_Sheet_back (m_begins_by : FV) (m_all_stretches : FV) : SV := sCons (sIf (tv (eOp (eqG false) (eFld 13 "past" (eV 0)) (eLst false (aNil)))) (sRet (eC (.bl false))) (sNext)) (sCons (sFldD 13 "rows" (eV 0) (eMt "list" (popG) (eFld 13 "past" (eV 0)) aNil)) (sCons (sFldD 13 "lefts" (eV 0) (eCall 3 m_begins_by (aCons (eFld 13 "rows" (eV 0)) (aCons (eFld 13 "style" (eV 0)) (aCons (eCall 1 m_all_stretches (aCons (eFld 13 "rows" (eV 0)) (aNil))) (aNil)))))) (sRet (eC (.bl true)))))
/-- Cursor_init: 3 slots, 3 parameters -/
def d_Cursor_init (m_Sheet_init : FV) : SV := sCons (sFldD 14 "sheet" (eV 0) (eMake 13 3 m_Sheet_init (aCons (eV 1) (aCons (eV 2) (aNil))))) (sCons (sFldD 14 "number" (eV 0) (eC (.int 0))) (sCons (sFldD 14 "cell" (eV 0) (eC (.int 0))) (sFldD 14 "place" (eV 0) (eC (.int 0)))))
/-- Cursor_at: 1 slots, 1 parameters -/
def d_Cursor_at : SV := sRet (eTup (aCons (eFld 14 "number" (eV 0)) (aCons (eFld 14 "cell" (eV 0)) (aCons (eFld 14 "place" (eV 0)) (aNil)))))
/-- Cursor_mine: 1 slots, 1 parameters -/
def d_Cursor_mine : SV := sRet (eOp ixG (eFld 13 "rows" (eFld 14 "sheet" (eV 0))) (eFld 14 "number" (eV 0)))
/-- Cursor_aside: 1 slots, 1 parameters -/
def d_Cursor_aside : SV := sRet (eOp (addG false) (eOp ixG (eOp ixG (eFld 13 "lefts" (eFld 14 "sheet" (eV 0))) (eFld 14 "number" (eV 0))) (eFld 14 "cell" (eV 0))) (eFld 14 "place" (eV 0)))
/-- Cursor_go: 5 slots, 4 parameters -/
def d_Cursor_go (m_Cursor_at : FV) : SV := sCons (sAsg (eOp (eqG true) (eTup (aCons (eV 1) (aCons (eV 2) (aCons (eV 3) (aNil))))) (eMeth 14 "at" 1 m_Cursor_at (eV 0) aNil)) (gN 4)) (sCons (sAsg (eTup (aCons (eV 1) (aCons (eV 2) (aCons (eV 3) (aNil))))) (gTp 3 (gsCons (gFldD 14 "number" (eV 0)) (gsCons (gFldD 14 "cell" (eV 0)) (gsCons (gFldD 14 "place" (eV 0)) (gsNil)))))) (sRet (eV 4)))
/-- Cursor_go_end: 3 slots, 3 parameters -/
def d_Cursor_go_end (m_Cursor_go : FV) : SV := sRet (eMeth 14 "go" 4 m_Cursor_go (eV 0) (aCons (eV 1) (aCons (eV 2) (aCons (eB lenG (aCons (eOp ixG (eOp ixG (eFld 13 "rows" (eFld 14 "sheet" (eV 0))) (eV 1)) (eV 2)) (aNil))) (aNil)))))
/-- Cursor_left: 1 slots, 1 parameters -/
def d_Cursor_left (m_Cursor_go : FV) (m_Cursor_go_end : FV) : SV := sCons (sIf (tv (eOp gtG (eFld 14 "place" (eV 0)) (eC (.int 0)))) (sRet (eMeth 14 "go" 4 m_Cursor_go (eV 0) (aCons (eFld 14 "number" (eV 0)) (aCons (eFld 14 "cell" (eV 0)) (aCons (eOp subG (eFld 14 "place" (eV 0)) (eC (.int 1))) (aNil)))))) (sNext)) (sCons (sIf (tv (eOp gtG (eFld 14 "cell" (eV 0)) (eC (.int 0)))) (sRet (eMeth 14 "go_end" 3 m_Cursor_go_end (eV 0) (aCons (eFld 14 "number" (eV 0)) (aCons (eOp subG (eFld 14 "cell" (eV 0)) (eC (.int 1))) (aNil))))) (sNext)) (sCons (sIf (tv (eOp gtG (eFld 14 "number" (eV 0)) (eC (.int 0)))) (sRet (eMeth 14 "go_end" 3 m_Cursor_go_end (eV 0) (aCons (eOp subG (eFld 14 "number" (eV 0)) (eC (.int 1))) (aCons (eOp subG (eB lenG (aCons (eOp ixG (eFld 13 "rows" (eFld 14 "sheet" (eV 0))) (eOp subG (eFld 14 "number" (eV 0)) (eC (.int 1)))) (aNil))) (eC (.int 1))) (aNil))))) (sNext)) (sRet (eC (.bl false)))))
/-- Cursor_right: 1 slots, 1 parameters -/
def d_Cursor_right (m_Cursor_mine : FV) (m_Cursor_go : FV) : SV := sCons (sIf (tv (eOp ltG (eFld 14 "place" (eV 0)) (eB lenG (aCons (eOp ixG (eMeth 14 "mine" 1 m_Cursor_mine (eV 0) aNil) (eFld 14 "cell" (eV 0))) (aNil))))) (sRet (eMeth 14 "go" 4 m_Cursor_go (eV 0) (aCons (eFld 14 "number" (eV 0)) (aCons (eFld 14 "cell" (eV 0)) (aCons (eOp (addG false) (eFld 14 "place" (eV 0)) (eC (.int 1))) (aNil)))))) (sNext)) (sCons (sIf (tv (eOp ltG (eFld 14 "cell" (eV 0)) (eOp subG (eB lenG (aCons (eMeth 14 "mine" 1 m_Cursor_mine (eV 0) aNil) (aNil))) (eC (.int 1))))) (sRet (eMeth 14 "go" 4 m_Cursor_go (eV 0) (aCons (eFld 14 "number" (eV 0)) (aCons (eOp (addG false) (eFld 14 "cell" (eV 0)) (eC (.int 1))) (aCons (eC (.int 0)) (aNil)))))) (sNext)) (sCons (sIf (tv (eOp ltG (eFld 14 "number" (eV 0)) (eOp subG (eB lenG (aCons (eFld 13 "rows" (eFld 14 "sheet" (eV 0))) (aNil))) (eC (.int 1))))) (sRet (eMeth 14 "go" 4 m_Cursor_go (eV 0) (aCons (eOp (addG false) (eFld 14 "number" (eV 0)) (eC (.int 1))) (aCons (eC (.int 0)) (aCons (eC (.int 0)) (aNil)))))) (sNext)) (sRet (eC (.bl false)))))
/-- Cursor_near: 7 slots, 3 parameters -/
def d_Cursor_near : SV := sCons (sAsg (eTup (aCons (eC (.int 0)) (aCons (eC (.int 0)) (aNil)))) (gN 3)) (sCons (sFor (iEnT (aCons (eOp ixG (eFld 13 "rows" (eFld 14 "sheet" (eV 0))) (eV 1)) (aNil))) (gTp 2 (gsCons (gN 4) (gsCons (gN 5) (gsNil)))) (sFor (iR1 (aCons (eOp (addG false) (eB lenG (aCons (eV 5) (aNil))) (eC (.int 1))) (aNil))) (gN 6) (sIf (tv (eOp leG (eOp (addG false) (eOp ixG (eOp ixG (eFld 13 "lefts" (eFld 14 "sheet" (eV 0))) (eV 1)) (eV 4)) (eV 6)) (eV 2))) (sAsg (eTup (aCons (eV 4) (aCons (eV 6) (aNil)))) (gN 3)) (sNext)))) (sRet (eV 3)))
/-- Cursor_beside: 5 slots, 2 parameters -/
def d_Cursor_beside (m_Cursor_near : FV) (m_Cursor_aside : FV) (m_Cursor_go : FV) : SV := sCons (sAsg (eOp (addG false) (eFld 14 "number" (eV 0)) (eV 1)) (gN 2)) (sCons (sIf (tNotD (tv (eChain leG ltG (eC (.int 0)) (eV 2) (eB lenG (aCons (eFld 13 "rows" (eFld 14 "sheet" (eV 0))) (aNil)))))) (sRet (eC (.bl false))) (sNext)) (sCons (sAsg (eMeth 14 "near" 3 m_Cursor_near (eV 0) (aCons (eV 2) (aCons (eMeth 14 "aside" 1 m_Cursor_aside (eV 0) aNil) (aNil)))) (gTp 2 (gsCons (gN 3) (gsCons (gN 4) (gsNil))))) (sRet (eMeth 14 "go" 4 m_Cursor_go (eV 0) (aCons (eV 2) (aCons (eV 3) (aCons (eV 4) (aNil))))))))
/-- Cursor_up: 1 slots, 1 parameters -/
def d_Cursor_up (m_Cursor_beside : FV) : SV := sRet (eMeth 14 "beside" 2 m_Cursor_beside (eV 0) (aCons (eOp subG (eC (.int 0)) (eC (.int 1))) (aNil)))
/-- Cursor_down_k14: 1 slots, 1 parameters -/
def d_Cursor_down_k14 (m_Cursor_beside : FV) : SV := sRet (eMeth 14 "beside" 2 m_Cursor_beside (eV 0) (aCons (eC (.int 1)) (aNil)))
/-- Cursor_page: 1 slots, 1 parameters -/
def d_Cursor_page (m_Sheet_page : FV) : SV := sRet (eMeth 13 "page" 1 m_Sheet_page (eFld 14 "sheet" (eV 0)) aNil)
/-- Cursor_back: 1 slots, 1 parameters -/
def d_Cursor_back (m_Cursor_go : FV) (m_Sheet_back : FV) : SV := sCons (sExpr (eMeth 14 "go" 4 m_Cursor_go (eV 0) (aCons (eC (.int 0)) (aCons (eC (.int 0)) (aCons (eC (.int 0)) (aNil)))))) (sRet (eMeth 13 "back" 1 m_Sheet_back (eFld 14 "sheet" (eV 0)) aNil))
/-- law_places: 5 slots, 1 parameters -/
def d_law_places : SV := sCons (sAsg (eLst true (aNil)) (gN 1)) (sCons (sFor (iR1 (aCons (eB lenG (aCons (eV 0) (aNil))) (aNil))) (gN 2) (sFor (iR1 (aCons (eB lenG (aCons (eOp ixG (eV 0) (eV 2)) (aNil))) (aNil))) (gN 3) (sExpr (eMt "list" (extendG) (eV 1) (aCons (eLc false (iR1 (aCons (eOp (addG false) (eB lenG (aCons (eOp ixG (eOp ixG (eV 0) (eV 2)) (eV 3)) (aNil))) (eC (.int 1))) (aNil))) [4] (.one 4) (tYesD) (eTup (aCons (eV 2) (aCons (eV 3) (aCons (eV 4) (aNil)))))) (aNil)))))) (sRet (eV 1)))
/-- law_gone: 10 slots, 4 parameters -/
def d_law_gone (m_law_places : FV) : SV := sCons (sAsg (eCall 1 m_law_places (aCons (eV 0) (aNil))) (gN 4)) (sCons (sAsg (eMt "list" (indexG) (eV 4) (aCons (eV 2) (aNil))) (gN 5)) (sCons (sIf (tv (eOp (eqG false) (eV 3) (eC (.str [108, 101, 102, 116])))) (sRet (eOp ixG (eV 4) (eB maxG (aCons (eC (.int 0)) (aCons (eOp subG (eV 5) (eC (.int 1))) (aNil)))))) (sNext)) (sCons (sIf (tv (eOp (eqG false) (eV 3) (eC (.str [114, 105, 103, 104, 116])))) (sRet (eOp ixG (eV 4) (eB minG (aCons (eOp subG (eB lenG (aCons (eV 4) (aNil))) (eC (.int 1))) (aCons (eOp (addG false) (eV 5) (eC (.int 1))) (aNil)))))) (sNext)) (sCons (sAsg (eOp (addG false) (eOp ixG (eV 2) (eC (.int 0))) (eOp ixG (eLst false (aCons (eC (.int 1)) (aCons (eNeg (eC (.int 1))) (aNil)))) (eB intG (aCons (eOp (eqG false) (eV 3) (eC (.str [117, 112]))) (aNil))))) (gN 6)) (sCons (sIf (tNotD (tv (eChain leG ltG (eC (.int 0)) (eV 6) (eB lenG (aCons (eV 0) (aNil)))))) (sRet (eV 2)) (sNext)) (sCons (sAsg (eOp (addG false) (eOp ixG (eOp ixG (eV 1) (eOp ixG (eV 2) (eC (.int 0)))) (eOp ixG (eV 2) (eC (.int 1)))) (eOp ixG (eV 2) (eC (.int 2)))) (gN 7)) (sCons (sAsg (eLc false (iSeq (eV 4)) [9] (.one 9) (tAndD (tv (eOp (eqG false) (eOp ixG (eV 9) (eC (.int 0))) (eV 6))) (tv (eOp leG (eOp (addG false) (eOp ixG (eOp ixG (eV 1) (eV 6)) (eOp ixG (eV 9) (eC (.int 1)))) (eOp ixG (eV 9) (eC (.int 2)))) (eV 7)))) (eV 9)) (gN 8)) (sRet (eIf (tv (eOp (eqG true) (eV 8) (eLst false (aNil)))) (eOp ixG (eV 8) (eNeg (eC (.int 1)))) (eTup (aCons (eV 6) (aCons (eC (.int 0)) (aCons (eC (.int 0)) (aNil))))))))))))))
/-- law_went: 2 slots, 2 parameters -/
def d_law_went (m_Cursor_left : FV) (m_Cursor_right : FV) (m_Cursor_up : FV) (m_Cursor_down_k14 : FV) : SV := sCons (sIf (tv (eOp (eqG false) (eV 1) (eC (.str [108, 101, 102, 116])))) (sRet (eMeth 14 "left" 1 m_Cursor_left (eV 0) aNil)) (sNext)) (sCons (sIf (tv (eOp (eqG false) (eV 1) (eC (.str [114, 105, 103, 104, 116])))) (sRet (eMeth 14 "right" 1 m_Cursor_right (eV 0) aNil)) (sNext)) (sRet (eIf (tv (eOp (eqG false) (eV 1) (eC (.str [117, 112])))) (eMeth 14 "up" 1 m_Cursor_up (eV 0) aNil) (eMeth 14 "down" 1 m_Cursor_down_k14 (eV 0) aNil))))
/-- law_k14: 13 slots, 1 parameters -/
def d_law_k14 (m_law_begun : FV) (m_law_page : FV) (m_law_take : FV) (m_law_style : FV) (m_law_begins : FV) (m_law_alike : FV) (m_Cursor_at : FV) (m_law_gone : FV) (m_law_went : FV) (m_Cursor_aside : FV) (m_Cursor_page : FV) (m_Cursor_back : FV) (m_Cursor_init : FV) : SV := sCons (sAsg (eCall 1 m_law_begun (aCons (eV 0) (aNil))) (gN 1)) (sCons (sPar 2 3 (aCons (eCall 2 m_law_page (aCons (eV 1) (aCons (eOp ixG (eLst false (aCons (eC (.int 4)) (aCons (eC (.int 12)) (aCons (eC (.int 30)) (aNil))))) (eCall 2 m_law_take (aCons (eV 1) (aCons (eC (.int 3)) (aNil))))) (aNil)))) (aCons (eCall 1 m_law_style (aCons (eV 1) (aNil))) (aNil)))) (sCons (sAsg (eCall 2 m_law_begins (aCons (eV 2) (aCons (eV 3) (aNil)))) (gN 4)) (sCons (sAsg (eB (listG true) (aCons (eV 2) (aNil))) (gN 5)) (sCons (sAsg (eMake 14 3 m_Cursor_init (aCons (eV 5) (aCons (eV 3) (aNil)))) (gN 6)) (sCons (sExpr (eMt "list" (clearG) (eV 5) aNil)) (sCons (sAsg (eTup (aCons (eC (.int 0)) (aCons (eC (.int 0)) (aCons (eC (.int 0)) (aNil))))) (gN 7)) (sCons (sIf (tNotD (tv (eCall 2 m_law_alike (aCons (eMeth 14 "at" 1 m_Cursor_at (eV 6) aNil) (aCons (eV 7) (aNil)))))) (sRet (eC (.bl false))) (sNext)) (sCons (sFor (iR1 (aCons (eCall 2 m_law_take (aCons (eV 1) (aCons (eC (.int 61)) (aNil)))) (aNil))) (gN 8) (sCons (sAsg (eOp ixG (eLst false (aCons (eC (.str [108, 101, 102, 116])) (aCons (eC (.str [114, 105, 103, 104, 116])) (aCons (eC (.str [117, 112])) (aCons (eC (.str [100, 111, 119, 110])) (aCons (eC (.str [114, 105, 103, 104, 116])) (aCons (eC (.str [100, 111, 119, 110])) (aNil)))))))) (eCall 2 m_law_take (aCons (eV 1) (aCons (eC (.int 6)) (aNil))))) (gN 9)) (sFor (iR1 (aCons (eOp ixG (eLst false (aCons (eC (.int 1)) (aCons (eOp (addG false) (eC (.int 1)) (eCall 2 m_law_take (aCons (eV 1) (aCons (eC (.int 12)) (aNil))))) (aNil)))) (eCall 2 m_law_take (aCons (eV 1) (aCons (eC (.int 2)) (aNil))))) (aNil))) (gN 10) (sCons (sAsg (eCall 4 m_law_gone (aCons (eV 2) (aCons (eV 4) (aCons (eV 7) (aCons (eV 9) (aNil)))))) (gN 11)) (sCons (sIf (tNotD (tv (eCall 2 m_law_alike (aCons (eCall 2 m_law_went (aCons (eV 6) (aCons (eV 9) (aNil)))) (aCons (eOp (eqG true) (eV 11) (eV 7)) (aNil)))))) (sRet (eC (.bl false))) (sNext)) (sCons (sAsg (eV 11) (gN 7)) (sCons (sAsg (eOp (addG false) (eOp ixG (eOp ixG (eV 4) (eOp ixG (eV 7) (eC (.int 0)))) (eOp ixG (eV 7) (eC (.int 1)))) (eOp ixG (eV 7) (eC (.int 2)))) (gN 12)) (sIf (tNotD (tv (eCall 2 m_law_alike (aCons (eLst false (aCons (eMeth 14 "at" 1 m_Cursor_at (eV 6) aNil) (aCons (eMeth 14 "aside" 1 m_Cursor_aside (eV 6) aNil) (aNil)))) (aCons (eLst false (aCons (eV 7) (aCons (eV 12) (aNil)))) (aNil)))))) (sRet (eC (.bl false))) (sNext))))))))) (sRet (eAnd (eOp (eqG false) (eMeth 14 "page" 1 m_Cursor_page (eV 6) aNil) (eV 2)) (eAnd (eOp (isG false) (eMeth 14 "back" 1 m_Cursor_back (eV 6) aNil) (eC (.bl false))) (eOp (eqG false) (eMeth 14 "at" 1 m_Cursor_at (eV 6) aNil) (eTup (aCons (eC (.int 0)) (aCons (eC (.int 0)) (aCons (eC (.int 0)) (aNil)))))))))))))))))
end Dl
/-! ## B14 -/
/-! Places of a page, plain. -/
namespace Dl
open PySem L2
abbrev Pos3 := Nat × Nat × Nat
def encT (t : Pos3) : D := .tup [.int t.1, .int t.2.1, .int t.2.2]
theorem encT_inj {s t : Pos3} (h : encT s = encT t) : s = t := by
  obtain ⟨a, b, c⟩ := s
  obtain ⟨a', b', c'⟩ := t
  simp [encT] at h
  simp; omega
def plsC (p : Page) (k c : Nat) : List Pos3 := (List.range ((cellAt p k c).length + 1)).map fun e => (k, c, e)
def plsR (p : Page) (k n : Nat) : List Pos3 := (List.range n).flatMap (plsC p k)
def plsP (p : Page) (n : Nat) : List Pos3 := (List.range n).flatMap fun k => plsR p k (cellsIn p k)
def plc (p : Page) : List Pos3 := plsP p p.length
def Valid (p : Page) (t : Pos3) : Prop := t.1 < p.length ∧ t.2.1 < cellsIn p t.1 ∧ t.2.2 ≤ (cellAt p t.1 t.2.1).length
theorem plc_mem {p : Page} {t : Pos3} : t ∈ plc p ↔ Valid p t := by
  obtain ⟨a, b, c⟩ := t
  simp only [plc, plsP, plsR, plsC, List.mem_flatMap, List.mem_range, List.mem_map, Valid, Prod.mk.injEq]
  constructor
  · rintro ⟨k, hk, c', hc, e, he, rfl, rfl, rfl⟩
    exact ⟨hk, hc, by omega⟩
  · rintro ⟨h1, h2, h3⟩
    exact ⟨a, h1, b, h2, c, by omega, rfl, rfl, rfl⟩
def goR (p : Page) (t : Pos3) : Pos3 := if t.2.2 < (cellAt p t.1 t.2.1).length then (t.1, t.2.1, t.2.2 + 1) else if t.2.1 + 1 < cellsIn p t.1 then (t.1, t.2.1 + 1, 0) else if t.1 + 1 < p.length then (t.1 + 1, 0, 0) else t
def goL (p : Page) (t : Pos3) : Pos3 := if 0 < t.2.2 then (t.1, t.2.1, t.2.2 - 1) else if 0 < t.2.1 then (t.1, t.2.1 - 1, (cellAt p t.1 (t.2.1 - 1)).length) else if 0 < t.1 then (t.1 - 1, cellsIn p (t.1 - 1) - 1, (cellAt p (t.1 - 1) (cellsIn p (t.1 - 1) - 1)).length) else t
theorem goR_mk (p : Page) (a b c : Nat) : goR p (a, b, c) = if c < (cellAt p a b).length then (a, b, c + 1) else if b + 1 < cellsIn p a then (a, b + 1, 0) else if a + 1 < p.length then (a + 1, 0, 0) else (a, b, c) := rfl
theorem goL_mk (p : Page) (a b c : Nat) : goL p (a, b, c) = if 0 < c then (a, b, c - 1) else if 0 < b then (a, b - 1, (cellAt p a (b - 1)).length) else if 0 < a then (a - 1, cellsIn p (a - 1) - 1, (cellAt p (a - 1) (cellsIn p (a - 1) - 1)).length) else (a, b, c) := rfl
def Nx (p : Page) (x z : Pos3) : Prop := goR p x = z ∧ goL p z = x
def Ch (p : Page) (l : List Pos3) : Prop := ∀ (i : Nat) (x z : Pos3), l[i]? = some x → l[i + 1]? = some z → Nx p x z
theorem ch_app {p : Page} {l1 l2 : List Pos3} (h1 : Ch p l1) (h2 : Ch p l2) (hj : ∀ x z, l1.getLast? = some x → l2.head? = some z → Nx p x z) : Ch p (l1 ++ l2) := fun i x z e1 e2 => by
  by_cases a : i + 1 < l1.length
  · rw [List.getElem?_append_left (by omega)] at e1
    rw [List.getElem?_append_left a] at e2
    exact h1 i x z e1 e2
  · by_cases b : i + 1 = l1.length
    · rw [List.getElem?_append_left (by omega)] at e1
      rw [List.getElem?_append_right (by omega), b, Nat.sub_self] at e2
      refine hj x z ?_ ?_
      · rw [List.getLast?_eq_getElem?, ← b]; exact e1
      · rw [List.head?_eq_getElem?]; exact e2
    · rw [List.getElem?_append_right (by omega)] at e1 e2
      rw [show i + 1 - l1.length = i - l1.length + 1 by omega] at e2
      exact h2 _ x z e1 e2
theorem ch_plsC (p : Page) (k c : Nat) : Ch p (plsC p k c) := fun i x z e1 e2 => by
  unfold plsC at e1 e2
  rw [List.getElem?_map] at e1 e2
  cases h1 : (List.range ((cellAt p k c).length + 1))[i]? with
  | none => rw [h1] at e1; cases e1
  | some v =>
    cases h2 : (List.range ((cellAt p k c).length + 1))[i + 1]? with
    | none => rw [h2] at e2; cases e2
    | some w =>
      rw [h1] at e1
      rw [h2] at e2
      obtain ⟨a1, b1⟩ := List.getElem?_eq_some_iff.mp h1
      obtain ⟨a2, b2⟩ := List.getElem?_eq_some_iff.mp h2
      rw [List.getElem_range] at b1 b2
      rw [List.length_range] at a1 a2
      subst b1 b2
      cases e1
      cases e2
      refine ⟨?_, ?_⟩
      · show goR p (k, c, i) = _
        rw [goR_mk, if_pos (by omega)]
      · show goL p (k, c, i + 1) = _
        rw [goL_mk, if_pos (by omega)]
        rfl
theorem plsC_head (p : Page) (k c : Nat) : (plsC p k c).head? = some (k, c, 0) := by
  unfold plsC
  rw [List.head?_map, List.head?_range, if_neg (by omega)]
  rfl
theorem plsC_last (p : Page) (k c : Nat) : (plsC p k c).getLast? = some (k, c, (cellAt p k c).length) := by
  unfold plsC
  rw [List.getLast?_map, List.getLast?_range, if_neg (by omega)]
  rfl
theorem plsR_succ (p : Page) (k n : Nat) : plsR p k (n + 1) = plsR p k n ++ plsC p k n := by
  unfold plsR
  rw [List.range_succ, List.flatMap_append]
  simp
theorem plsR_head (p : Page) (k : Nat) : ∀ n, (plsR p k (n + 1)).head? = some (k, 0, 0)
  | 0 => by rw [plsR_succ]; exact plsC_head p k 0
  | n + 1 => by rw [plsR_succ, List.head?_append, plsR_head p k n]; rfl
theorem plsR_last (p : Page) (k n : Nat) : (plsR p k (n + 1)).getLast? = some (k, n, (cellAt p k n).length) := by
  rw [plsR_succ, List.getLast?_append, plsC_last]; rfl
theorem ch_plsR (p : Page) (k : Nat) : ∀ n, n ≤ cellsIn p k → Ch p (plsR p k n)
  | 0, _ => fun i x z e1 e2 => by simp [plsR] at e1
  | n + 1, h => by
    rw [plsR_succ]
    refine ch_app (ch_plsR p k n (by omega)) (ch_plsC p k n) fun x z e1 e2 => ?_
    cases n with
    | zero => simp [plsR] at e1
    | succ m =>
      rw [plsR_last] at e1
      rw [plsC_head] at e2
      cases e1
      cases e2
      refine ⟨?_, ?_⟩
      · rw [goR_mk, if_neg (by omega), if_pos (by omega)]
      · rw [goL_mk, if_neg (by omega), if_pos (by omega)]
        rfl
theorem plsP_succ (p : Page) (n : Nat) : plsP p (n + 1) = plsP p n ++ plsR p n (cellsIn p n) := by
  unfold plsP
  rw [List.range_succ, List.flatMap_append]
  simp
section
variable {p : Page} (hp : okPage p = true)
include hp
theorem cellsIn_pos {k : Nat} (hk : k < p.length) : ∃ m, cellsIn p k = m + 1 := ⟨cellsIn p k - 1, by have := (cellsIn_le hp hk).1; omega⟩
theorem plsP_head : ∀ n, n < p.length → (plsP p (n + 1)).head? = some (0, 0, 0)
  | 0, h => by
    obtain ⟨m, e⟩ := cellsIn_pos hp h
    rw [plsP_succ, e]
    exact plsR_head p 0 m
  | n + 1, h => by rw [plsP_succ, List.head?_append, plsP_head n (by omega)]; rfl
theorem plsP_last (n : Nat) (h : n < p.length) : (plsP p (n + 1)).getLast? = some (n, cellsIn p n - 1, (cellAt p n (cellsIn p n - 1)).length) := by
  obtain ⟨m, e⟩ := cellsIn_pos hp h
  rw [plsP_succ, e, List.getLast?_append, plsR_last]; rfl
theorem ch_plsP : ∀ n, n ≤ p.length → Ch p (plsP p n)
  | 0, _ => fun i x z e1 e2 => by simp [plsP] at e1
  | n + 1, h => by
    rw [plsP_succ]
    refine ch_app (ch_plsP n (by omega)) (ch_plsR p n _ (Nat.le_refl _)) fun x z e1 e2 => ?_
    cases n with
    | zero => simp [plsP] at e1
    | succ m =>
      rw [plsP_last hp m (by omega)] at e1
      obtain ⟨m', e⟩ := cellsIn_pos hp (k := m + 1) (by omega)
      obtain ⟨m0, e0⟩ := cellsIn_pos hp (k := m) (by omega)
      rw [e, plsR_head] at e2
      cases e1
      cases e2
      refine ⟨?_, ?_⟩
      · rw [goR_mk, if_neg (by omega), if_neg (by omega), if_pos (by omega)]
      · rw [goL_mk, if_neg (by omega), if_neg (by omega), if_pos (by omega)]
        rfl
theorem plc_zero : (plc p)[0]? = some (0, 0, 0) := by
  obtain ⟨p1, _, _⟩ := okPage_parts hp
  obtain ⟨n, e⟩ : ∃ n, p.length = n + 1 := ⟨p.length - 1, by omega⟩
  unfold plc
  rw [← List.head?_eq_getElem?, e]
  exact plsP_head hp n (by omega)
theorem plc_end : ∃ t, (plc p)[(plc p).length - 1]? = some t ∧ goR p t = t := by
  obtain ⟨p1, _, _⟩ := okPage_parts hp
  obtain ⟨n, e⟩ : ∃ n, p.length = n + 1 := ⟨p.length - 1, by omega⟩
  refine ⟨(n, cellsIn p n - 1, (cellAt p n (cellsIn p n - 1)).length), ?_, ?_⟩
  · rw [← List.getLast?_eq_getElem?]
    unfold plc
    rw [e]
    exact plsP_last hp n (by omega)
  · obtain ⟨m0, e0⟩ := cellsIn_pos hp (k := n) (by omega)
    rw [goR_mk, if_neg (by omega), if_neg (by omega), if_neg (by omega)]
theorem plc_left {j : Nat} {t : Pos3} (h : (plc p)[j]? = some t) : (plc p)[j - 1]? = some (goL p t) := by
  cases j with
  | zero =>
    rw [plc_zero hp] at h
    cases h
    exact plc_zero hp
  | succ j =>
    rw [show j + 1 - 1 = j by omega]
    have hl := (List.getElem?_eq_some_iff.mp h).1
    have e : (plc p)[j]? = some (plc p)[j] := by simp
    rw [(ch_plsP hp p.length (Nat.le_refl _) j _ _ e h).2]
    exact e
theorem plc_right {j : Nat} {t : Pos3} (h : (plc p)[j]? = some t) : (plc p)[min ((plc p).length - 1) (j + 1)]? = some (goR p t) := by
  have hl := (List.getElem?_eq_some_iff.mp h).1
  by_cases z : j + 1 < (plc p).length
  · rw [Nat.min_eq_right (by omega)]
    have e : (plc p)[j + 1]? = some (plc p)[j + 1] := by simp [z]
    rw [(ch_plsP hp p.length (Nat.le_refl _) j _ _ h e).1]
    exact e
  · rw [Nat.min_eq_left (by omega)]
    obtain ⟨u, e1, e2⟩ := plc_end hp
    have : (plc p).length - 1 = j := by omega
    rw [this] at e1 ⊢
    rw [h] at e1
    cases e1
    rw [e2]; exact h
end
/-- those of one row -/
theorem plsC_row {p : Page} {k c : Nat} {t : Pos3} (h : t ∈ plsC p k c) : t.1 = k := by
  unfold plsC at h
  obtain ⟨e, _, rfl⟩ := List.mem_map.mp h; rfl
theorem plsR_row {p : Page} {k n : Nat} {t : Pos3} (h : t ∈ plsR p k n) : t.1 = k := by
  unfold plsR at h
  obtain ⟨c, _, hc⟩ := List.mem_flatMap.mp h
  exact plsC_row hc
theorem plsP_filter (p : Page) (k : Nat) (f : Pos3 → Bool) : ∀ n, (plsP p n).filter (fun t => decide (t.1 = k) && f t) = if k < n then (plsR p k (cellsIn p k)).filter f else []
  | 0 => by simp [plsP]
  | n + 1 => by
    rw [plsP_succ, List.filter_append, plsP_filter p k f n]
    by_cases z : n = k
    · subst z
      rw [if_neg (by omega), if_pos (by omega), List.nil_append]
      refine List.filter_congr fun t ht => ?_
      rw [plsR_row ht]; simp
    · have : (plsR p n (cellsIn p n)).filter (fun t => decide (t.1 = k) && f t) = [] := by
        rw [List.filter_eq_nil_iff]
        intro t ht
        rw [plsR_row ht]
        simp [z]
      rw [this, List.append_nil]
      by_cases w : k < n
      · rw [if_pos w, if_pos (by omega)]
      · rw [if_neg w, if_neg (by omega)]
/-- the last one, or the row's first -/
def lastOr (k : Nat) (f : Pos3 → Bool) (l : List Pos3) : Pos3 := (l.filter f).getLast?.getD (k, 0, 0)
theorem lastOr_snoc (k : Nat) (f : Pos3 → Bool) (l : List Pos3) (t : Pos3) : lastOr k f (l ++ [t]) = if f t = true then t else lastOr k f l := by
  unfold lastOr
  rw [List.filter_append]
  by_cases h : f t = true
  · rw [if_pos h]; simp [h]
  · rw [if_neg h]; simp [h]
theorem lastOr_in {k : Nat} {f : Pos3 → Bool} {l : List Pos3} : lastOr k f l = (k, 0, 0) ∨ lastOr k f l ∈ l := by
  unfold lastOr
  cases h : (l.filter f).getLast? with
  | none => exact .inl rfl
  | some t =>
    right
    have := List.mem_of_getLast? h
    exact (List.mem_filter.mp this).1
end Dl
/-! ## D27 -/
/-! The meanings of some defs (printed by pick.py). -/
namespace Dl
open PySem L2
/-- law_with: 5 slots, 4 parameters -/
def d_law_with : SV := sCons (sAsg (eOp ixG (eV 0) (eV 1)) (gN 4)) (sRet (eOp (addG false) (eOp (addG false) (eSl false (eV 0) (poNone) (poSome (eV 1))) (eLst false (aCons (eOp (addG false) (eOp (addG false) (eSl false (eV 4) (poNone) (poSome (eV 2))) (eTup (aCons (eV 3) (aNil)))) (eSl false (eV 4) (poSome (eOp (addG false) (eV 2) (eC (.int 1)))) (poNone))) (aNil)))) (eSl false (eV 0) (poSome (eOp (addG false) (eV 1) (eC (.int 1)))) (poNone))))
/-- law_of: 5 slots, 4 parameters -/
def d_law_of (m_stretches : FV) : SV := sRet (eOp ixG (eLc false (iSeq (eCall 2 m_stretches (aCons (eV 0) (aCons (eV 1) (aNil))))) [4] (.one 4) (tv (eOp (eqG false) (eSl false (eV 4) (poNone) (poSome (eC (.int 2)))) (eTup (aCons (eV 2) (aCons (eV 3) (aNil)))))) (eV 4)) (eC (.int 0)))
/-- law_longer: 12 slots, 4 parameters -/
def d_law_longer (m_law_of : FV) (m_law_with : FV) : SV := sCons (sAsg (eV 2) (gTp 6 (gsCons (gN 4) (gsCons (gN 5) (gsCons (gN 6) (gsCons (gN 7) (gsCons (gN 8) (gsCons (gN 9) (gsNil))))))))) (sCons (sAsg (eOp ixG (eOp ixG (eV 0) (eV 3)) (eV 4)) (gN 10)) (sCons (sAsg (eCall 4 m_law_of (aCons (eCall 4 m_law_with (aCons (eV 0) (aCons (eV 3) (aCons (eV 4) (aCons (eOp (addG false) (eV 10) (eC (.str [120]))) (aNil)))))) (aCons (eV 1) (aCons (eV 4) (aCons (eV 5) (aNil)))))) (gN 11)) (sRet (eAnd (eOp (eqG false) (eOp ixG (eV 11) (eC (.int 3))) (eB maxG (aCons (eV 7) (aCons (eOp (addG false) (eOp (addG false) (eB lenG (aCons (eV 10) (aNil))) (eC (.int 1))) (eOp ixG (eV 1) (eC (.int 0)))) (aNil))))) (eOp (eqG false) (eSl false (eV 11) (poNone) (poSome (eC (.int 3)))) (eSl false (eV 2) (poNone) (poSome (eC (.int 3)))))))))
/-- law_shorter: 17 slots, 3 parameters -/
def d_law_shorter (m_law_with : FV) (m_law_of : FV) (m_stops : FV) : SV := sCons (sAsg (eV 2) (gTp 6 (gsCons (gN 3) (gsCons (gN 4) (gsCons (gN 5) (gsCons (gN 6) (gsCons (gN 7) (gsCons (gN 8) (gsNil))))))))) (sCons (sAsg (eV 0) (gN 9)) (sCons (sFor (iSeq (eSl false (eV 8) (poSome (eC (.int 1))) (poNone))) (gN 10) (sAsg (eCall 4 m_law_with (aCons (eV 9) (aCons (eV 10) (aCons (eV 3) (aCons (eSl false (eOp ixG (eOp ixG (eV 9) (eV 10)) (eV 3)) (poSome (eC (.int 1))) (poNone)) (aNil)))))) (gN 9))) (sCons (sIf (tv (eOp (eqG true) (eOp ixG (eCall 4 m_law_of (aCons (eV 9) (aCons (eV 1) (aCons (eV 3) (aCons (eV 4) (aNil)))))) (eC (.int 3))) (eV 6))) (sRet (eC (.bl false))) (sNext)) (sCons (sAsg (eCall 4 m_law_with (aCons (eV 9) (aCons (eOp ixG (eV 8) (eC (.int 0))) (aCons (eV 3) (aCons (eSl false (eOp ixG (eOp ixG (eV 9) (eOp ixG (eV 8) (eC (.int 0)))) (eV 3)) (poSome (eC (.int 1))) (poNone)) (aNil)))))) (gN 11)) (sCons (sIf (tv (eOp (eqG true) (eOp ixG (eCall 4 m_law_of (aCons (eV 11) (aCons (eV 1) (aCons (eV 3) (aCons (eV 4) (aNil)))))) (eC (.int 3))) (eOp subG (eV 6) (eC (.int 1))))) (sRet (eC (.bl false))) (sNext)) (sCons (sPar 12 13 (aCons (eCall 2 m_stops (aCons (eV 0) (aCons (eV 1) (aNil)))) (aCons (eCall 2 m_stops (aCons (eV 11) (aCons (eV 1) (aNil)))) (aNil)))) (sCons (sFor (iR2 (aCons (eV 4) (aCons (eV 5) (aNil)))) (gN 10) (sCons (sAsg (eLc false (iEn (aCons (eOp ixG (eV 12) (eV 10)) (aNil))) [15, 16] (.two 15 16) (tYesD) (eOp subG (eV 16) (eB intG (aCons (eOp gtG (eV 15) (eV 3)) (aNil))))) (gN 14)) (sIf (tv (eOp (eqG true) (eOp ixG (eV 13) (eV 10)) (eV 14))) (sRet (eC (.bl false))) (sNext)))) (sRet (eC (.bl true))))))))))
/-- law_k27: 16 slots, 1 parameters -/
def d_law_k27 (m_law_begun : FV) (m_law_page : FV) (m_law_take : FV) (m_law_style : FV) (m_stretches : FV) (m_law_shorter : FV) (m_law_longer : FV) : SV := sCons (sAsg (eCall 1 m_law_begun (aCons (eV 0) (aNil))) (gN 1)) (sCons (sFor (iR1 (aCons (eC (.int 3)) (aNil))) (gN 2) (sCons (sAsg (eTup (aCons (eCall 2 m_law_page (aCons (eV 1) (aCons (eOp ixG (eLst false (aCons (eC (.int 4)) (aCons (eC (.int 12)) (aCons (eC (.int 30)) (aNil))))) (eCall 2 m_law_take (aCons (eV 1) (aCons (eC (.int 3)) (aNil))))) (aNil)))) (aCons (eCall 1 m_law_style (aCons (eV 1) (aNil))) (aNil)))) (gTp 2 (gsCons (gN 3) (gsCons (gN 4) (gsNil))))) (sCons (sAsg (eCall 2 m_stretches (aCons (eV 3) (aCons (eV 4) (aNil)))) (gN 5)) (sIf (tv (eOp (eqG true) (eV 5) (eLst false (aNil)))) (sCons (sAsg (eOp ixG (eV 5) (eCall 2 m_law_take (aCons (eV 1) (aCons (eB lenG (aCons (eV 5) (aNil))) (aNil))))) (gN 6)) (sCons (sAsg (eV 6) (gTp 6 (gsCons (gN 7) (gsCons (gN 8) (gsCons (gN 9) (gsCons (gN 10) (gsCons (gN 11) (gsCons (gN 12) (gsNil))))))))) (sCons (sIf (tAndD (tv (eOp (eqG false) (eV 12) (eLst false (aNil)))) (tv (eOp (eqG true) (eV 10) (eOp ixG (eV 4) (eC (.int 1)))))) (sRet (eC (.bl false))) (sNext)) (sCons (sAsg (eOp (eqG false) (eLc false (iR2 (aCons (eV 8) (aCons (eV 9) (aNil)))) [15] (.one 15) (tv (eOp (eqG true) (eOp ixG (eOp ixG (eV 3) (eV 15)) (eV 7)) (eC (.str [])))) (eV 15)) (eLst false (aNil))) (gN 13)) (sCons (sIf (tAndD (tv (eOp (eqG true) (eV 12) (eLst false (aNil)))) (tAndD (tNotD (tv (eV 13))) (tNotD (tv (eCall 3 m_law_shorter (aCons (eV 3) (aCons (eV 4) (aCons (eV 6) (aNil))))))))) (sRet (eC (.bl false))) (sNext)) (sCons (sAsg (eOp (addG false) (eV 8) (eCall 2 m_law_take (aCons (eV 1) (aCons (eOp subG (eV 9) (eV 8)) (aNil))))) (gN 14)) (sIf (tAndD (tv (eOp ltG (eB lenG (aCons (eOp ixG (eOp ixG (eV 3) (eV 14)) (eV 7)) (aNil))) (eC (.int 10)))) (tNotD (tv (eCall 4 m_law_longer (aCons (eV 3) (aCons (eV 4) (aCons (eV 6) (aCons (eV 14) (aNil))))))))) (sRet (eC (.bl false))) (sNext)))))))) (sNext))))) (sRet (eC (.bl true))))
end Dl
/-! ## D5 -/
/-! The meanings of some defs (printed by pick.py). -/
namespace Dl
open PySem L2
/-- law_others: 12 slots, 3 parameters -/
def d_law_others (m_law_mates : FV) (m_law_take : FV) : SV := sCons (sPar 3 4 (aCons (eDictT) (aCons (eLst true (aNil)) (aNil)))) (sCons (sFor (iR1 (aCons (eB lenG (aCons (eV 1) (aNil))) (aNil))) (gN 5) (sCons (sAsg (eLst true (aCons (eC (.int 0)) (aNil))) (gN 6)) (sCons (sFor (iR1 (aCons (eOp subG (eB lenG (aCons (eOp ixG (eV 1) (eV 5)) (aNil))) (eC (.int 1))) (aNil))) (gN 7) (sCons (sAsg (eCall 3 m_law_mates (aCons (eV 1) (aCons (eV 5) (aCons (eV 7) (aNil))))) (gTp 2 (gsCons (gN 8) (gsCons (gN 9) (gsNil))))) (sCons (sIf (tv (eOp (dinG true) (eTup (aCons (eV 7) (aCons (eV 8) (aNil)))) (eV 3))) (sCons (sAsg (eB maxG (aCons (eOp (addG false) (eLst false (aCons (eOp ixG (eV 2) (eC (.int 1))) (aNil))) (eLc false (iR2 (aCons (eV 8) (aCons (eV 9) (aNil)))) [11] (.one 11) (tYesD) (eOp (addG false) (eB lenG (aCons (eOp ixG (eOp ixG (eV 1) (eV 11)) (eV 7)) (aNil))) (eOp ixG (eV 2) (eC (.int 0)))))) (aNil))) (gN 10)) (sAsg (eOp (addG false) (eV 10) (eOp ixG (eLst false (aCons (eC (.int 0)) (aCons (eC (.int 0)) (aCons (eCall 2 m_law_take (aCons (eV 0) (aCons (eC (.int 9)) (aNil)))) (aNil))))) (eCall 2 m_law_take (aCons (eV 0) (aCons (eC (.int 3)) (aNil)))))) (gSb (eV 3) (eTup (aCons (eV 7) (aCons (eV 8) (aNil)))) dsetG))) (sNext)) (sExpr (eMt "list" (appendG) (eV 6) (aCons (eOp (addG false) (eOp ixG (eV 6) (eNeg (eC (.int 1)))) (eOp dgetG (eV 3) (eTup (aCons (eV 7) (aCons (eV 8) (aNil)))))) (aNil))))))) (sExpr (eMt "list" (appendG) (eV 4) (aCons (eV 6) (aNil))))))) (sRet (eV 4)))
/-- law_k05: 18 slots, 1 parameters -/
def d_law_k05 (m_law_begun : FV) (m_law_page : FV) (m_law_take : FV) (m_law_style : FV) (m_stops : FV) (m_laid : FV) (m_stretches : FV) (m_law_others : FV) : SV := sCons (sAsg (eCall 1 m_law_begun (aCons (eV 0) (aNil))) (gN 1)) (sCons (sFor (iR1 (aCons (eC (.int 3)) (aNil))) (gN 2) (sCons (sPar 3 4 (aCons (eCall 2 m_law_page (aCons (eV 1) (aCons (eOp ixG (eLst false (aCons (eC (.int 6)) (aCons (eC (.int 30)) (aNil)))) (eCall 2 m_law_take (aCons (eV 1) (aCons (eC (.int 2)) (aNil))))) (aNil)))) (aCons (eCall 1 m_law_style (aCons (eV 1) (aNil))) (aNil)))) (sCons (sAsg (eTup (aCons (eCall 2 m_stops (aCons (eV 3) (aCons (eV 4) (aNil)))) (aCons (eCall 2 m_laid (aCons (eV 3) (aCons (eV 4) (aNil)))) (aNil)))) (gTp 2 (gsCons (gN 5) (gsCons (gN 6) (gsNil))))) (sCons (sFor (iSeq (eCall 2 m_stretches (aCons (eV 3) (aCons (eV 4) (aNil))))) (gTp 6 (gsCons (gN 7) (gsCons (gN 8) (gsCons (gN 9) (gsCons (gN 10) (gsCons (gN 11) (gsCons (gN 12) (gsNil)))))))) (sFor (iR2 (aCons (eV 8) (aCons (eV 9) (aNil)))) (gN 13) (sCons (sIf (tv (eOp (eqG true) (eOp subG (eOp ixG (eOp ixG (eV 5) (eV 13)) (eOp (addG false) (eV 7) (eC (.int 1)))) (eOp ixG (eOp ixG (eV 5) (eV 13)) (eV 7))) (eV 10))) (sRet (eC (.bl false))) (sNext)) (sCons (sAsg (eOp (addG false) (eOp ixG (eOp ixG (eV 6) (eV 13)) (eV 7)) (eB lenG (aCons (eOp ixG (eOp ixG (eV 3) (eV 13)) (eV 7)) (aNil)))) (gN 14)) (sCons (sIf (tAndD (tv (eV 11)) (tv (eOp (eqG true) (eOp (addG false) (eV 14) (eOp ixG (eV 4) (eC (.int 0)))) (eOp ixG (eOp ixG (eV 5) (eV 13)) (eOp (addG false) (eV 7) (eC (.int 1))))))) (sRet (eC (.bl false))) (sNext)) (sIf (tAndD (tNotD (tv (eV 11))) (tv (eOp (eqG true) (eOp ixG (eOp ixG (eV 6) (eV 13)) (eV 7)) (eOp ixG (eOp ixG (eV 5) (eV 13)) (eV 7))))) (sRet (eC (.bl false))) (sNext))))))) (sCons (sFor (iR1 (aCons (eB lenG (aCons (eV 3) (aNil))) (aNil))) (gN 13) (sCons (sAsg (eOp ixG (eV 3) (eV 13)) (gN 15)) (sCons (sIf (tOrD (tv (eOp (eqG true) (eOp ixG (eOp ixG (eV 5) (eV 13)) (eC (.int 0))) (eC (.int 0)))) (tv (eOp (eqG true) (eOp ixG (eOp ixG (eV 6) (eV 13)) (eNeg (eC (.int 1)))) (eOp ixG (eOp ixG (eV 5) (eV 13)) (eNeg (eC (.int 1))))))) (sRet (eC (.bl false))) (sNext)) (sFor (iR1 (aCons (eOp subG (eB lenG (aCons (eV 15) (aNil))) (eC (.int 1))) (aNil))) (gN 7) (sCons (sIf (tNotD (tv (eOp leG (eOp ixG (eOp ixG (eV 5) (eV 13)) (eV 7)) (eOp ixG (eOp ixG (eV 6) (eV 13)) (eV 7))))) (sRet (eC (.bl false))) (sNext)) (sCons (sAsg (eOp (addG false) (eOp ixG (eOp ixG (eV 6) (eV 13)) (eV 7)) (eB lenG (aCons (eOp ixG (eV 15) (eV 7)) (aNil)))) (gN 14)) (sIf (tv (eOp gtG (eOp (addG false) (eV 14) (eOp ixG (eV 4) (eC (.int 0)))) (eOp ixG (eOp ixG (eV 5) (eV 13)) (eOp (addG false) (eV 7) (eC (.int 1)))))) (sRet (eC (.bl false))) (sNext)))))))) (sCons (sAsg (eCall 3 m_law_others (aCons (eV 1) (aCons (eV 3) (aCons (eV 4) (aNil))))) (gN 16)) (sFor (iR1 (aCons (eB lenG (aCons (eV 3) (aNil))) (aNil))) (gN 13) (sIf (tv (eOp (eqG true) (eLc false (iR1 (aCons (eB lenG (aCons (eOp ixG (eV 3) (eV 13)) (aNil))) (aNil))) [17] (.one 17) (tv (eOp ltG (eOp ixG (eOp ixG (eV 16) (eV 13)) (eV 17)) (eOp ixG (eOp ixG (eV 5) (eV 13)) (eV 17)))) (eV 17)) (eLst false (aNil)))) (sRet (eC (.bl false))) (sNext))))))))) (sRet (eC (.bl true))))
end Dl
/-! ## B15 -/
/-! Law k05: other widths. -/
namespace Dl
open PySem L2
/-- a list of rows of numbers stands at n -/
def Lays (Z : Store) (n : Nat) (p : Page) (f : Nat → Nat → Int) : Prop := Z[n]? = some (.lst (refs (n + 1) p.length)) ∧ ∀ k, k < p.length → Z[n + 1 + k]? = some (.lst (rowI p f k))
theorem lays_of (B : Store) (p : Page) (f : Nat → Nat → Int) : Lays (layS B p f) B.length p f := ⟨lay_found, fun k hk => lay_row hk⟩
theorem Lays.stays {Z Z' : Store} {n : Nat} {p : Page} {f : Nat → Nat → Int} (h : Lays Z n p f) (s : Stays Z Z') : Lays Z' n p f := ⟨s _ _ h.1, fun k hk => s _ _ (h.2 k hk)⟩
theorem bx_at {b b' : Box} {Z m : Store} {k : Nat} {o : Ob} (h : (Bx b Z)[k]? = some o) (hk : 2 ≤ k) : (Bx b' (Z ++ m))[k]? = some o := by
  obtain ⟨j, rfl⟩ : ∃ j, k = j + 2 := ⟨k - 2, by omega⟩
  rw [Bx_get] at h ⊢
  exact get_app h
theorem Lays.bx {b b' : Box} {Z m : Store} {n : Nat} {p : Page} {f : Nat → Nat → Int} (h : Lays (Bx b Z) n p f) (hn : 2 ≤ n) : Lays (Bx b' (Z ++ m)) n p f := ⟨bx_at h.1 hn, fun k hk => bx_at (h.2 k hk) (by omega)⟩
theorem Lays.ixF {Z : Store} {n : Nat} {p : Page} {f : Nat → Nat → Int} (h : Lays Z n p f) {k : Nat} (hk : k < p.length) : ixG Z (.ref n) (.int k) = .ok (.ref (n + 1 + k), Z) := by
  have : lstOf Z (.ref n) = some (refs (n + 1) p.length) := by simp only [lstOf, h.1]
  simp only [ixG, this, atI_nat, refs_get hk]
  rfl
theorem Lays.ixR {Z : Store} {n : Nat} {p : Page} {f : Nat → Nat → Int} (h : Lays Z n p f) {k c : Nat} (hk : k < p.length) (hc : c < cellsIn p k) : ixG Z (.ref (n + 1 + k)) (.int c) = .ok (.int (f k c), Z) := by
  have : lstOf Z (.ref (n + 1 + k)) = some (rowI p f k) := by simp only [lstOf, h.2 k hk]
  simp only [ixG, this, atI_nat, rowI_at f hc]
  rfl
theorem Lays.ixL {Z : Store} {n : Nat} {p : Page} {f : Nat → Nat → Int} (h : Lays Z n p f) {k : Nat} (hk : k < p.length) (hc : 1 ≤ cellsIn p k) : ixG Z (.ref (n + 1 + k)) (.int (-1)) = .ok (.int (f k (cellsIn p k - 1)), Z) := by
  have : lstOf Z (.ref (n + 1 + k)) = some (rowI p f k) := by simp only [lstOf, h.2 k hk]
  have e2 : atI (rowI p f k) (-1) = some (.int (f k (cellsIn p k - 1))) := by
    obtain ⟨m, hm⟩ : ∃ m, cellsIn p k = m + 1 := ⟨cellsIn p k - 1, by omega⟩
    unfold rowI
    rw [hm, List.range_succ, List.map_append, List.map_append]
    exact atI_last _ _
  simp only [ixG, this, e2]
  rfl
/-- how wide the stretch of a column that begins at b has to be -/
def wB (p : Page) (y : Sty) (c b : Nat) : Int := wid y (cellsOf p (sttOf p c b))
theorem wAt_wB (p : Page) (y : Sty) (k c : Nat) : wAt p y k c = wB p y c (begOf p c k) := rfl
def OkW (p : Page) (y : Sty) (kvs : List (List L2.Key × D)) : Prop := ∀ (c b : Nat) (v : D), valK kvs (kkc c b) = some v → ∃ i : Int, v = .int i ∧ wB p y c b ≤ i
theorem okW_put {p : Page} {y : Sty} {kvs : List (List L2.Key × D)} (h : OkW p y kvs) {c b : Nat} {i : Int} (hi : wB p y c b ≤ i) : OkW p y (putKD kvs (kkc c b) (.int i)) := fun c' b' v hv => by
  rw [valK_put] at hv
  by_cases z : kkc c' b' = kkc c b
  · rw [if_pos z] at hv
    obtain ⟨rfl, rfl⟩ := kkc_inj.mp z
    cases hv
    exact ⟨i, rfl, hi⟩
  · rw [if_neg z] at hv
    exact h c' b' v hv
theorem need_wide {p : Page} (hp : okPage p = true) {d : D} {w : List (Nat × List D)} {st : Store} (hd : listOf st d = some (encP p, w)) (y : Sty) {c k : Nat} (hk : clo p c k = true) (a0 a3 a4 a5 a6 a10 : Option D) :
    (sAsg (eB maxG (aCons (eOp (addG false) (eLst false (aCons (eOp ixG (eV 2) (eC (.int 1))) (aNil))) (eLc false (iR2 (aCons (eV 8) (aCons (eV 9) (aNil)))) [11] (.one 11) (tYesD) (eOp (addG false) (eB lenG (aCons (eOp ixG (eOp ixG (eV 1) (eV 11)) (eV 7)) (aNil))) (eOp ixG (eV 2) (eC (.int 0)))))) (aNil))) (gN 10))
      [a0, some d, some y.enc, a3, a4, a5, a6, some (.int c), some (.int (begOf p c k)), some (.int (endOf p c (k + 1))), a10, none] st
    = .nx [a0, some d, some y.enc, a3, a4, a5, a6, some (.int c), some (.int (begOf p c k)), some (.int (endOf p c (k + 1))), some (.int (wAt p y k c)), none] st := by
  obtain ⟨p1, p2, p3⟩ := okPage_parts hp
  have hlt : k < p.length := by
    obtain ⟨r, hr, _⟩ := clo_row hk
    exact (List.getElem?_eq_some_iff.mp hr).1
  have eo := endOf_ok (p := p) (c := c) (k := k + 1) (by omega)
  have bl := begOf_le p c k
  have ra := run_all hk
  have ew : wAt p y k c = wid y (cellsBE p c (begOf p c k) (endOf p c (k + 1))) := by unfold wAt; rw [cellsOf_at hk]
  rw [ew]
  generalize begOf p c k = b at bl ra ⊢
  generalize endOf p c (k + 1) = e at eo ra ⊢
  have mb : (-1000000 ≤ (b : Int) ∧ (b : Int) ≤ 1000000) ∧ -1000000 ≤ (e : Int) ∧ (e : Int) ≤ 1000000 := by omega
  have en : ((e : Int) - (b : Int)).toNat = e - b := by omega
  have hl : e - b ≤ LIM := le_LIM (by omega)
  have l1 := lc_cells (p := p) (sub := []) (j := 11) (te := eOp (addG false) (eB lenG (aCons (eOp ixG (eOp ixG (eV 1) (eV 11)) (eV 7)) (aNil))) (eOp ixG (eV 2) (eC (.int 0)))) (env := [a0, some d, some y.enc, a3, a4, a5, a6, some (.int c), some (.int b), some (.int e), a10, none]) (st := st) rfl (c := c) (b := b) (e := e) (fun s => .int ((s.length : Int) + y.g)) (fun j h1 h2 => by
    obtain ⟨R', i1, i2⟩ := cell_ix hd (ra j h1 h2)
    simp [i1, i2, addG])
  have ne : (cellsBE p c b e) ≠ [] := fun z => by
    have := congrArg List.length z
    simp [cellsBE] at this
    omega
  have ne2 : (cellsBE p c b e).map (fun s => (s.length : Int)) ≠ [] := by simpa using ne
  have em : maxG st [.lst (D.int y.l :: (cellsBE p c b e).map (fun s => D.int ((s.length : Int) + y.g)))] = .ok (.int (wid y (cellsBE p c b e)), st) := by
    have e1 : (D.int y.l :: (cellsBE p c b e).map (fun s => D.int ((s.length : Int) + y.g))) = (y.l :: ((cellsBE p c b e).map (fun s => (s.length : Int))).map fun x => x + y.g).map D.int := by
      simp [Function.comp_def]
    rw [e1]
    unfold maxG
    simp only [lstOf, Option.bind_some, intsOf_map]
    rw [if_pos (by simp), maxL_cons _ (by simpa using ne), maxL_add _ ne2]
    rfl
  have hl2 : (cellsBE p c b e).length + 1 ≤ LIM := le_LIM (by simp [cellsBE]; omega)
  simp [mb, en, hl, l1, addG, lstOf, em, Nat.add_comm 1, hl2]
def m_law_others : FV := funD 12 (d_law_others m_law_mates m_law_take)
/-- the store while a row is made -/
def othS (Z G : Store) (T : List D) (b : Box) (q : List (List L2.Key × D)) (x : List Int) : Store := Bx b (Z ++ .dT q :: .lst T :: (G ++ [.lst (x.map .int)]))
theorem oth_take (Z G : Store) (T : List D) (b : Box) (q : List (List L2.Key × D)) (x : List Int) (n : Int) (h : 0 < n) (hn : n < 18446744073709551616) : m_law_take [.ref 1, .int n] (othS Z G T b q x) = .ok (.int (tk b n).1, othS Z G T (tk b n).2 q x) := take_eq _ _ _ h hn
/-- one cell's turn: the width is looked up, or drawn -/
theorem other_turn {p : Page} (hp : okPage p = true) {y : Sty} {d : D} {w : List (Nat × List D)} {b : Box} {Z : Store} {kvs : List (List L2.Key × D)} {l : List Int} {i j n m : Nat} (hd : ∀ b' m', listOf (Bx b' (Z ++ m')) d = some (encP p, w)) (hn : n = Z.length + 2)
    {T : List D} {G : Store} (hm : m = n + 2 + G.length) (hk : clo p j i = true) (hw : OkW p y kvs) (hl : kvs.length < 500) (hl2 : l.length < 10) (a : Int) (a8 a9 a10 : Option D) :
    ∃ b' kvs' v a10', (sCons (sAsg (eCall 3 m_law_mates (aCons (eV 1) (aCons (eV 5) (aCons (eV 7) (aNil))))) (gTp 2 (gsCons (gN 8) (gsCons (gN 9) (gsNil))))) (sCons (sIf (tv (eOp (dinG true) (eTup (aCons (eV 7) (aCons (eV 8) (aNil)))) (eV 3))) (sCons (sAsg (eB maxG (aCons (eOp (addG false) (eLst false (aCons (eOp ixG (eV 2) (eC (.int 1))) (aNil))) (eLc false (iR2 (aCons (eV 8) (aCons (eV 9) (aNil)))) [11] (.one 11) (tYesD) (eOp (addG false) (eB lenG (aCons (eOp ixG (eOp ixG (eV 1) (eV 11)) (eV 7)) (aNil))) (eOp ixG (eV 2) (eC (.int 0)))))) (aNil))) (gN 10)) (sAsg (eOp (addG false) (eV 10) (eOp ixG (eLst false (aCons (eC (.int 0)) (aCons (eC (.int 0)) (aCons (eCall 2 m_law_take (aCons (eV 0) (aCons (eC (.int 9)) (aNil)))) (aNil))))) (eCall 2 m_law_take (aCons (eV 0) (aCons (eC (.int 3)) (aNil)))))) (gSb (eV 3) (eTup (aCons (eV 7) (aCons (eV 8) (aNil)))) dsetG))) (sNext)) (sExpr (eMt "list" (appendG) (eV 6) (aCons (eOp (addG false) (eOp ixG (eV 6) (eNeg (eC (.int 1)))) (eOp dgetG (eV 3) (eTup (aCons (eV 7) (aCons (eV 8) (aNil)))))) (aNil))))))
        [some (.ref 1), some d, some y.enc, some (.ref n), some (.ref (n + 1)), some (.int i), some (.ref m), some (.int j), a8, a9, a10, none] (othS Z G T b kvs (l ++ [a]))
      = .nx [some (.ref 1), some d, some y.enc, some (.ref n), some (.ref (n + 1)), some (.int i), some (.ref m), some (.int j), some (.int (begOf p j i)), some (.int (endOf p j (i + 1))), a10', none] (othS Z G T b' kvs' (l ++ [a, a + v]))
      ∧ OkW p y kvs' ∧ kvs'.length ≤ kvs.length + 1 ∧ wAt p y i j ≤ v := by
  have hlt : i < p.length := by
    obtain ⟨r, hr, _⟩ := clo_row hk
    exact (List.getElem?_eq_some_iff.mp hr).1
  have mt : m_law_mates [d, .int i, .int j] (othS Z G T b kvs (l ++ [a])) = .ok (.tup [.int (begOf p j i), .int (endOf p j (i + 1))], othS Z G T b kvs (l ++ [a])) := by
    have hS : listOf (othS Z G T b kvs (l ++ [a])) d = some (encP p, w) := by unfold othS; exact hd _ _
    exact mates_ok hp hS j i hlt
  have dN : ∀ (b : Box) (q : List (List L2.Key × D)) (x : List Int), (othS Z G T b q x)[n]? = some (.dT q) := fun b q x => by
    unfold othS; rw [hn, Bx_get]; simp
  have dM : ∀ (b : Box) (q : List (List L2.Key × D)) (x : List Int), (othS Z G T b q x)[m]? = some (.lst (x.map .int)) := fun b q x => by
    unfold othS; rw [hm, hn, show Z.length + 2 + 2 + G.length = (Z.length + 2 + G.length) + 2 by omega, Bx_get, List.getElem?_append_right (by omega), show Z.length + 2 + G.length - Z.length = G.length + 1 + 1 by omega]
    simp
  have ek : kkc j (begOf p j i) = [Sum.inl (j : Int), Sum.inl (begOf p j i : Int)] := rfl
  have tail : ∀ (b' : Box) (q : List (List L2.Key × D)) (v : Int), valK q (kkc j (begOf p j i)) = some (.int v) → ∀ a10,
      (sExpr (eMt "list" (appendG) (eV 6) (aCons (eOp (addG false) (eOp ixG (eV 6) (eNeg (eC (.int 1)))) (eOp dgetG (eV 3) (eTup (aCons (eV 7) (aCons (eV 8) (aNil)))))) (aNil))))
        [some (.ref 1), some d, some y.enc, some (.ref n), some (.ref (n + 1)), some (.int i), some (.ref m), some (.int j), some (.int (begOf p j i)), some (.int (endOf p j (i + 1))), a10, none] (othS Z G T b' q (l ++ [a]))
      = .nx [some (.ref 1), some d, some y.enc, some (.ref n), some (.ref (n + 1)), some (.int i), some (.ref m), some (.int j), some (.int (begOf p j i)), some (.int (endOf p j (i + 1))), a10, none] (othS Z G T b' q (l ++ [a, a + v])) := fun b' q v hv a10 => by
    have x1 : ixG (othS Z G T b' q (l ++ [a])) (.ref m) (.int (-1)) = .ok (.int a, (othS Z G T b' q (l ++ [a]))) := by
      have e : lstOf (othS Z G T b' q (l ++ [a])) (.ref m) = some ((l ++ [a]).map .int) := by simp only [lstOf, dM]
      have e2 : atI ((l ++ [a]).map D.int) (-1) = some (.int a) := by rw [List.map_append]; exact atI_last _ _
      simp only [ixG, e, e2]
      rfl
    have x2 : dgetG (othS Z G T b' q (l ++ [a])) (.ref n) (.tup [.int j, .int (begOf p j i)]) = .ok (.int v, (othS Z G T b' q (l ++ [a]))) := by
      have e3 : dvalG (othS Z G T b' q (l ++ [a])) (.ref n) (.tup [.int j, .int (begOf p j i)]) = some (some (.int v)) := by
        simp only [dvalG, dN, keysOf_int, keysOf_nil, Option.map_some]
        rw [← ek, hv]
      simp only [dgetG, e3]
    have tm : tyM (othS Z G T b' q (l ++ [a])) (.ref m) = some "list" := by simp only [tyM, dM]
    have ll : ((l ++ [a]).map D.int).length < LIM := lt_LIM (by simp; omega)
    have ap : appendG (othS Z G T b' q (l ++ [a])) (.ref m) [.int (a + v)] = .ok (.non, othS Z G T b' q (l ++ [a, a + v])) := by
      simp only [appendG, dM, ll, if_true]
      refine congrArg (fun s => R.ok (D.non, s)) ?_
      unfold othS; rw [hm, hn, show Z.length + 2 + 2 + G.length = (Z.length + 2 + G.length) + 2 by omega, Bx_set, List.set_append_right _ _ (by omega), show Z.length + 2 + G.length - Z.length = G.length + 1 + 1 by omega]
      simp
    simp [x1, x2, tm, ap, addG]
  cases hv : valK kvs (kkc j (begOf p j i)) with
  | some v =>
    obtain ⟨v, rfl, hv2⟩ := hw _ _ _ hv
    have di : dinG true (othS Z G T b kvs (l ++ [a])) (.tup [.int j, .int (begOf p j i)]) (.ref n) = .ok (.bl false, (othS Z G T b kvs (l ++ [a]))) := by
      have e3 : dvalG (othS Z G T b kvs (l ++ [a])) (.ref n) (.tup [.int j, .int (begOf p j i)]) = some (some (.int v)) := by
        simp only [dvalG, dN, keysOf_int, keysOf_nil, Option.map_some]
        rw [← ek, hv]
      simp [dinG, e3]
    have tl := tail b kvs v hv a10
    refine ⟨b, kvs, v, a10, ?_, hw, by omega, hv2⟩
    generalize (sExpr (eMt "list" (appendG) (eV 6) (aCons (eOp (addG false) (eOp ixG (eV 6) (eNeg (eC (.int 1)))) (eOp dgetG (eV 3) (eTup (aCons (eV 7) (aCons (eV 8) (aNil)))))) (aNil)))) = last at tl ⊢
    simp [mt, di, tl]
  | none =>
    have di : dinG true (othS Z G T b kvs (l ++ [a])) (.tup [.int j, .int (begOf p j i)]) (.ref n) = .ok (.bl true, (othS Z G T b kvs (l ++ [a]))) := by
      have e3 : dvalG (othS Z G T b kvs (l ++ [a])) (.ref n) (.tup [.int j, .int (begOf p j i)]) = some none := by
        simp only [dvalG, dN, keysOf_int, keysOf_nil, Option.map_some]
        rw [← ek, hv]
      simp [dinG, e3]
    have hS : listOf (othS Z G T b kvs (l ++ [a])) d = some (encP p, w) := by unfold othS; exact hd _ _
    have nw := need_wide hp hS y hk (some (.ref 1)) (some (.ref n)) (some (.ref (n + 1))) (some (.int i)) (some (.ref m)) a10
    have t0 := tk_lo b (n := 9) (by decide)
    have t1 := tk_lo (tk b 9).2 (n := 3) (by decide)
    have t2 := tk_hi (tk b 9).2 (n := 3) (by decide)
    obtain ⟨x, ex, mx⟩ := atI_mem (l := [D.int 0, D.int 0, D.int (tk b 9).1]) (i := (tk (tk b 9).2 3).1) t1 t2
    have hx : ∃ u : Int, x = .int u ∧ 0 ≤ u := by
      simp at mx
      rcases mx with rfl | rfl <;> exact ⟨_, rfl, by omega⟩
    obtain ⟨u, rfl, hu⟩ := hx
    obtain ⟨b', hb'⟩ : ∃ b', b' = (tk (tk b 9).2 3).2 := ⟨_, rfl⟩
    have hv' : valK (putKD kvs (kkc j (begOf p j i)) (.int (wAt p y i j + u))) (kkc j (begOf p j i)) = some (.int (wAt p y i j + u)) := by rw [valK_put, if_pos rfl]
    have ll : kvs.length < LIM := lt_LIM (by omega)
    have ds : dsetG (othS Z G T b' kvs (l ++ [a])) (.ref n) (.tup [.int j, .int (begOf p j i)]) (.int (wAt p y i j + u)) = some (othS Z G T b' (putKD kvs (kkc j (begOf p j i)) (.int (wAt p y i j + u))) (l ++ [a])) := by
      simp only [dsetG, dN, keysOf_int, keysOf_nil, Option.map_some, ll, if_true]
      unfold othS; rw [← ek, hn, Bx_set]
      simp
    have tl := tail b' (putKD kvs (kkc j (begOf p j i)) (.int (wAt p y i j + u))) (wAt p y i j + u) hv' (some (.int (wAt p y i j)))
    refine ⟨b', putKD kvs (kkc j (begOf p j i)) (.int (wAt p y i j + u)), wAt p y i j + u, some (.int (wAt p y i j)), ?_, okW_put hw (by rw [wAt_wB]; omega), putKD_len _ _ _, by omega⟩
    generalize (sExpr (eMt "list" (appendG) (eV 6) (aCons (eOp (addG false) (eOp ixG (eV 6) (eNeg (eC (.int 1)))) (eOp dgetG (eV 3) (eTup (aCons (eV 7) (aCons (eV 8) (aNil)))))) (aNil)))) = last at tl ⊢
    generalize (sAsg (eB maxG (aCons (eOp (addG false) (eLst false (aCons (eOp ixG (eV 2) (eC (.int 1))) (aNil))) (eLc false (iR2 (aCons (eV 8) (aCons (eV 9) (aNil)))) [11] (.one 11) (tYesD) (eOp (addG false) (eB lenG (aCons (eOp ixG (eOp ixG (eV 1) (eV 11)) (eV 7)) (aNil))) (eOp ixG (eV 2) (eC (.int 0)))))) (aNil))) (gN 10)) = needA at nw ⊢
    simp [mt, di, nw, oth_take, ex, addG, gSb, ← hb', ds, tl]
end Dl
/-! ## B15b -/
/-! Law k05: left ends by other widths. -/
namespace Dl
open PySem L2
theorem gridS_take {p : Page} {f g : Nat → Nat → Int} {i : Nat} (h : ∀ k c, k < i → c < cellsIn p k → f k c = g k c) : (gridS p f).take i = (gridS p g).take i := by
  refine List.ext_getElem? fun j => ?_
  rw [List.getElem?_take, List.getElem?_take]
  by_cases hj : j < i
  · rw [if_pos hj, if_pos hj]
    by_cases hp : j < p.length
    · rw [gridS_at _ hp, gridS_at _ hp, rowI_congr fun c hc => h j c hj hc]
    · rw [List.getElem?_eq_none (by simp; omega), List.getElem?_eq_none (by simp; omega)]
  · rw [if_neg hj, if_neg hj]
theorem range_get (x : List Int) : (List.range x.length).map (fun c => x.getD c 0) = x := by
  refine List.ext_getElem? fun j => ?_
  by_cases hj : j < x.length
  · simp [hj]
  · rw [List.getElem?_eq_none (by simp; omega), List.getElem?_eq_none (by omega)]
theorem others_ok {p : Page} (hp : okPage p = true) (y : Sty) {d : D} {w : List (Nat × List D)} {b : Box} {Z : Store} (hd : ∀ b' m', listOf (Bx b' (Z ++ m')) d = some (encP p, w)) :
    ∃ b' kvs g, m_law_others [.ref 1, d, y.enc] (Bx b Z) = .ok (.ref (Z.length + 3), Bx b' (Z ++ .dT kvs :: .lst (refs (Z.length + 4) p.length) :: gridS p g)) ∧ ∀ k c, k < p.length → c < cellsIn p k → sumW p y k c ≤ g k c := by
  rw [m_law_others, funD, d_law_others]
  obtain ⟨p1, p2, p3⟩ := okPage_parts hp
  have ln := fun b' m' => len_list (hd b' m')
  have m1 : -1000000 ≤ (p.length : Int) ∧ (p.length : Int) ≤ 1000000 := by omega
  simp [ln, m1]
  generalize q : forGo _ _ _ _ _ _ = r
  obtain ⟨e, s, rfl, b', kvs, g, a5, a6, a7, a8, a9, a10, rfl, rfl, _, _, hg⟩ := for_at q (fun i env st' => ∃ b kvs g a5 a6 a7 a8 a9 a10, st' = Bx b (Z ++ .dT kvs :: .lst (refs (Z.length + 4) i) :: (gridS p g).take i) ∧ env = [some (.ref 1), some d, some y.enc, some (.ref (Z.length + 2)), some (.ref (Z.length + 3)), a5, a6, a7, a8, a9, a10, none] ∧ OkW p y kvs ∧ kvs.length ≤ 6 * i ∧ ∀ k c, k < i → c < cellsIn p k → sumW p y k c ≤ g k c)
    ⟨b, [], fun _ _ => 0, _, _, _, _, _, _, by simp [refs], rfl, fun c b' v hv => (by cases hv), by simp, fun k c h => by omega⟩ (fun _ _ _ _ _ => rfl) (fun i x env st' hi ⟨b, kvs, g, a5, a6, a7, a8, a9, a10, e1, e2, hw, hl, hg⟩ => by
      obtain ⟨hi2, rfl⟩ := ints_get hi
      have er : p[i]? = some p[i] := by simp [hi2]
      have ci := cellsIn_row er
      have cl := cellsIn_le hp hi2
      have hdS : listOf st' d = some (encP p, w) := by rw [e1]; exact hd _ _
      have ix1 : ixG st' d (.int i) = .ok (encR p[i], st') := by
        rw [ix_list hdS, atI_nat]; simp [encP, hi2]
      have Gl : ((gridS p g).take i).length = i := by simp; omega
      have ix1' : ∀ S, listOf S d = some (encP p, w) → ixG S d (.int i) = .ok (encR p[i], S) := fun S hS => by
        rw [ix_list hS, atI_nat]; simp [encP, hi2]
      have sl : st'.length = Z.length + 4 + i := by rw [e1]; simp; omega
      have e1' : st' ++ [Ob.lst [D.int 0]] = othS Z ((gridS p g).take i) (refs (Z.length + 4) i) b kvs [0] := by rw [e1]; unfold othS; simp
      have hS0 : listOf (st' ++ [Ob.lst [D.int 0]]) d = some (encP p, w) := by rw [e1']; unfold othS; exact hd _ _
      have ix2 := ix1' _ hS0
      have m1 : -1000000 ≤ (p[i].length : Int) - 1 ∧ (p[i].length : Int) - 1 ≤ 1000000 := by omega
      have tn : ((p[i].length : Int) - 1).toNat = p[i].length - 1 := by omega
      subst e2
      simp [ix2, subG, m1, tn]
      rw [sl, e1']
      generalize q : forGo _ _ _ _ _ _ = r'
      obtain ⟨e, s, rfl, b2, kvs2, l, a, a7', a8', a9', a10', rfl, rfl, hll, hx, hw2, hl2⟩ := for_at q (fun j env st'' => ∃ (b : Box) (kvs : List (List L2.Key × D)) (l : List Int) (a : Int) (a7 a8 a9 a10 : Option D), st'' = othS Z ((gridS p g).take i) (refs (Z.length + 4) i) b kvs (l ++ [a]) ∧ env = [some (.ref 1), some d, some y.enc, some (.ref (Z.length + 2)), some (.ref (Z.length + 3)), some (.int i), some (.ref (Z.length + 4 + i)), a7, a8, a9, a10, none] ∧ l.length = j ∧ (∀ c v, (l ++ [a])[c]? = some v → sumW p y i c ≤ v) ∧ OkW p y kvs ∧ kvs.length ≤ 6 * i + j)
        ⟨b, kvs, [], 0, _, _, _, _, rfl, rfl, rfl, fun c v hv => by
          cases c with
          | zero => cases hv; exact Int.le_refl _
          | succ c => simp at hv, hw, by omega⟩ (fun _ _ _ _ _ => rfl) (fun j x env st'' hj ⟨b, kvs, l, a, a7, a8, a9, a10, e1, e2, h1, h2, h3, h4⟩ => by
          obtain ⟨hj2, rfl⟩ := ints_get hj
          subst e1 e2
          have hcl : clo p j i = true := by rw [clo_cells hi2, ci]; exact decide_eq_true (by omega)
          obtain ⟨b', kvs', v, a10', t1, t2, t3, t4⟩ := other_turn hp (y := y) (b := b) (Z := Z) (kvs := kvs) (l := l) (i := i) (j := j) (n := Z.length + 2) (m := Z.length + 4 + i) hd rfl (T := refs (Z.length + 4) i) (G := (gridS p g).take i) (by rw [Gl]) hcl h3 (by omega) (by omega) a a8 a9 a10
          refine turn_eq t1 ⟨b', kvs', l ++ [a], a + v, _, _, _, _, by rw [List.append_assoc]; rfl, rfl, by simp [h1], fun c u hu => ?_, t2, by omega⟩
          by_cases hc : c < (l ++ [a]).length
          · rw [List.getElem?_append_left hc] at hu
            exact h2 c u hu
          · have hlen := (List.getElem?_eq_some_iff.mp hu).1
            simp only [List.length_append, List.length_cons, List.length_nil] at hlen hc
            have : c = j + 1 := by omega
            subst this
            have hu' : u = a + v := by
              have : ((l ++ [a]) ++ [a + v])[j + 1]? = some (a + v) := by
                rw [List.getElem?_append_right (by simp [h1])]
                simp [h1]
              rw [this] at hu; exact (Option.some.inj hu).symm
            have ha : sumW p y i j ≤ a := h2 j a (by rw [List.getElem?_append_right (by omega)]; simp [h1])
            rw [hu']
            simp only [sumW]
            omega)
      rw [intsD_len] at hll hl2
      have xl : (l ++ [a]).length = cellsIn p i := by simp [hll]; omega
      obtain ⟨x, hxx⟩ : ∃ x, x = l ++ [a] := ⟨_, rfl⟩
      rw [← hxx] at xl hx ⊢
      have gF : (othS Z ((gridS p g).take i) (refs (Z.length + 4) i) b2 kvs2 x)[Z.length + 3]? = some (.lst (refs (Z.length + 4) i)) := by
        unfold othS
        rw [show Z.length + 3 = (Z.length + 1) + 2 by omega, Bx_get, List.getElem?_append_right (by omega), show Z.length + 1 - Z.length = 1 by omega]
        rfl
      have tm : tyM (othS Z ((gridS p g).take i) (refs (Z.length + 4) i) b2 kvs2 x) (.ref (Z.length + 3)) = some "list" := by simp only [tyM, gF]
      have ll : i < LIM := lt_LIM (by omega)
      have g1 : (gridS p (fun k c => if k = i then x.getD c 0 else g k c)).take (i + 1) = (gridS p g).take i ++ [.lst (x.map .int)] := by
        rw [take_snoc (gridS_at _ hi2)]
        congr 1
        · exact gridS_take fun k c hk _ => by rw [if_neg (by omega)]
        · congr 2
          unfold rowI
          simp only [if_true]
          rw [← xl, range_get]
      have ap : appendG (othS Z ((gridS p g).take i) (refs (Z.length + 4) i) b2 kvs2 x) (.ref (Z.length + 3)) [.ref (Z.length + 4 + i)] = .ok (.non, Bx b2 (Z ++ .dT kvs2 :: .lst (refs (Z.length + 4) (i + 1)) :: (gridS p (fun k c => if k = i then x.getD c 0 else g k c)).take (i + 1))) := by
        simp only [appendG, gF, refs_len, ll, if_true]
        refine congrArg (fun s => R.ok (D.non, s)) ?_
        unfold othS
        rw [show Z.length + 3 = (Z.length + 1) + 2 by omega, Bx_set, List.set_append_right _ _ (by omega), show Z.length + 1 - Z.length = 1 by omega, g1, refs_succ]
        rfl
      simp [tm, ap]
      refine ⟨b2, kvs2, _, rfl, hw2, by omega, fun k c hk hc => ?_⟩
      by_cases z : k = i
      · subst z
        rw [if_pos rfl]
        have hc' : c < x.length := by omega
        have := hx c x[c] (by simp [hc'])
        simpa [hc'] using this
      · rw [if_neg z]
        exact hg k c (by omega) hc)
  rw [intsD_len] at hg ⊢
  refine ⟨b', kvs, g, ?_, hg⟩
  simp only [then_nx, r_sRet, r_eV]
  simp
  rw [List.take_of_length_le (Nat.le_of_eq (gridS_len p g))]
end Dl
/-! ## B15c -/
/-! Law k05. -/
namespace Dl
open PySem L2
theorem most_ge {ss : List (List Nat)} {s : List Nat} (h : s ∈ ss) : (s.length : Int) ≤ most ss := by
  have ne : ss.map (fun s => (s.length : Int)) ≠ [] := by
    intro z
    rw [List.map_eq_nil_iff] at z
    subst z; cases h
  exact (maxL_mem ne).2 _ (List.mem_map.mpr ⟨s, h, rfl⟩)
theorem cell_in {p : Page} {k c : Nat} (hc : c < 5) (hk : clo p c k = true) : cellAt p k c ∈ cellsOf p (sttAt p k c) := by
  obtain ⟨m, cv⟩ := sttAt_mem hc hk
  unfold cellsOf
  refine List.mem_map.mpr ⟨k - (sttAt p k c).b, ?_, ?_⟩
  · rw [List.mem_range]
    have := cv.2.1
    have := cv.2.2
    omega
  · have := cv.2.1
    rw [show (sttAt p k c).b + (k - (sttAt p k c).b) = k by omega]
    rfl
theorem wAt_len {p : Page} {y : Sty} {k c : Nat} (hc : c < 5) (hk : clo p c k = true) : ((cellAt p k c).length : Int) + y.g ≤ wAt p y k c := by
  have := most_ge (cell_in hc hk)
  unfold wAt wid
  omega
theorem bAt_ge {p : Page} {y : Sty} {k c : Nat} (hc : c < 5) (hk : clo p c k = true) : sumW p y k c ≤ bAt p y k c ∧ bAt p y k c + ((cellAt p k c).length : Int) + y.g ≤ sumW p y k (c + 1) := by
  have h := wAt_len (y := y) hc hk
  unfold bAt
  by_cases hr : rightAt p k c = true
  · rw [if_pos hr]
    simp only [sumW]
    omega
  · rw [if_neg hr]
    simp only [sumW]
    omega
theorem ixC {p : Page} {Z : Store} {d : D} {w : List (Nat × List D)} (hd : listOf Z d = some (encP p, w)) {k c : Nat} (hk : k < p.length) (hc : c < cellsIn p k) : ∃ rr, ixG Z d (.int k) = .ok (rr, Z) ∧ ixG Z rr (.int c) = .ok (.str (cellAt p k c), Z) ∧ lenG Z [rr] = .ok (.int (cellsIn p k), Z) := by
  have er : p[k]? = some p[k] := by simp [hk]
  have ci := cellsIn_row er
  have e : cellAt p k c = p[k][c] := by
    have : c < p[k].length := by omega
    simp [cellAt, hk, this]
  refine ⟨encR p[k], ?_, ?_, ?_⟩
  · rw [ix_list hd, atI_nat]; simp [encP, hk]
  · have : c < p[k].length := by omega
    rw [e]
    simp [encR, ixG, atI_nat, this]
  · rw [lenR, ci]
/-- the first walk: each stretch's rows -/
theorem walk1 {p : Page} {y : Sty} {Z : Store} {d : D} {w : List (Nat × List D)} (hd : listOf Z d = some (encP p, w)) {n1 n2 : Nat} (h1 : Lays Z n1 p (sumW p y)) (h2 : Lays Z n2 p (bAt p y)) {s : Stt} (hs : s ∈ stts p) (a0 a1 a2 a12 a14 a15 a16 a17 : Option D) (j : Nat) (h : s.b + j < s.e) :
    (sCons (sIf (tv (eOp (eqG true) (eOp subG (eOp ixG (eOp ixG (eV 5) (eV 13)) (eOp (addG false) (eV 7) (eC (.int 1)))) (eOp ixG (eOp ixG (eV 5) (eV 13)) (eV 7))) (eV 10))) (sRet (eC (.bl false))) (sNext)) (sCons (sAsg (eOp (addG false) (eOp ixG (eOp ixG (eV 6) (eV 13)) (eV 7)) (eB lenG (aCons (eOp ixG (eOp ixG (eV 3) (eV 13)) (eV 7)) (aNil)))) (gN 14)) (sCons (sIf (tAndD (tv (eV 11)) (tv (eOp (eqG true) (eOp (addG false) (eV 14) (eOp ixG (eV 4) (eC (.int 0)))) (eOp ixG (eOp ixG (eV 5) (eV 13)) (eOp (addG false) (eV 7) (eC (.int 1))))))) (sRet (eC (.bl false))) (sNext)) (sIf (tAndD (tNotD (tv (eV 11))) (tv (eOp (eqG true) (eOp ixG (eOp ixG (eV 6) (eV 13)) (eV 7)) (eOp ixG (eOp ixG (eV 5) (eV 13)) (eV 7))))) (sRet (eC (.bl false))) (sNext)))))
      [a0, a1, a2, some d, some y.enc, some (.ref n1), some (.ref n2), some (.int s.c), some (.int s.b), some (.int s.e), some (.int (wid y (cellsOf p s))), some (.bl (right (cellsOf p s))), a12, some (.int ((s.b : Int) + (j : Int))), a14, a15, a16, a17] Z
    = .nx [a0, a1, a2, some d, some y.enc, some (.ref n1), some (.ref n2), some (.int s.c), some (.int s.b), some (.int s.e), some (.int (wid y (cellsOf p s))), some (.bl (right (cellsOf p s))), a12, some (.int ((s.b : Int) + (j : Int))), some (.int (bAt p y (s.b + j) s.c + ((cellAt p (s.b + j) s.c).length : Int))), a15, a16, a17] Z := by
  have so := stts_mem hs
  have hcl : clo p s.c (s.b + j) = true := so.clo _ (by omega) (by omega)
  have hk : s.b + j < p.length := by have := so.le; omega
  have hcc : s.c + 1 < cellsIn p (s.b + j) := by
    rw [clo_cells hk] at hcl; exact of_decide_eq_true hcl
  have sAt := covers_at hs (k := s.b + j) (c := s.c) ⟨rfl, by omega, h⟩
  have ww : wAt p y (s.b + j) s.c = wid y (cellsOf p s) := by unfold wAt; rw [← sAt]
  have x1 := h1.ixF hk
  have x2 := h1.ixR hk hcc
  have x3 := h1.ixR hk (show s.c < cellsIn p (s.b + j) by omega)
  have x4 := h2.ixF hk
  have x5 := h2.ixR hk (show s.c < cellsIn p (s.b + j) by omega)
  obtain ⟨rr, x6, x7, _⟩ := ixC hd hk (show s.c < cellsIn p (s.b + j) by omega)
  have e0 : ((s.b + j : Nat) : Int) = (s.b : Int) + (j : Int) := by omega
  have e1 : ((s.c + 1 : Nat) : Int) = (s.c : Int) + 1 := by omega
  rw [e0] at x1 x4 x6
  rw [e1] at x2
  have q1 : sumW p y (s.b + j) (s.c + 1) - sumW p y (s.b + j) s.c = wid y (cellsOf p s) := by
    simp only [sumW]; omega
  by_cases hr : right (cellsOf p s) = true
  · have q2 : bAt p y (s.b + j) s.c + ((cellAt p (s.b + j) s.c).length : Int) + y.g = sumW p y (s.b + j) (s.c + 1) := by
      unfold bAt rightAt
      rw [hcl, ← sAt, hr]
      simp
    simp [x1, x2, x3, x4, x5, x6, x7, subG, addG, q1, q2, hr]
  · have hr' : right (cellsOf p s) = false := by simpa using hr
    have q2 : bAt p y (s.b + j) s.c = sumW p y (s.b + j) s.c := by
      unfold bAt rightAt
      rw [← sAt, hr']
      simp
    simp [x1, x2, x3, x4, x5, x6, x7, subG, addG, q1, q2, hr']
/-- the second walk: each row's cells -/
theorem walk2 {p : Page} (hp : okPage p = true) {y : Sty} {Z : Store} {d : D} {w : List (Nat × List D)} (hd : listOf Z d = some (encP p, w)) {n1 n2 : Nat} (h1 : Lays Z n1 p (sumW p y)) (h2 : Lays Z n2 p (bAt p y)) {i j : Nat} (hi : i < p.length) (hj : j + 1 < cellsIn p i) (a0 a1 a2 a7 a8 a9 a10 a11 a12 a14 a16 a17 : Option D) :
    (sCons (sIf (tNotD (tv (eOp leG (eOp ixG (eOp ixG (eV 5) (eV 13)) (eV 7)) (eOp ixG (eOp ixG (eV 6) (eV 13)) (eV 7))))) (sRet (eC (.bl false))) (sNext)) (sCons (sAsg (eOp (addG false) (eOp ixG (eOp ixG (eV 6) (eV 13)) (eV 7)) (eB lenG (aCons (eOp ixG (eV 15) (eV 7)) (aNil)))) (gN 14)) (sIf (tv (eOp gtG (eOp (addG false) (eV 14) (eOp ixG (eV 4) (eC (.int 0)))) (eOp ixG (eOp ixG (eV 5) (eV 13)) (eOp (addG false) (eV 7) (eC (.int 1)))))) (sRet (eC (.bl false))) (sNext))))
      [a0, a1, a2, some d, some y.enc, some (.ref n1), some (.ref n2), some (.int j), a8, a9, a10, a11, a12, some (.int i), a14, some (encR (p.getD i [])), a16, a17] Z
    = .nx [a0, a1, a2, some d, some y.enc, some (.ref n1), some (.ref n2), some (.int j), a8, a9, a10, a11, a12, some (.int i), some (.int (bAt p y i j + ((cellAt p i j).length : Int))), some (encR (p.getD i [])), a16, a17] Z := by
  have hcl : clo p j i = true := by rw [clo_cells hi]; exact decide_eq_true hj
  have c6 := (cellsIn_le hp hi).2
  obtain ⟨b1, b2⟩ := bAt_ge (y := y) (show j < 5 by omega) hcl
  have x1 := h1.ixF hi
  have x2 := h1.ixR hi hj
  have x3 := h1.ixR hi (show j < cellsIn p i by omega)
  have x4 := h2.ixF hi
  have x5 := h2.ixR hi (show j < cellsIn p i by omega)
  have e1 : ((j + 1 : Nat) : Int) = (j : Int) + 1 := by omega
  rw [e1] at x2
  have x6 : atI ((p.getD i []).map D.str) (j : Int) = some (.str (cellAt p i j)) := by
    have : j < (p.getD i []).length := by unfold cellsIn at hj; omega
    rw [atI_nat, List.getElem?_map]
    show _ = some (D.str ((p.getD i []).getD j []))
    rw [List.getD_eq_getElem?_getD (l := p.getD i [])]
    cases q : (p.getD i [])[j]? with
    | none => rw [List.getElem?_eq_none_iff] at q; omega
    | some c => rfl
  have q2 : ¬ sumW p y i (j + 1) < bAt p y i j + ((cellAt p i j).length : Int) + y.g := by omega
  unfold encR
  generalize p.getD i [] = row at x6 ⊢
  simp [x1, x2, x3, x4, x5, x6, leG, gtG, addG, b1, q2]
def m_law_k05 : FV := funD 18 (d_law_k05 m_law_begun m_law_page m_law_take m_law_style m_stops m_laid m_stretches m_law_others)
end Dl
/-! ## B27 -/
/-! Pages with other cells of the same places (law k27). -/
namespace Dl
open PySem L2
structure Same (p p' : Page) : Prop where
  len : p'.length = p.length
  cells : ∀ k, cellsIn p' k = cellsIn p k
theorem cellsIn_out {p : Page} {k : Nat} (h : p.length ≤ k) : cellsIn p k = 0 := by
  unfold cellsIn
  rw [List.getD_eq_getElem?_getD, List.getElem?_eq_none h]
  rfl
theorem Same.clo {p p' : Page} (h : Same p p') : clo p' = clo p := by
  funext c k
  by_cases hk : k < p.length
  · rw [clo_cells hk, clo_cells (by rw [h.len]; exact hk), h.cells]
  · rw [clo_out (p := p') (by rw [h.len]; omega), clo_out (p := p) (by omega)]
theorem Same.isB {p p' : Page} (h : Same p p') : isB p' = isB p := by
  funext c k
  unfold Dl.isB
  rw [h.clo]
theorem Same.endOf {p p' : Page} (h : Same p p') : endOf p' = endOf p := by
  funext c k
  unfold Dl.endOf
  rw [h.clo, h.len]
theorem Same.begOf {p p' : Page} (h : Same p p') (c : Nat) : ∀ k, begOf p' c k = begOf p c k
  | 0 => rfl
  | k + 1 => by
    unfold Dl.begOf
    rw [h.clo, h.begOf c k]
theorem Same.sttOf {p p' : Page} (h : Same p p') : sttOf p' = sttOf p := by
  funext c b
  unfold Dl.sttOf
  rw [h.endOf]
theorem Same.stts {p p' : Page} (h : Same p p') : stts p' = stts p := by
  unfold Dl.stts sttsC begs
  simp only [h.isB, h.sttOf, h.len]
theorem Same.sttAt {p p' : Page} (h : Same p p') (k c : Nat) : sttAt p' k c = sttAt p k c := by
  unfold Dl.sttAt
  rw [h.sttOf, h.begOf]
theorem row_cell {p : Page} {k c : Nat} {r : Row} (hr : p[k]? = some r) (hc : c < r.length) : cellAt p k c = r[c] := by simp [cellAt, hr, hc]
theorem okPage_same {p p' : Page} (hp : okPage p = true) (h : Same p p') (hc : ∀ k c, k < p.length → c < cellsIn p k → okCell (cellAt p' k c) = true) : okPage p' = true := by
  obtain ⟨p1, p2, p3⟩ := okPage_parts hp
  unfold okPage
  simp only [Bool.and_eq_true, decide_eq_true_eq, List.all_eq_true]
  refine ⟨⟨by rw [h.len]; exact p1, by rw [h.len]; exact p2⟩, fun r hr => ?_⟩
  obtain ⟨k, hk⟩ := List.mem_iff_getElem?.mp hr
  have hkl : k < p.length := by rw [← h.len]; exact (List.getElem?_eq_some_iff.mp hk).1
  have e := cellsIn_row hk
  rw [h.cells] at e
  have b := cellsIn_le hp hkl
  unfold okRow
  simp only [Bool.and_eq_true, decide_eq_true_eq, List.all_eq_true]
  refine ⟨⟨by omega, by omega⟩, fun s hs => ?_⟩
  obtain ⟨c, hcc⟩ := List.mem_iff_getElem?.mp hs
  obtain ⟨hcl, hce⟩ := List.getElem?_eq_some_iff.mp hcc
  have := hc k c hkl (by omega)
  rw [row_cell hk hcl, hce] at this
  exact this
/-! ### one cell another one -/
def setCell (p : Page) (k c : Nat) (s : List Nat) : Page := p.set k ((p.getD k []).set c s)
theorem setCell_same (p : Page) (k c : Nat) (s : List Nat) : Same p (setCell p k c s) := by
  refine ⟨by simp [setCell], fun j => ?_⟩
  unfold cellsIn setCell
  rw [List.getD_eq_getElem?_getD, List.getElem?_set]
  by_cases h : k = j
  · subst h
    by_cases hk : k < p.length
    · simp [hk]
    · simp [hk]
  · simp [h]
theorem setCell_at {p : Page} {k c : Nat} (s : List Nat) (hk : k < p.length) (hc : c < cellsIn p k) (j c' : Nat) : cellAt (setCell p k c s) j c' = if j = k ∧ c' = c then s else cellAt p j c' := by
  unfold cellsIn at hc
  unfold cellAt setCell
  rw [List.getD_eq_getElem?_getD (l := p.set k _), List.getElem?_set]
  by_cases h : k = j
  · subst h
    simp only [hk, if_true, Option.getD_some, true_and]
    rw [List.getD_eq_getElem?_getD, List.getElem?_set]
    by_cases h2 : c = c'
    · subst h2
      have hc' : c < (p[k]?.getD []).length := by rwa [← List.getD_eq_getElem?_getD]
      simp [hc']
    · simp [h2, Ne.symm h2]
  · simp [h, Ne.symm h]
theorem setCell_enc {p : Page} {k c : Nat} (s : List Nat) (hk : k < p.length) (hc : c < cellsIn p k) : encP (setCell p k c s) = (encP p).take k ++ [D.tup (((p.getD k []).map .str).take c ++ [.str s] ++ ((p.getD k []).map .str).drop (c + 1))] ++ (encP p).drop (k + 1) := by
  unfold cellsIn at hc
  unfold setCell encP
  rw [List.map_set, List.set_eq_take_append_cons_drop, if_pos (by simpa using hk)]
  unfold encR
  rw [List.map_set, List.set_eq_take_append_cons_drop, if_pos (by simpa using hc)]
  simp
/-! ### the longest cells -/
theorem most_eq {ss : List (List Nat)} {M : Int} (h1 : ∃ s ∈ ss, (s.length : Int) = M) (h2 : ∀ s ∈ ss, (s.length : Int) ≤ M) : most ss = M := by
  obtain ⟨s, hs, e⟩ := h1
  have ne : ss.map (fun s => (s.length : Int)) ≠ [] := by
    intro z
    rw [List.map_eq_nil_iff] at z
    subst z; cases hs
  obtain ⟨q1, q2⟩ := maxL_mem ne
  have a := most_ge hs
  unfold most at a ⊢
  obtain ⟨s', hs', e'⟩ := List.mem_map.mp q1
  have b := h2 s' hs'
  omega
theorem most_in {ss : List (List Nat)} (h : ss ≠ []) : ∃ s ∈ ss, (s.length : Int) = most ss := by
  have ne : ss.map (fun s => (s.length : Int)) ≠ [] := by simpa using h
  obtain ⟨s, hs, e⟩ := List.mem_map.mp (maxL_mem ne).1
  exact ⟨s, hs, e⟩
theorem cellsOf_mem {p : Page} {s : Stt} {x : List Nat} : x ∈ cellsOf p s ↔ ∃ k, s.b ≤ k ∧ k < s.e ∧ cellAt p k s.c = x := by
  unfold cellsOf
  rw [List.mem_map]
  constructor
  · rintro ⟨i, hi, rfl⟩
    rw [List.mem_range] at hi
    exact ⟨s.b + i, by omega, by omega, rfl⟩
  · rintro ⟨k, h1, h2, rfl⟩
    exact ⟨k - s.b, by rw [List.mem_range]; omega, by rw [show s.b + (k - s.b) = k by omega]⟩
theorem most_cells {p : Page} {s : Stt} (h : s.b < s.e) : (∃ k, s.b ≤ k ∧ k < s.e ∧ ((cellAt p k s.c).length : Int) = most (cellsOf p s)) ∧ ∀ k, s.b ≤ k → k < s.e → ((cellAt p k s.c).length : Int) ≤ most (cellsOf p s) := by
  have ne : cellsOf p s ≠ [] := fun z => by
    have := cellsOf_len p s
    rw [z] at this
    simp at this
    omega
  refine ⟨?_, fun k h1 h2 => most_ge (cellsOf_mem.mpr ⟨k, h1, h2, rfl⟩)⟩
  obtain ⟨x, hx, e⟩ := most_in ne
  obtain ⟨k, h1, h2, rfl⟩ := cellsOf_mem.mp hx
  exact ⟨k, h1, h2, e⟩
theorem most_cells_eq {p : Page} {s : Stt} {M : Int} (h1 : ∃ k, s.b ≤ k ∧ k < s.e ∧ ((cellAt p k s.c).length : Int) = M) (h2 : ∀ k, s.b ≤ k → k < s.e → ((cellAt p k s.c).length : Int) ≤ M) : most (cellsOf p s) = M := by
  obtain ⟨k, a, b, e⟩ := h1
  refine most_eq ⟨_, cellsOf_mem.mpr ⟨k, a, b, rfl⟩, e⟩ fun x hx => ?_
  obtain ⟨k, a, b, rfl⟩ := cellsOf_mem.mp hx
  exact h2 k a b
/-! ### a longer cell -/
theorem longer_most {p : Page} {s : Stt} {k : Nat} {x : List Nat} (hk : k < p.length) (hc : s.c < cellsIn p k) (hb : s.b ≤ k) (he : k < s.e) (hx : (cellAt p k s.c).length ≤ x.length) :
    most (cellsOf (setCell p k s.c x) s) = max (most (cellsOf p s)) (x.length : Int) := by
  obtain ⟨⟨j, j1, j2, j3⟩, hall⟩ := most_cells (p := p) (s := s) (by omega)
  have at_ := setCell_at x hk hc
  refine most_cells_eq ?_ fun i h1 h2 => ?_
  · by_cases h : most (cellsOf p s) ≤ (x.length : Int)
    · refine ⟨k, hb, he, ?_⟩
      rw [at_, if_pos ⟨rfl, rfl⟩]
      omega
    · refine ⟨j, j1, j2, ?_⟩
      have : j ≠ k := fun z => by subst z; omega
      rw [at_, if_neg (fun z => this z.1)]
      omega
  · rw [at_]
    by_cases z : i = k
    · rw [if_pos ⟨z, rfl⟩]; omega
    · rw [if_neg (fun q => z q.1)]
      have := hall i h1 h2
      omega
/-! ### some cells of a column a sign shorter -/
structure Sh (p : Page) (c : Nat) (S : Nat → Bool) (p' : Page) : Prop where
  same : Same p p'
  cell : ∀ j c', cellAt p' j c' = if c' = c ∧ S j = true then (cellAt p j c').drop 1 else cellAt p j c'
theorem Sh.refl (p : Page) (c : Nat) : Sh p c (fun _ => false) p := ⟨⟨rfl, fun _ => rfl⟩, fun j c' => by simp⟩
theorem Sh.step {p p' : Page} {c : Nat} {S : Nat → Bool} (h : Sh p c S p') {k : Nat} (hk : k < p.length) (hc : c < cellsIn p k) (hS : S k = false) : Sh p c (fun j => S j || j == k) (setCell p' k c ((cellAt p' k c).drop 1)) := by
  have hs := setCell_same p' k c ((cellAt p' k c).drop 1)
  refine ⟨⟨hs.len.trans h.same.len, fun j => (hs.cells j).trans (h.same.cells j)⟩, fun j c' => ?_⟩
  rw [setCell_at _ (by rw [h.same.len]; exact hk) (by rw [h.same.cells]; exact hc), h.cell j c', h.cell k c]
  by_cases z : j = k
  · subst z
    by_cases z2 : c' = c
    · subst z2
      simp [hS]
    · simp [z2]
  · have : (j == k) = false := by simpa using z
    simp [z, this]
theorem drop_ok {s : List Nat} (h : okCell s = true) : okCell (s.drop 1) = true := by
  unfold okCell at h ⊢
  simp only [Bool.and_eq_true, decide_eq_true_eq, List.all_eq_true] at h ⊢
  exact ⟨by rw [List.length_drop]; omega, fun c hc => h.2 c (List.mem_of_mem_drop hc)⟩
theorem cellAt_ok {p : Page} (hp : okPage p = true) {k c : Nat} (hk : k < p.length) (hc : c < cellsIn p k) : okCell (cellAt p k c) = true := by
  obtain ⟨p1, p2, p3⟩ := okPage_parts hp
  have hr : p[k]? = some p[k] := by simp [hk]
  rw [cellsIn_row hr] at hc
  obtain ⟨r1, r2, r3⟩ := okRow_parts (p3 _ (List.mem_of_getElem? hr))
  rw [row_cell hr hc]
  exact r3 _ (by simp)
theorem Sh.ok {p p' : Page} {c : Nat} {S : Nat → Bool} (h : Sh p c S p') (hp : okPage p = true) : okPage p' = true := by
  refine okPage_same hp h.same fun k c' hk hc => ?_
  rw [h.cell]
  split
  · exact drop_ok (cellAt_ok hp hk hc)
  · exact cellAt_ok hp hk hc
/-- all but one of the longest shorter: as long -/
theorem Sh.most1 {p p' : Page} {s : Stt} {S : Nat → Bool} (h : Sh p s.c S p') {h0 : Nat} (b0 : s.b ≤ h0) (e0 : h0 < s.e) (l0 : ((cellAt p h0 s.c).length : Int) = most (cellsOf p s)) (hS : S h0 = false) : most (cellsOf p' s) = most (cellsOf p s) := by
  obtain ⟨_, hall⟩ := most_cells (p := p) (s := s) (by omega)
  refine most_cells_eq ⟨h0, b0, e0, ?_⟩ fun k h1 h2 => ?_
  · rw [h.cell, if_neg (by simp [hS])]; exact l0
  · have := hall k h1 h2
    rw [h.cell]
    split
    · rw [List.length_drop]; omega
    · exact this
/-- all of the longest shorter: one less -/
theorem Sh.most2 {p p' : Page} {s : Stt} {S : Nat → Bool} (h : Sh p s.c S p') (hb : s.b < s.e) (hS : ∀ k, s.b ≤ k → k < s.e → (S k = true ↔ ((cellAt p k s.c).length : Int) = most (cellsOf p s))) (hm : 1 ≤ most (cellsOf p s)) : most (cellsOf p' s) = most (cellsOf p s) - 1 := by
  obtain ⟨⟨j, j1, j2, j3⟩, hall⟩ := most_cells (p := p) (s := s) hb
  refine most_cells_eq ⟨j, j1, j2, ?_⟩ fun k h1 h2 => ?_
  · rw [h.cell, if_pos ⟨rfl, (hS j j1 j2).mpr j3⟩, List.length_drop]; omega
  · have := hall k h1 h2
    rw [h.cell]
    by_cases z : S k = true
    · rw [if_pos ⟨rfl, z⟩, List.length_drop]
      have := (hS k h1 h2).mp z
      omega
    · rw [if_neg (fun q => z q.2)]
      have : ((cellAt p k s.c).length : Int) ≠ most (cellsOf p s) := fun q => z ((hS k h1 h2).mpr q)
      omega
theorem Sh.other {p p' : Page} {c : Nat} {S : Nat → Bool} (h : Sh p c S p') {s : Stt} (hs : s.c ≠ c) : cellsOf p' s = cellsOf p s := by
  unfold cellsOf
  refine List.map_congr_left fun k _ => ?_
  rw [h.cell, if_neg (fun q => hs q.1)]
/-- left ends by one less -/
theorem Sh.sumW {p p' : Page} {s : Stt} {S : Nat → Bool} (h : Sh p s.c S p') (hs : s ∈ stts p) {y : Sty} (hw : wid y (cellsOf p' s) = wid y (cellsOf p s) - 1) {k : Nat} (h1 : s.b ≤ k) (h2 : k < s.e) : ∀ c, sumW p' y k c = sumW p y k c - if s.c < c then 1 else 0
  | 0 => by simp [Dl.sumW]
  | c + 1 => by
    simp only [Dl.sumW]
    rw [h.sumW hs hw h1 h2 c]
    unfold wAt
    rw [h.same.sttAt]
    by_cases z : c = s.c
    · subst z
      rw [← covers_at hs ⟨rfl, h1, h2⟩, hw]
      have a1 : ¬ s.c < s.c := by omega
      have a2 : s.c < s.c + 1 := by omega
      rw [if_neg a1, if_pos a2]
      omega
    · rw [h.other (s := sttAt p k c) (fun q => z q)]
      have : (s.c < c) ↔ (s.c < c + 1) := by omega
      simp only [this]
      omega
end Dl
/-! ## B27b -/
/-! Law k27: the law's own words. -/
namespace Dl
open PySem L2
def m_law_with : FV := funD 5 d_law_with
theorem slG_list {st : Store} {d : D} {w : Wk} (h : listOf st d = some w) (lo hi : Option Int) : slG false st d lo hi = .ok (.lst (cutD w.1 lo hi), st) := by
  unfold listOf at h
  split at h
  · cases h; simp [slG, lstOf, newL]
  · split at h
    · cases h
      rename_i e
      simp [slG, lstOf, e, newL]
    · cases h
  · cases h
theorem with_ok {p : Page} (hp : okPage p = true) {d : D} {w : List (Nat × List D)} {st : Store} (hd : listOf st d = some (encP p, w)) {k c : Nat} (hk : k < p.length) (hc : c < cellsIn p k) (s : List Nat) :
    m_law_with [d, .int k, .int c, .str s] st = .ok (.lst (encP (setCell p k c s)), st) := by
  rw [m_law_with, funD, d_law_with, setCell_enc s hk hc]
  obtain ⟨p1, p2, p3⟩ := okPage_parts hp
  have c6 := (cellsIn_le hp hk).2
  have er : p[k]? = some (p.getD k []) := by simp [hk]
  have ix : ixG st d (.int k) = .ok (.tup ((p.getD k []).map .str), st) := by
    rw [ix_list hd, atI_nat]
    unfold encP
    rw [List.getElem?_map, er]
    rfl
  have s1 := slG_list hd none (some (k : Int))
  have s2 := slG_list hd (some ((k : Int) + 1)) none
  have c1 : cutD (encP p) none (some (k : Int)) = (encP p).take k := cut_to _ _
  have c2 : cutD (encP p) (some ((k : Int) + 1)) none = (encP p).drop (k + 1) := cut_from _ (k + 1)
  have c3 : ∀ r : List D, cutD r none (some (c : Int)) = r.take c := fun r => cut_to _ _
  have c4 : ∀ r : List D, cutD r (some ((c : Int) + 1)) none = r.drop (c + 1) := fun r => cut_from _ (c + 1)
  simp only [c1, c2] at s1 s2
  unfold cellsIn at hc c6
  have rl : (p.getD k []).length = ((p.getD k []).map D.str).length := by simp
  rw [rl] at hc c6
  generalize (p.getD k []).map D.str = row at ix hc c6 ⊢
  have l1 : (row.take c).length ≤ 6 := by rw [List.length_take]; omega
  have l2 : (row.drop (c + 1)).length ≤ 6 := by rw [List.length_drop]; omega
  have l3 : ((encP p).take k).length ≤ 30 := by rw [List.length_take, encP_len]; omega
  have l4 : ((encP p).drop (k + 1)).length ≤ 30 := by rw [List.length_drop, encP_len]; omega
  generalize (encP p).take k = A at s1 l3 ⊢
  generalize (encP p).drop (k + 1) = B at s2 l4 ⊢
  have t1 : slG false st (.tup row) none (some (c : Int)) = .ok (.tup (row.take c), st) := by simp [slG, c3]
  have t2 : slG false st (.tup row) (some ((c : Int) + 1)) none = .ok (.tup (row.drop (c + 1)), st) := by simp [slG, c4]
  generalize row.take c = X at t1 l1 ⊢
  generalize row.drop (c + 1) = Y at t2 l2 ⊢
  have m1 : X.length + 1 ≤ LIM := le_LIM (by omega)
  have m2 : X.length + 1 + Y.length ≤ LIM := le_LIM (by omega)
  have m3 : A.length + 1 ≤ LIM := le_LIM (by omega)
  have m4 : A.length + 1 + B.length ≤ LIM := le_LIM (by omega)
  have m5 : X.length + (1 + Y.length) ≤ LIM := le_LIM (by omega)
  have m6 : X.length + (Y.length + 1) ≤ LIM := le_LIM (by omega)
  have m7 : A.length + (B.length + 1) ≤ LIM := le_LIM (by omega)
  simp [ix, s1, s2, t1, t2, addG, lstOf, newL, m1, m2, m3, m4, m5, m6, m7]
def m_law_of : FV := funD 5 (d_law_of m_stretches)
/-- what is told of a stretch -/
def TupOf (p : Page) (y : Sty) (s : Stt) (t : D) (st : Store) : Prop := ∃ k : Nat, t = .tup [.int s.c, .int s.b, .int s.e, .int (wid y (cellsOf p s)), .bl (right (cellsOf p s)), .ref k] ∧ st[k]? = some (.lst ((hold y s.b (cellsOf p s)).map .int))
def prS (s : Stt) (d : D) : Bool := match d with
  | .tup (.int c :: .int b :: _) => decide (c = (s.c : Int) ∧ b = (s.b : Int))
  | _ => false
theorem prS_tup (s : Stt) (c b : Int) (r : List D) : prS s (.tup (.int c :: .int b :: r)) = decide (c = (s.c : Int) ∧ b = (s.b : Int)) := rfl
theorem of_ok {p : Page} (hp : okPage p = true) {y : Sty} (hy : y.ok) {d : D} {w : List (Nat × List D)} {st : Store} (hd : listOf st d = some (encP p, w)) {s : Stt} (hs : s ∈ stts p) :
    ∃ t more, m_law_of [d, y.enc, .int s.c, .int s.b] st = .ok (t, st ++ more) ∧ TupOf p y s t (st ++ more) := by
  rw [m_law_of, funD, d_law_of]
  obtain ⟨T, more, sk, hT⟩ := stretches_ok hp hy hd
  obtain ⟨S, hS⟩ : ∃ S, S = st ++ .lst T :: more := ⟨_, rfl⟩
  rw [← hS] at sk hT
  have gT : S[st.length]? = some (.lst T) := by rw [hS]; simp
  have hit : itemsOf S (.ref st.length) = some (T, [(st.length, T)]) := by simp only [itemsOf, gT]
  have tl : T.length ≤ LIM := by rw [hT.len]; exact le_LIM (by have := stts_le hp; omega)
  have lc : lcGo [(st.length, T)] (.one 4) (tv (eOp (eqG false) (eSl false (eV 4) (poNone) (poSome (eC (.int 2)))) (eTup (aCons (eV 2) (aCons (eV 3) (aNil)))))) (eV 4) [some d, some y.enc, some (.int s.c), some (.int s.b), none] T [] S
      = .ok (T.filter (prS s), S) := by
    refine lc_keep (still_one gT) _ _ (fun d' hd' => ?_) (by simp)
    obtain ⟨i, hi⟩ := List.mem_iff_getElem?.mp hd'
    obtain ⟨s', hs', k, _, rfl, _⟩ := hT.get hi
    have c2 : ∀ r : List D, cutD r none (some (2 : Int)) = r.take 2 := fun r => cut_to r 2
    have e1 : eqG false S (.tup [.int s'.c, .int s'.b]) (.tup [.int s.c, .int s.b]) = .ok (.bl (decide ((s'.c : Int) = (s.c : Int) ∧ (s'.b : Int) = (s.b : Int))), S) := by
      rw [eqG_pl (by simp) (by simp) (by simp) (by simp)]
      simp
    rw [prS_tup]
    simp [slG, c2, e1]
  have ne : ∃ t r, T.filter (prS s) = t :: r := by
    obtain ⟨i, hi⟩ := List.mem_iff_getElem?.mp hs
    have hil := (List.getElem?_eq_some_iff.mp hi).1
    rw [← hT.len] at hil
    have hTi : T[i]? = some T[i] := by simp [hil]
    obtain ⟨s', hs', k, _, e, _⟩ := hT.get hTi
    rw [hi] at hs'
    cases hs'
    cases q : T.filter (prS s) with
    | nil =>
      rw [List.filter_eq_nil_iff] at q
      have := q T[i] (by simp)
      rw [e, prS_tup] at this
      simp at this
    | cons t r => exact ⟨t, r, rfl⟩
  obtain ⟨t, r, ne⟩ := ne
  have tm : t ∈ T.filter (prS s) := by rw [ne]; simp
  rw [List.mem_filter] at tm
  obtain ⟨i, hi⟩ := List.mem_iff_getElem?.mp tm.1
  obtain ⟨s', hs', k, _, rfl, hk⟩ := hT.get hi
  have hm' := List.mem_of_getElem? hs'
  have e2 : s' = s := by
    have := tm.2
    rw [prS_tup] at this
    have := of_decide_eq_true this
    have e3 : s'.c = s.c := by omega
    have e4 : s'.b = s.b := by omega
    rw [stts_form hm', stts_form hs, e3, e4]
  subst e2
  refine ⟨_, .lst T :: more, ?_, k, rfl, by rw [← hS]; exact hk⟩
  rw [← hS]
  simp [sk, hit, tl, lc, ne, newL]
def m_law_longer : FV := funD 12 (d_law_longer m_law_of m_law_with)
theorem longer_ok {p : Page} (hp : okPage p = true) {y : Sty} (hy : y.ok) {d : D} {w : List (Nat × List D)} {st : Store} (hd : listOf st d = some (encP p, w)) {s : Stt} (hs : s ∈ stts p) {k : Nat} (h1 : s.b ≤ k) (h2 : k < s.e) (hl : (cellAt p k s.c).length < 10) (n : Nat) :
    ∃ more, m_law_longer [d, y.enc, .tup [.int s.c, .int s.b, .int s.e, .int (wid y (cellsOf p s)), .bl (right (cellsOf p s)), .ref n], .int k] st = .ok (.bl true, st ++ more) := by
  rw [m_law_longer, funD, d_law_longer]
  have so := stts_mem hs
  have hk : k < p.length := by have := so.le; omega
  have hcl := so.clo k h1 h2
  have hc : s.c < cellsIn p k := by rw [clo_cells hk] at hcl; have := of_decide_eq_true hcl; omega
  obtain ⟨rr, x6, x7, _⟩ := ixC hd hk hc
  have wo := with_ok hp hd hk hc (cellAt p k s.c ++ [120])
  have sm := setCell_same p k s.c (cellAt p k s.c ++ [120])
  have hp' : okPage (setCell p k s.c (cellAt p k s.c ++ [120])) = true := okPage_same hp sm fun j c' hj hc' => by
    rw [setCell_at _ hk hc]
    split
    · have := cellAt_ok hp hk hc
      unfold okCell at this ⊢
      simp only [Bool.and_eq_true, decide_eq_true_eq, List.all_eq_true] at this ⊢
      refine ⟨by rw [List.length_append]; simp; omega, fun c hc => ?_⟩
      rw [List.mem_append] at hc
      rcases hc with hc | hc
      · exact this.2 c hc
      · simp at hc; subst hc; decide
    · exact cellAt_ok hp hj hc'
  have hs' : s ∈ stts (setCell p k s.c (cellAt p k s.c ++ [120])) := by rw [sm.stts]; exact hs
  obtain ⟨t, more, ok, m, rfl, _⟩ := of_ok hp' hy (d := .lst (encP (setCell p k s.c (cellAt p k s.c ++ [120])))) (w := []) (st := st) rfl hs'
  have lm := longer_most (p := p) (s := s) (k := k) (x := cellAt p k s.c ++ [120]) hk hc h1 h2 (by simp)
  have ww : wid y (cellsOf (setCell p k s.c (cellAt p k s.c ++ [120])) s) = max (wid y (cellsOf p s)) (((cellAt p k s.c).length : Int) + 1 + y.g) := by
    unfold wid
    rw [lm]
    simp only [List.length_append, List.length_cons, List.length_nil]
    omega
  rw [ww] at ok
  have l11 : (cellAt p k s.c).length + 1 ≤ LIM := le_LIM (by omega)
  have c3 : ∀ r : List D, cutD r none (some (3 : Int)) = r.take 3 := fun r => cut_to r 3
  have at3 : ∀ a b c d e f : D, atI [a, b, c, d, e, f] 3 = some d := fun a b c d e f => atI_nat [a, b, c, d, e, f] 3
  have e1 : eqG false (st ++ more) (.tup [.int s.c, .int s.b, .int s.e]) (.tup [.int s.c, .int s.b, .int s.e]) = .ok (.bl true, st ++ more) := by
    rw [eqG_pl (by simp) (by simp) (by simp) (by simp)]
    simp
  refine ⟨more, ?_⟩
  generalize wid y (cellsOf p s) = W at ok ⊢
  generalize right (cellsOf (setCell p k s.c (cellAt p k s.c ++ [120])) s) = rt' at ok
  generalize right (cellsOf p s) = rt
  simp [x6, x7, addG, l11, wo, ok, at3, slG, c3, e1]
end Dl
/-! ## B27c -/
/-! Law k27: holders a sign shorter. -/
namespace Dl
open PySem L2
def holdN (p : Page) (s : Stt) : List Nat := ((List.range (s.e - s.b)).filter fun k => decide (((cellAt p (s.b + k) s.c).length : Int) = most (cellsOf p s))).map fun k => s.b + k
theorem hold_N {p : Page} {s : Stt} {y : Sty} (h : hold y s.b (cellsOf p s) ≠ []) : y.l < most (cellsOf p s) + y.g ∧ (hold y s.b (cellsOf p s)).map D.int = (holdN p s).map fun (k : Nat) => D.int (k : Int) := by
  unfold hold at h ⊢
  by_cases hm : most (cellsOf p s) + y.g ≤ y.l
  · rw [if_pos hm] at h; exact absurd rfl h
  · rw [if_neg hm]
    refine ⟨by omega, ?_⟩
    unfold holdN
    rw [cellsOf_len, List.map_map, List.map_map]
    have e : (List.range (s.e - s.b)).filter (fun k => decide ((((cellsOf p s).getD k []).length : Int) = most (cellsOf p s))) = (List.range (s.e - s.b)).filter fun k => decide (((cellAt p (s.b + k) s.c).length : Int) = most (cellsOf p s)) := by
      refine List.filter_congr fun k hk => ?_
      rw [List.mem_range] at hk
      have : (cellsOf p s).getD k [] = cellAt p (s.b + k) s.c := by
        unfold cellsOf
        simp [hk]
      rw [this]
    rw [e]
    rfl
theorem holdN_mem {p : Page} {s : Stt} {h : Nat} : h ∈ holdN p s ↔ s.b ≤ h ∧ h < s.e ∧ ((cellAt p h s.c).length : Int) = most (cellsOf p s) := by
  unfold holdN
  rw [List.mem_map]
  constructor
  · rintro ⟨k, hk, rfl⟩
    rw [List.mem_filter, List.mem_range] at hk
    exact ⟨by omega, by omega, of_decide_eq_true hk.2⟩
  · rintro ⟨h1, h2, h3⟩
    refine ⟨h - s.b, ?_, by omega⟩
    rw [List.mem_filter, List.mem_range, show s.b + (h - s.b) = h by omega]
    exact ⟨by omega, decide_eq_true h3⟩
theorem holdN_nodup (p : Page) (s : Stt) : (holdN p s).Nodup := by
  unfold holdN List.Nodup
  rw [List.pairwise_map]
  have h0 : List.Pairwise (fun a b : Nat => a ≠ b) ((List.range (s.e - s.b)).filter fun k => decide (((cellAt p (s.b + k) s.c).length : Int) = most (cellsOf p s))) := List.Pairwise.filter _ List.nodup_range
  exact h0.imp fun {a b} h z => h (by omega)
def m_law_shorter : FV := funD 17 (d_law_shorter m_law_with m_law_of m_stops)
theorem rowI_shift {p p' : Page} {s : Stt} {S : Nat → Bool} (h : Sh p s.c S p') (hs : s ∈ stts p) {y : Sty} (hw : wid y (cellsOf p' s) = wid y (cellsOf p s) - 1) {k : Nat} (h1 : s.b ≤ k) (h2 : k < s.e) : rowI p' (sumW p' y) k = ((List.range (cellsIn p k)).map fun c => sumW p y k c - if s.c < c then 1 else 0).map .int := by
  unfold rowI
  rw [h.same.cells]
  refine congrArg (List.map D.int) (List.map_congr_left fun c _ => ?_)
  exact h.sumW hs hw h1 h2 c
theorem shorter_ok {p : Page} (hp : okPage p = true) {y : Sty} (hy : y.ok) {d : D} {w : List (Nat × List D)} {st : Store} (hd : listOf st d = some (encP p, w)) {s : Stt} (hs : s ∈ stts p) (hh : hold y s.b (cellsOf p s) ≠ []) (hm : 1 ≤ most (cellsOf p s)) {n : Nat} (hn : st[n]? = some (.lst ((hold y s.b (cellsOf p s)).map .int))) :
    ∃ more, m_law_shorter [d, y.enc, .tup [.int s.c, .int s.b, .int s.e, .int (wid y (cellsOf p s)), .bl (right (cellsOf p s)), .ref n]] st = .ok (.bl true, st ++ more) := by
  rw [m_law_shorter, funD, d_law_shorter]
  have so := stts_mem hs
  have slt := so.lt
  have sle := so.le
  obtain ⟨p1, p2, p3⟩ := okPage_parts hp
  obtain ⟨hgt, eH⟩ := hold_N hh
  have nd := holdN_nodup p s
  have hmem : ∀ h, h ∈ holdN p s ↔ s.b ≤ h ∧ h < s.e ∧ ((cellAt p h s.c).length : Int) = most (cellsOf p s) := fun h => holdN_mem
  rw [eH] at hn
  obtain ⟨h0, hr, hH⟩ : ∃ h0 hr, holdN p s = h0 :: hr := by
    cases q : holdN p s with
    | nil =>
      rw [q] at eH
      simp only [List.map_nil, List.map_eq_nil_iff] at eH
      exact absurd eH hh
    | cons a r => exact ⟨a, r, rfl⟩
  rw [hH] at hn nd hmem
  have h0n : h0 ∉ hr := (List.nodup_cons.mp nd).1
  have ndr := (List.nodup_cons.mp nd).2
  have colm : ∀ h, s.b ≤ h → h < s.e → h < p.length ∧ s.c < cellsIn p h := fun h a b => by
    have hk : h < p.length := by omega
    have hcl := so.clo h a b
    rw [clo_cells hk] at hcl
    have := of_decide_eq_true hcl
    exact ⟨hk, by omega⟩
  have hl : listOf st (.ref n) = some ((h0 :: hr).map (fun (k : Nat) => D.int (k : Int)), [(n, (h0 :: hr).map (fun (k : Nat) => D.int (k : Int)))]) := by simp only [listOf, hn]
  have sl := slG_list hl (some (1 : Int)) none
  have c1 : cutD ((h0 :: hr).map (fun (k : Nat) => D.int (k : Int))) (some (1 : Int)) none = hr.map (fun (k : Nat) => D.int (k : Int)) := cut_from _ 1
  simp only [c1] at sl
  have cs : ∀ x : List Nat, cutD x (some (1 : Int)) none = x.drop 1 := fun x => cut_from x 1
  simp [sl, itemsOf, -List.map_cons]
  generalize q : forGo _ _ _ _ _ _ = r
  obtain ⟨e', s', rfl, rfl, d1, a10, pa, wa, Sa, rfl, hda, sha, hSa⟩ := for_at q (fun i env st' => st = st' ∧ ∃ d1 a10 pa wa Sa, env = [some d, some y.enc, some (.tup [.int s.c, .int s.b, .int s.e, .int (wid y (cellsOf p s)), .bl (right (cellsOf p s)), .ref n]), some (.int s.c), some (.int s.b), some (.int s.e), some (.int (wid y (cellsOf p s))), some (.bl (right (cellsOf p s))), some (.ref n), some d1, a10, none, none, none, none, none, none] ∧ listOf st d1 = some (encP pa, wa) ∧ Sh p s.c Sa pa ∧ ∀ j, Sa j = true ↔ j ∈ hr.take i)
    ⟨rfl, d, _, p, w, _, rfl, hd, Sh.refl p s.c, by simp⟩ (fun _ _ _ _ _ => rfl) (fun i x env st' hi ⟨e1, d1, a10, pa, wa, Sa, e2, hda, sha, hSa⟩ => by
      subst e1 e2
      rw [List.getElem?_map] at hi
      cases qi : hr[i]? with
      | none => rw [qi] at hi; cases hi
      | some h =>
        rw [qi] at hi
        cases hi
        have hin : h ∈ hr := List.mem_of_getElem? qi
        obtain ⟨b1, b2, b3⟩ := (hmem h).mp (List.mem_cons_of_mem _ hin)
        obtain ⟨k1, k2⟩ := colm h b1 b2
        have k1' : h < pa.length := by rw [sha.same.len]; exact k1
        have k2' : s.c < cellsIn pa h := by rw [sha.same.cells]; exact k2
        obtain ⟨rr, x6, x7, _⟩ := ixC hda k1' k2'
        have wo := with_ok (sha.ok hp) hda k1' k2' ((cellAt pa h s.c).drop 1)
        have nS : Sa h = false := by
          cases z : Sa h with
          | false => rfl
          | true =>
            have := (hSa h).mp z
            obtain ⟨j, hj⟩ := List.mem_iff_getElem?.mp this
            rw [List.getElem?_take] at hj
            split at hj
            · rename_i hlt
              obtain ⟨l1, g1⟩ := List.getElem?_eq_some_iff.mp hj
              obtain ⟨l2, g2⟩ := List.getElem?_eq_some_iff.mp qi
              exact absurd (g1.trans g2.symm) (List.pairwise_iff_getElem.mp ndr j i l1 l2 hlt)
            · cases hj
        refine turn_eq (e := [some d, some y.enc, some (.tup [.int s.c, .int s.b, .int s.e, .int (wid y (cellsOf p s)), .bl (right (cellsOf p s)), .ref n]), some (.int s.c), some (.int s.b), some (.int s.e), some (.int (wid y (cellsOf p s))), some (.bl (right (cellsOf p s))), some (.ref n), some (.lst (encP (setCell pa h s.c ((cellAt pa h s.c).drop 1)))), some (.int h), none, none, none, none, none, none]) (s := st) (by
          simp only [List.drop_one] at wo ⊢
          simp [x6, x7, slG, cs, wo]) ⟨rfl, _, _, _, [], _, rfl, rfl, sha.step k1 k2 nS, fun j => ?_⟩
        rw [take_snoc qi, List.mem_append]
        simp only [Bool.or_eq_true, hSa j, beq_iff_eq, List.mem_singleton])
  rw [List.length_map, List.take_length] at hSa
  obtain ⟨b1, b2, b3⟩ := (hmem h0).mp List.mem_cons_self
  have pa_ok := sha.ok hp
  have nS0 : Sa h0 = false := by
    cases z : Sa h0 with
    | false => rfl
    | true => exact absurd ((hSa h0).mp z) h0n
  have hsa : s ∈ stts pa := by rw [sha.same.stts]; exact hs
  obtain ⟨t1, m1, o1, n1, rfl, _⟩ := of_ok pa_ok hy hda hsa
  have wa1 : wid y (cellsOf pa s) = wid y (cellsOf p s) := by
    unfold wid; rw [sha.most1 b1 b2 b3 nS0]
  rw [wa1] at o1
  obtain ⟨k1, k2⟩ := colm h0 b1 b2
  have k1' : h0 < pa.length := by rw [sha.same.len]; exact k1
  have k2' : s.c < cellsIn pa h0 := by rw [sha.same.cells]; exact k2
  have hda1 : listOf (st ++ m1) d1 = some (encP pa, wa) := listOf_stays (Stays.app _ _) hda
  obtain ⟨rr, x6, x7, _⟩ := ixC hda1 k1' k2'
  have wo := with_ok pa_ok hda1 k1' k2' ((cellAt pa h0 s.c).drop 1)
  have shb := sha.step k1 k2 nS0
  obtain ⟨pb, hpb⟩ : ∃ pb, pb = setCell pa h0 s.c ((cellAt pa h0 s.c).drop 1) := ⟨_, rfl⟩
  rw [← hpb] at wo shb
  have hSb : ∀ k, s.b ≤ k → k < s.e → ((Sa k || k == h0) = true ↔ ((cellAt p k s.c).length : Int) = most (cellsOf p s)) := fun k x1 x2 => by
    rw [Bool.or_eq_true, hSa k, beq_iff_eq]
    have := hmem k
    simp only [List.mem_cons, x1, x2, true_and] at this
    rw [← this]
    exact Or.comm
  have wb : wid y (cellsOf pb s) = wid y (cellsOf p s) - 1 := by
    unfold wid
    rw [shb.most2 slt hSb hm]
    omega
  have pb_ok := shb.ok hp
  have hsb : s ∈ stts pb := by rw [shb.same.stts]; exact hs
  obtain ⟨t2, m2, o2, n2, rfl, _⟩ := of_ok pb_ok hy (d := .lst (encP pb)) (w := []) (st := st ++ m1) rfl hsb
  rw [wb] at o2
  obtain ⟨S2, hS2⟩ : ∃ S2, S2 = st ++ m1 ++ m2 := ⟨_, rfl⟩
  rw [← hS2] at o2
  have hd2 : listOf S2 d = some (encP p, w) := by rw [hS2, List.append_assoc]; exact listOf_stays (Stays.app _ _) hd
  obtain ⟨M3, so3⟩ := stops_ok hp hy hd2
  obtain ⟨S3, hS3⟩ : ∃ S3, S3 = layS (S2 ++ M3) p (sumW p y) := ⟨_, rfl⟩
  rw [← hS3] at so3
  obtain ⟨M4, so4⟩ := stops_ok (st := S3) pb_ok hy (d := .lst (encP pb)) (w := []) rfl
  obtain ⟨S4, hS4⟩ : ∃ S4, S4 = layS (S3 ++ M4) pb (sumW pb y) := ⟨_, rfl⟩
  rw [← hS4] at so4
  obtain ⟨i1, hi1⟩ : ∃ i1, i1 = S2.length + M3.length := ⟨_, rfl⟩
  obtain ⟨i2, hi2⟩ : ∃ i2, i2 = S3.length + M4.length := ⟨_, rfl⟩
  have st34 : Stays S3 S4 := by
    obtain ⟨m, e⟩ : ∃ m, S4 = S3 ++ m := by rw [hS4]; exact lay_pre S3 M4 pb _
    rw [e]; exact Stays.app _ _
  have L1 : Lays S4 i1 p (sumW p y) := by
    have := lays_of (S2 ++ M3) p (sumW p y)
    rw [← hS3, List.length_append, ← hi1] at this
    exact this.stays st34
  have L2 : Lays S4 i2 pb (sumW pb y) := by
    have := lays_of (S3 ++ M4) pb (sumW pb y)
    rw [← hS4, List.length_append, ← hi2] at this
    exact this
  rw [← hi1] at so3
  rw [← hi2] at so4
  have hx0 : ixG (st ++ m1) (.ref n) (.int 0) = .ok (.int h0, st ++ m1) := by
    have e : lstOf (st ++ m1) (.ref n) = some ((h0 :: hr).map (fun (k : Nat) => D.int (k : Int))) := by simp only [lstOf, get_app hn]
    simp only [ixG, e, List.map_cons, atI_0]
    rfl
  have at3 : ∀ a b c d e f : D, atI [a, b, c, d, e, f] 3 = some d := fun a b c d e f => atI_nat [a, b, c, d, e, f] 3
  have mb : (-1000000 ≤ (s.b : Int) ∧ (s.b : Int) ≤ 1000000) ∧ -1000000 ≤ (s.e : Int) ∧ (s.e : Int) ≤ 1000000 := by omega
  have en2 : ((s.e : Int) - (s.b : Int)).toNat = s.e - s.b := by omega
  have hle : s.e - s.b ≤ LIM := le_LIM (by omega)
  have pre : ∃ m, S4 = st ++ m := by
    have q1 : ∃ m, S3 = S2 ++ m := by rw [hS3]; exact lay_pre S2 M3 p _
    have q2 : ∃ m, S4 = S3 ++ m := by rw [hS4]; exact lay_pre S3 M4 pb _
    exact pre_trans ⟨m1 ++ m2, by rw [hS2, List.append_assoc]⟩ (pre_trans q1 q2)
  obtain ⟨mz, hmz⟩ := pre
  refine ⟨mz, ?_⟩
  rw [← hmz]
  have shiftL : ∀ k, s.b ≤ k → k < s.e → rowI pb (sumW pb y) k = ((List.range (cellsIn p k)).map fun c => sumW p y k c - if s.c < c then 1 else 0).map .int := fun k x1 x2 => rowI_shift shb hs wb x1 x2
  simp only [List.drop_one] at wo
  generalize wid y (cellsOf p s) = W at o1 o2 ⊢
  generalize right (cellsOf p s) = rt at ⊢
  generalize right (cellsOf pa s) = rt1 at o1
  generalize right (cellsOf pb s) = rt2 at o2
  simp [o1, at3, hx0, x6, x7, slG, cs, wo, o2, subG, so3, so4, mb, en2, hle]
  generalize q : forGo _ _ _ _ _ _ = r
  obtain ⟨e', s', rfl, rfl, a10', a14', a15', a16', rfl⟩ := for_at q (fun i env st' => S4 = st' ∧ ∃ a10 a14 a15 a16, env = [some d, some y.enc, some (.tup [.int s.c, .int s.b, .int s.e, .int W, .bl rt, .ref n]), some (.int s.c), some (.int s.b), some (.int s.e), some (.int W), some (.bl rt), some (.ref n), some d1, a10, some (.lst (encP pb)), some (.ref i1), some (.ref i2), a14, a15, a16])
    ⟨rfl, _, _, _, _, rfl⟩ (fun _ _ _ _ _ => rfl) (fun i x env st' hi ⟨e1, a10, a14, a15, a16, e2⟩ => by
      subst e1 e2
      obtain ⟨hi3, rfl⟩ := ints_getL hi
      have kp : s.b + i < p.length := by omega
      have kb : s.b + i < pb.length := by rw [shb.same.len]; exact kp
      have c6 := (cellsIn_le hp kp).2
      have x1 := L1.ixF kp
      have x2 := L2.ixF kb
      rw [show ((s.b + i : Nat) : Int) = (s.b : Int) + (i : Int) by omega] at x1 x2
      have r1 : listOf S4 (.ref (i1 + 1 + (s.b + i))) = some (rowI p (sumW p y) (s.b + i), [(i1 + 1 + (s.b + i), rowI p (sumW p y) (s.b + i))]) := by simp only [listOf, L1.2 _ kp]
      have pl : (pairUp (rowI p (sumW p y) (s.b + i))).length ≤ LIM := by rw [pairUp_len, rowI_len]; exact le_LIM (by omega)
      have lc : lcGo [(i1 + 1 + (s.b + i), rowI p (sumW p y) (s.b + i))] (.two 15 16) tYesD (eOp subG (eV 16) (eB intG (aCons (eOp gtG (eV 15) (eV 3)) (aNil)))) [some d, some y.enc, some (.tup [.int s.c, .int s.b, .int s.e, .int W, .bl rt, .ref n]), some (.int s.c), some (.int s.b), some (.int s.e), some (.int W), some (.bl rt), some (.ref n), some d1, some (.int ((s.b : Int) + (i : Int))), some (.lst (encP pb)), some (.ref i1), some (.ref i2), a14, none, none] (pairUp (rowI p (sumW p y) (s.b + i))) [] S4
          = .ok (((List.range (cellsIn p (s.b + i))).map fun c => sumW p y (s.b + i) c - if s.c < c then 1 else 0).map .int, S4) := by
        generalize q : lcGo _ _ _ _ _ _ _ _ = r
        obtain ⟨acc, s'', rfl, rfl, rfl⟩ := lc_at q (fun j acc st' => S4 = st' ∧ acc = (((List.range (cellsIn p (s.b + i))).map fun c => sumW p y (s.b + i) c - if s.c < c then 1 else 0).map D.int).take j) ⟨rfl, rfl⟩ (fun j acc st' _ hI => by rw [← hI.1]; exact still_list r1) (fun j x acc st' hj ⟨e1, e2⟩ => by
          subst e1 e2
          obtain ⟨v, hv, rfl⟩ := pairUp_at hj
          have hjl : j < cellsIn p (s.b + i) := by have := (List.getElem?_eq_some_iff.mp hv).1; simpa using this
          rw [rowI_at _ hjl] at hv
          cases hv
          have e3 : (((List.range (cellsIn p (s.b + i))).map fun c => sumW p y (s.b + i) c - if s.c < c then 1 else 0).map D.int)[j]? = some (.int (sumW p y (s.b + i) j - if s.c < j then 1 else 0)) := by simp [hjl]
          refine ⟨_, rfl, ?_⟩
          rw [take_snoc e3]
          by_cases z : s.c < j
          · have z' : (s.c : Int) < (j : Int) := by omega
            simp [gtG, intG, subG, z, z']
          · have z' : ¬ (s.c : Int) < (j : Int) := by omega
            simp [gtG, intG, subG, z, z'])
        rw [pairUp_len, rowI_len, List.take_of_length_le (by simp)]
      have ee : eqG true S4 (.ref (i2 + 1 + (s.b + i))) (.lst (((List.range (cellsIn p (s.b + i))).map fun c => sumW p y (s.b + i) c - if s.c < c then 1 else 0).map .int)) = .ok (.bl false, S4) := by
        rw [eqG_refL (L2.2 _ kb), shiftL _ (by omega) (by omega)]
        have := dps_ints ((List.range (cellsIn p (s.b + i))).map fun c => sumW p y (s.b + i) c - if s.c < c then 1 else 0)
        rw [eqG_pl (by rw [pl_lst]; exact pls_ints _) (by rw [pl_lst]; exact pls_ints _) (by rw [dp_lst]; omega) (by rw [dp_lst]; omega)]
        simp
      generalize ((List.range (cellsIn p (s.b + i))).map fun c => sumW p y (s.b + i) c - if s.c < c then 1 else 0).map D.int = dueL at lc ee
      refine turn_eq (e := [some d, some y.enc, some (.tup [.int s.c, .int s.b, .int s.e, .int W, .bl rt, .ref n]), some (.int s.c), some (.int s.b), some (.int s.e), some (.int W), some (.bl rt), some (.ref n), some d1, some (.int ((s.b : Int) + (i : Int))), some (.lst (encP pb)), some (.ref i1), some (.ref i2), some (.lst dueL), a15, a16]) (s := S4) (by simp [x1, x2, r1, pl, lc, ee]) ⟨rfl, _, _, _, _, rfl⟩)
  simp
end Dl
/-! ## B27d -/
/-! Law k27, put together. -/
namespace Dl
open PySem L2
theorem len_n2 {A : Type} {l : List A} : ∀ n, l.length = n + 1 → ∃ a r, l = a :: r ∧ r.length = n := fun n h => by
  cases l with
  | nil => simp at h
  | cons a r => exact ⟨a, r, rfl, by simpa using h⟩
mutual
theorem toP_rd {st : Store} : ∀ (n : Nat) (x d : D), Rd st d x → D.dp x ≤ n → toP st n d = some (D.toQ x)
  | 0, x, _, _, h => by cases x <;> simp [D.dp] at h
  | n + 1, .non, d, h, _ => by rw [Rd] at h; subst h; rfl
  | n + 1, .bl _, d, h, _ => by rw [Rd] at h; subst h; rfl
  | n + 1, .int _, d, h, _ => by rw [Rd] at h; subst h; rfl
  | n + 1, .str _, d, h, _ => by rw [Rd] at h; subst h; rfl
  | n + 1, .tup xs, d, h, k => by
    rw [Rd] at h
    obtain ⟨ds, rfl, h⟩ := h
    rw [D.dp] at k
    rw [toP]
    simp only [toPs_rd n xs ds h (by omega), D.toQ]
  | n + 1, .lst xs, d, h, k => by
    rw [Rd] at h
    obtain ⟨ds, w, hl, h⟩ := h
    rw [D.dp] at k
    have e := toPs_rd n xs ds h (by omega)
    unfold listOf at hl
    split at hl
    · cases hl
      rw [toP]
      simp only [e, D.toQ]
    · split at hl
      · cases hl
        rename_i e2
        rw [toP]
        simp only [e2, e, D.toQ]
      · cases hl
    · cases hl
  | n + 1, .ref _, d, h, _ => by rw [Rd] at h; exact h.elim
  | n + 1, .scr _, d, h, _ => by rw [Rd] at h; exact h.elim
theorem toPs_rd {st : Store} : ∀ (n : Nat) (xs ds : List D), Rds st ds xs → D.dps xs ≤ n → optAll (ds.map (toP st n)) = some (D.toQs xs)
  | n, [], [], _, _ => by simp [optAll, D.toQs]
  | n, x :: xs, d :: ds, h, k => by
    rw [Rds] at h
    rw [D.dps, Nat.max_le] at k
    rw [List.map_cons, toP_rd n x d h.1 k.1, optAll, toPs_rd n xs ds h.2 k.2]
    simp only [D.toQs]
  | n, [], _ :: _, h, _ => by simp [Rds] at h
  | n, _ :: _, [], h, _ => by simp [Rds] at h
end
theorem eq_nil_rd {neg : Bool} {st : Store} {d : D} {xs : List D} (h : Rd st d (.lst xs)) (k : D.dps xs ≤ 39) : eqG neg st d (.lst []) = .ok (.bl (if neg = true then !decide (xs = []) else decide (xs = [])), st) := by
  unfold eqG
  rw [toP_rd 40 _ _ h (by rw [dp_lst]; omega)]
  have e : toP st 40 (.lst []) = some (.list []) := by rw [toP]; rfl
  rw [e]
  cases xs with
  | nil => simp [D.toQ, D.toQs, PyData.eqv, PyData.eqvAll]
  | cons x xs => simp [D.toQ, D.toQs, PyData.eqv, PyData.eqvAll]
theorem hold_nil {p : Page} {s : Stt} {y : Sty} (hb : s.b < s.e) (h : hold y s.b (cellsOf p s) = []) : wid y (cellsOf p s) = y.l := by
  by_cases hm : most (cellsOf p s) + y.g ≤ y.l
  · unfold wid; omega
  · exfalso
    obtain ⟨⟨k, k1, k2, k3⟩, _⟩ := most_cells (p := p) (s := s) hb
    unfold hold at h
    rw [if_neg hm, List.map_eq_nil_iff, List.filter_eq_nil_iff] at h
    have := h (k - s.b) (by rw [List.mem_range, cellsOf_len]; omega)
    have e : (cellsOf p s).getD (k - s.b) [] = cellAt p k s.c := by
      have : k - s.b < s.e - s.b := by omega
      unfold cellsOf
      simp [this, show s.b + (k - s.b) = k by omega]
    rw [e] at this
    exact this (decide_eq_true k3)
def m_law_k27 : FV := funD 16 (d_law_k27 m_law_begun m_law_page m_law_take m_law_style m_stretches m_law_shorter m_law_longer)
theorem law_k27_true (ns : List Int) (_ : ns.length ≤ 63) : ∃ st, m_law_k27 [.scr ns] [] = .ok (.bl true, st) := by
  rw [m_law_k27, funD, d_law_k27]
  obtain ⟨b, hb⟩ := begun_ok ns
  simp [hb]
  generalize q : forGo _ _ _ _ _ _ = r
  obtain ⟨e, s, rfl, b', rest, rfl, e', rfl, he'⟩ := for_at q (fun i env st' => ∃ b rest, st' = Bx b rest ∧ ∃ e', env = [some (.scr ns), some (.ref 1)] ++ e' ∧ e'.length = 14) ⟨b, [], rfl, _, rfl, rfl⟩ (fun _ _ _ _ _ => rfl) (fun i x env st' hi ⟨b, rest, e1, e', e2, e3⟩ => by
    subst e1 e2
    obtain ⟨a2, r2, rfl, q2⟩ := len_n2 13 e3
    obtain ⟨a3, r3, rfl, q3⟩ := len_n2 12 q2
    obtain ⟨a4, r4, rfl, q4⟩ := len_n2 11 q3
    obtain ⟨a5, r5, rfl, q5⟩ := len_n2 10 q4
    obtain ⟨a6, r6, rfl, q6⟩ := len_n2 9 q5
    obtain ⟨a7, r7, rfl, q7⟩ := len_n2 8 q6
    obtain ⟨a8, r8, rfl, q8⟩ := len_n2 7 q7
    obtain ⟨a9, a10, a11, a12, a13, a14, a15, rfl⟩ := len7 q8
    obtain ⟨y0, ey, my⟩ := atI_mem (l := [D.int 4, D.int 12, D.int 30]) (i := (tk b 3).1) (tk_lo b (by decide)) (tk_hi b (by decide))
    have hy : ∃ n : Int, y0 = .int n ∧ 1 ≤ n ∧ n ≤ 30 := by
      simp at my
      rcases my with rfl | rfl | rfl <;> exact ⟨_, rfl, by decide, by decide⟩
    obtain ⟨n, rfl, n0, n9⟩ := hy
    obtain ⟨p, b2, hp, _, ep⟩ := page_ok (tk b 3).2 rest n n0 n9
    obtain ⟨y, b3, hy, es⟩ := style_ok b2 (rest ++ [.lst (encP p)])
    obtain ⟨p1, p2, p3⟩ := okPage_parts hp
    have lp0 : listOf (Bx b3 (rest ++ [.lst (encP p)])) (.ref (rest.length + 2)) = some (encP p, [(rest.length + 2, encP p)]) := by simp [listOf]
    obtain ⟨T, more, sk, hT⟩ := stretches_ok hp hy lp0
    obtain ⟨Z, hZ⟩ : ∃ Z, Z = rest ++ [.lst (encP p)] ++ .lst T :: more := ⟨_, rfl⟩
    have l0 : (Bx b3 (rest ++ [.lst (encP p)])).length = rest.length + 3 := by simp
    rw [l0, Bx_app, ← hZ] at sk hT
    have gP : ∀ b m, (Bx b (Z ++ m))[rest.length + 2]? = some (.lst (encP p)) := fun b m => by rw [Bx_get, hZ]; simp
    have gT : ∀ b m, (Bx b (Z ++ m))[rest.length + 3]? = some (.lst T) := fun b m => by
      rw [show rest.length + 3 = (rest.length + 1) + 2 by omega, Bx_get, hZ]; simp
    have lp : ∀ b m, listOf (Bx b (Z ++ m)) (.ref (rest.length + 2)) = some (encP p, [(rest.length + 2, encP p)]) := fun b m => by simp only [listOf, gP]
    have tl := hT.len
    have t150 := stts_le hp
    have gT0 := gT b3 []
    rw [List.append_nil] at gT0
    have rdT : Rd (Bx b3 Z) (.ref (rest.length + 3)) (.lst ((stts p).map (tupL p y))) := by
      rw [Rd]
      exact ⟨T, [(rest.length + 3, T)], by simp only [listOf, gT0], rds_all (hT.imp fun a b h => tup_rd h)⟩
    have e1 := eq_nil_rd (neg := true) rdT (by have := due_dp p y; rw [dp_lst] at this; omega)
    have lT : lenG (Bx b3 Z) [.ref (rest.length + 3)] = .ok (.int T.length, Bx b3 Z) := len_list (w := (T, [(rest.length + 3, T)])) (by simp only [listOf, gT0])
    simp only [List.map_eq_nil_iff] at e1
    by_cases hn : stts p = []
    · simp only [hn, decide_true, Bool.not_true, if_true] at e1
      simp [take_eq, ey, ep, es, sk, e1]
      exact ⟨_, _, rfl⟩
    · have e1' : eqG true (Bx b3 Z) (.ref (rest.length + 3)) (.lst []) = .ok (.bl true, Bx b3 Z) := by rw [e1]; simp [hn]
      have Tpos : 0 < T.length := by
        rw [tl]; exact List.length_pos_iff.mpr hn
      have Tp : (0 : Int) < (T.length : Int) := by omega
      have Tq : (T.length : Int) < 18446744073709551616 := by omega
      obtain ⟨b4, hb4⟩ : ∃ b4, b4 = (tk b3 T.length).2 := ⟨_, rfl⟩
      obtain ⟨t, et, mt⟩ := atI_mem (l := T) (i := (tk b3 T.length).1) (tk_lo b3 Tp) (tk_hi b3 Tp)
      obtain ⟨j, hj⟩ := List.mem_iff_getElem?.mp mt
      obtain ⟨s, hs, k, k1, rfl, k2⟩ := hT.get hj
      have hsm := List.mem_of_getElem? hs
      have so := stts_mem hsm
      have slt := so.lt
      have sle := so.le
      have gK : ∀ b m, (Bx b (Z ++ m))[k]? = some (.lst ((hold y s.b (cellsOf p s)).map .int)) := fun b m => bx_at k2 (by omega)
      have tk1 : m_law_take [.ref 1, .int T.length] (Bx b3 Z) = .ok (.int (tk b3 T.length).1, Bx b4 Z) := by rw [hb4]; exact take_eq b3 Z _ Tp Tq
      have ixT : ixG (Bx b4 Z) (.ref (rest.length + 3)) (.int (tk b3 T.length).1) = .ok (.tup [.int s.c, .int s.b, .int s.e, .int (wid y (cellsOf p s)), .bl (right (cellsOf p s)), .ref k], Bx b4 Z) := by
        have := gT b4 []
        rw [List.append_nil] at this
        have e : lstOf (Bx b4 Z) (.ref (rest.length + 3)) = some T := by simp only [lstOf, this]
        simp only [ixG, e, et]
        rfl
      have gK4 := gK b4 []
      have lp4 := lp b4 []
      rw [List.append_nil] at gK4 lp4
      have eH : ∀ neg, eqG neg (Bx b4 Z) (.ref k) (.lst []) = .ok (.bl (if neg = true then !decide (hold y s.b (cellsOf p s) = []) else decide (hold y s.b (cellsOf p s) = [])), Bx b4 Z) := fun neg => by
        rw [eqG_refL gK4, eqG_pl (by rw [pl_lst]; exact pls_ints _) rfl (by rw [dp_lst]; have := dps_ints (hold y s.b (cellsOf p s)); omega) (by simp)]
        simp
      have mb : (-1000000 ≤ (s.b : Int) ∧ (s.b : Int) ≤ 1000000) ∧ -1000000 ≤ (s.e : Int) ∧ (s.e : Int) ≤ 1000000 := by omega
      have en2 : ((s.e : Int) - (s.b : Int)).toNat = s.e - s.b := by omega
      have hle : s.e - s.b ≤ LIM := le_LIM (by omega)
      have lc : lcGo [] (.one 15) (tv (eOp (eqG true) (eOp ixG (eOp ixG (eV 3) (eV 15)) (eV 7)) (eC (.str [])))) (eV 15) [some (.scr ns), some (.ref 1), some x, some (.ref (rest.length + 2)), some y.enc, some (.ref (rest.length + 3)), some (.tup [.int s.c, .int s.b, .int s.e, .int (wid y (cellsOf p s)), .bl (right (cellsOf p s)), .ref k]), some (.int s.c), some (.int s.b), some (.int s.e), some (.int (wid y (cellsOf p s))), some (.bl (right (cellsOf p s))), some (.ref k), a13, a14, none] (intsD s.b (s.e - s.b)) [] (Bx b4 Z)
          = .ok ((intsD s.b (s.e - s.b)).filter (fun d => match d with | .int i => decide (cellAt p i.toNat s.c ≠ []) | _ => false), Bx b4 Z) := by
        refine lc_keep rfl _ _ (fun d' hd' => ?_) (by simp)
        obtain ⟨i, hi, rfl⟩ := List.mem_map.mp hd'
        rw [List.mem_range] at hi
        obtain ⟨R', i1, i2⟩ := cell_ix lp4 (so.clo (s.b + i) (by omega) (by omega))
        rw [show ((s.b + i : Nat) : Int) = (s.b : Int) + (i : Int) by omega] at i1
        have e0 : ((s.b : Int) + (i : Int)).toNat = s.b + i := by omega
        simp [i1, i2, e0]
      obtain ⟨em, hem, emI⟩ : ∃ em : Bool, eqG false (Bx b4 Z) (.lst ((intsD s.b (s.e - s.b)).filter (fun d => match d with | .int i => decide (cellAt p i.toNat s.c ≠ []) | _ => false))) (.lst []) = .ok (.bl em, Bx b4 Z) ∧ (em = false → 1 ≤ most (cellsOf p s)) := by
        have pl0 : D.pls ((intsD s.b (s.e - s.b)).filter (fun d => match d with | .int i => decide (cellAt p i.toNat s.c ≠ []) | _ => false)) = true := pls_iff.mpr fun d hd => by
          obtain ⟨i, _, rfl⟩ := List.mem_map.mp (List.mem_filter.mp hd).1; rfl
        have dp0 : D.dps ((intsD s.b (s.e - s.b)).filter (fun d => match d with | .int i => decide (cellAt p i.toNat s.c ≠ []) | _ => false)) ≤ 1 := dps_le.mpr fun d hd => by
          obtain ⟨i, _, rfl⟩ := List.mem_map.mp (List.mem_filter.mp hd).1; exact Nat.le_refl _
        refine ⟨_, eq_nilD pl0 (by omega), fun h => ?_⟩
        have h := of_decide_eq_false h
        rw [List.filter_eq_nil_iff] at h
        have : ∃ i, i < s.e - s.b ∧ cellAt p (s.b + i) s.c ≠ [] := by
          refine Classical.byContradiction fun hc => h fun d hd => ?_
          obtain ⟨i, hi, rfl⟩ := List.mem_map.mp hd
          rw [List.mem_range] at hi
          have e0 : ((s.b : Int) + (i : Int)).toNat = s.b + i := by omega
          simp only [e0, decide_eq_true_eq]
          exact fun z => hc ⟨i, hi, z⟩
        obtain ⟨i, hi, hne⟩ := this
        have := (most_cells (p := p) (s := s) slt).2 (s.b + i) (by omega) (by omega)
        have : 0 < (cellAt p (s.b + i) s.c).length := List.length_pos_iff.mpr hne
        omega
      generalize (intsD s.b (s.e - s.b)).filter (fun d => match d with | .int i => decide (cellAt p i.toNat s.c ≠ []) | _ => false) = kept at lc hem
      -- the last part, from any store behind
      have last : ∀ M, ∃ b5 M', ∀ a14 a15, ∃ a14', (sCons (sAsg (eOp (addG false) (eV 8) (eCall 2 m_law_take (aCons (eV 1) (aCons (eOp subG (eV 9) (eV 8)) (aNil))))) (gN 14)) (sIf (tAndD (tv (eOp ltG (eB lenG (aCons (eOp ixG (eOp ixG (eV 3) (eV 14)) (eV 7)) (aNil))) (eC (.int 10)))) (tNotD (tv (eCall 4 m_law_longer (aCons (eV 3) (aCons (eV 4) (aCons (eV 6) (aCons (eV 14) (aNil))))))))) (sRet (eC (.bl false))) (sNext)))
            [some (.scr ns), some (.ref 1), some x, some (.ref (rest.length + 2)), some y.enc, some (.ref (rest.length + 3)), some (.tup [.int s.c, .int s.b, .int s.e, .int (wid y (cellsOf p s)), .bl (right (cellsOf p s)), .ref k]), some (.int s.c), some (.int s.b), some (.int s.e), some (.int (wid y (cellsOf p s))), some (.bl (right (cellsOf p s))), some (.ref k), some (.bl em), a14, a15] (Bx b4 (Z ++ M))
          = .nx [some (.scr ns), some (.ref 1), some x, some (.ref (rest.length + 2)), some y.enc, some (.ref (rest.length + 3)), some (.tup [.int s.c, .int s.b, .int s.e, .int (wid y (cellsOf p s)), .bl (right (cellsOf p s)), .ref k]), some (.int s.c), some (.int s.b), some (.int s.e), some (.int (wid y (cellsOf p s))), some (.bl (right (cellsOf p s))), some (.ref k), some (.bl em), a14', a15] (Bx b5 (Z ++ M')) := fun M => by
        have dp : (0 : Int) < (s.e : Int) - (s.b : Int) := by omega
        have dq : (s.e : Int) - (s.b : Int) < 18446744073709551616 := by omega
        have tlo := tk_lo b4 dp
        have thi := tk_hi b4 dp
        obtain ⟨b5, hb5⟩ : ∃ b5, b5 = (tk b4 ((s.e : Int) - (s.b : Int))).2 := ⟨_, rfl⟩
        have tk2 := take_eq b4 (Z ++ M) _ dp dq
        rw [← hb5] at tk2
        obtain ⟨kk, hkk⟩ : ∃ kk : Nat, (tk b4 ((s.e : Int) - (s.b : Int))).1 = (kk : Int) := ⟨_, (Int.toNat_of_nonneg tlo).symm⟩
        rw [hkk] at tk2 tlo thi
        have c1 : s.b ≤ s.b + kk := by omega
        have c2 : s.b + kk < s.e := by omega
        obtain ⟨R', i1, i2⟩ := cell_ix (lp b5 M) (so.clo (s.b + kk) c1 c2)
        rw [show ((s.b + kk : Nat) : Int) = (s.b : Int) + (kk : Int) by omega] at i1
        by_cases hl : (cellAt p (s.b + kk) s.c).length < 10
        · have hl' : ((cellAt p (s.b + kk) s.c).length : Int) < 10 := by omega
          obtain ⟨more, lo⟩ := longer_ok hp hy (lp b5 M) hsm c1 c2 hl k
          rw [show ((s.b + kk : Nat) : Int) = (s.b : Int) + (kk : Int) by omega] at lo
          refine ⟨b5, M ++ more, fun a14 a15 => ⟨some (.int ((s.b : Int) + (kk : Int))), ?_⟩⟩
          rw [Bx_app, List.append_assoc] at lo
          simp [subG, addG, tk2, i1, i2, ltG, hl', lo]
        · have hl' : ¬ ((cellAt p (s.b + kk) s.c).length : Int) < 10 := by omega
          refine ⟨b5, M, fun a14 a15 => ⟨some (.int ((s.b : Int) + (kk : Int))), ?_⟩⟩
          simp [subG, addG, tk2, i1, i2, ltG, hl']
      generalize hlast : (sCons (sAsg (eOp (addG false) (eV 8) (eCall 2 m_law_take (aCons (eV 1) (aCons (eOp subG (eV 9) (eV 8)) (aNil))))) (gN 14)) (sIf (tAndD (tv (eOp ltG (eB lenG (aCons (eOp ixG (eOp ixG (eV 3) (eV 14)) (eV 7)) (aNil))) (eC (.int 10)))) (tNotD (tv (eCall 4 m_law_longer (aCons (eV 3) (aCons (eV 4) (aCons (eV 6) (aCons (eV 14) (aNil))))))))) (sRet (eC (.bl false))) (sNext))) = LAST at last ⊢
      by_cases hh : hold y s.b (cellsOf p s) = []
      · have hw := hold_nil slt hh
        have eF := eH false
        have eTr := eH true
        simp only [hh, decide_true, Bool.not_true, if_true, Bool.false_eq_true, if_false] at eF eTr
        obtain ⟨b5, M', la⟩ := last []
        rw [List.append_nil] at la
        obtain ⟨a14', la⟩ := la a14 a15
        rw [hw] at la lc ixT
        simp [take_eq, ey, ep, es, sk, e1', lT, tk1, ixT, eF, eTr, mb, en2, hle, lc, hem, la]
        exact ⟨_, _, rfl⟩
      · have eF := eH false
        have eTr := eH true
        simp only [hh, decide_false, Bool.not_false, if_true, Bool.false_eq_true, if_false] at eF eTr
        cases em with
        | true =>
          obtain ⟨b5, M', la⟩ := last []
          rw [List.append_nil] at la
          obtain ⟨a14', la⟩ := la a14 a15
          simp [take_eq, ey, ep, es, sk, e1', lT, tk1, ixT, eF, eTr, mb, en2, hle, lc, hem, la]
          exact ⟨_, _, rfl⟩
        | false =>
          obtain ⟨mo, sh⟩ := shorter_ok hp hy lp4 hsm hh (emI rfl) gK4
          rw [Bx_app] at sh
          obtain ⟨b5, M', la⟩ := last mo
          obtain ⟨a14', la⟩ := la a14 a15
          simp [take_eq, ey, ep, es, sk, e1', lT, tk1, ixT, eF, eTr, mb, en2, hle, lc, hem, sh, la]
          exact ⟨_, _, rfl⟩)
  simp
end Dl
/-! ## DlDict2 -/
/-! d.get(k, x). -/
namespace Dl
open PySem L2
def isDct (st : Store) : D → Bool
  | .ref n => match st[n]? with
    | some (.dT _) => true
    | some (.dK _) => true
    | _ => false
  | _ => false
theorem isDct_ok {W : Wd} {Rs F H : Hp} {r : List Addr} {st : Store} {x : V} {dx : D} (h : Holds W Rs F H r st) (kx : Rep F r x dx) (e : isDct st dx = true) : ∃ a, x = .ref a ∧ IsD H a := by
  cases kx with
  | @ref a n q =>
    unfold isDct at e
    simp only at e
    split at e
    · rename_i kvs e1
      obtain ⟨vs, h1, _⟩ := h.ob n a _ q e1
      exact ⟨a, rfl, .inr ⟨vs, .inl h1⟩⟩
    · rename_i kvs e1
      obtain ⟨vs, h1, _⟩ := h.ob n a _ q e1
      exact ⟨a, rfl, .inl ⟨vs, .inl h1⟩⟩
    · cases e
  | _ => cases e
/-- d.get(k, x) -/
def eGet2 (fo fk fx : EV) : EV := fun env st => (fo env st).bind fun o => if isDct o.2 o.1 = true then (fk env o.2).bind fun k => (fx env k.2).bind fun x => match dvalG x.2 o.1 k.1 with
  | some v => .ok (v.getD x.1, x.2)
  | none => .bad else .bad
@[simp] theorem r_eGet2 (fo fk fx : EV) (env : Env) (st : Store) : eGet2 fo fk fx env st = (fo env st).bind fun o => if isDct o.2 o.1 = true then (fk env o.2).bind fun k => (fx env k.2).bind fun x => match dvalG x.2 o.1 k.1 with
  | some v => .ok (v.getD x.1, x.2)
  | none => .bad else .bad := (rfl)
theorem de_get2 {W : Wd} {X : Cx} {E : XK} {o k x : Expr} {fo fk fx : EV} {apos cpos : Pos} (hu : X.A.units + 1 < cLine) (ho : DE W X E o fo) (hk : DE W X E k fk) (hx : DE W X E x fx) (m : M2 X o "get" apos k x cpos) : DE W X E (.Call (.Attribute o "get" apos) [k, x] [] cpos) (eGet2 fo fk fx) := by
  obtain ⟨t1, p1, q1⟩ := ho.ex
  obtain ⟨t2, p2, q2⟩ := hk.ex
  obtain ⟨t3, p3, q3⟩ := hx.ex
  refine .mk (pe_dget2 hu p1 p2 p3 m) fun Rs F H r sg env st Q hH hE hP => ?_
  refine q1 Rs F H r sg env st _ hH hE (bindX hP fun a ea z F1 H1 r1 v1 s1 x1 h1 k1 => ?_)
  split at z
  · rename_i hd
    obtain ⟨ad, rfl, isd⟩ := isDct_ok h1 k1 hd
    refine ⟨ad, rfl, isd, ?_⟩
    refine q2 Rs F1 H1 r1 sg env a.2 _ h1 (hE.mono s1 x1) (bindX (Post.later s1 x1 (res := (fk env a.2).bind _) z) fun b eb z2 F2 H2 r2 v2 s2 x2 h2 k2 => ?_)
    refine q3 Rs F2 H2 r2 sg env b.2 _ h2 (hE.mono (s1.trans s2) (x1.trans x2)) (bindX (Post.later s2 x2 (res := (fx env b.2).bind _) z2) fun c ec z3 F3 H3 r3 v3 s3 x3 h3 k3 => ?_)
    replace z3 := Post.later s3 x3 z3
    cases e : dvalG c.2 a.1 b.1 with
    | none => rw [e] at z3; exact z3.elim
    | some ov =>
      rw [e] at z3
      obtain ⟨a', ov', e1, g, kk⟩ := dval_ok h3 (k1.mono (s2.trans s3) (x2.trans x3)) (k2.mono s3 x3) e
      cases e1
      refine ⟨ov', g, ?_⟩
      cases ov with
      | none =>
        obtain rfl : ov' = none := kk
        exact onE_here h3 k3 z3
      | some d =>
        obtain ⟨v, rfl, kv⟩ := kk
        exact onE_here h3 kv z3
  · exact z.elim
end Dl
/-! ## D29 -/
/-! The meanings of some defs (printed by pick.py). -/
namespace Dl
open PySem L2
/-- law_like: 5 slots, 2 parameters -/
def d_law_like (m_law_figures : FV) (m_law_take : FV) : SV := sCons (sIf (tv (eCall 1 m_law_figures (aCons (eV 1) (aNil)))) (sCons (sAsg (eMt "str" (joinG) (eC (.str [])) (aCons (eLc false (iSeq (eSl false (eV 1) (poSome (eC (.int 1))) (poNone))) [4] (.one 4) (tYesD) (eOp ixG (eC (.str [48, 49, 50, 51, 52, 53, 54, 55, 56, 57])) (eCall 2 m_law_take (aCons (eV 0) (aCons (eC (.int 10)) (aNil)))))) (aNil))) (gN 2)) (sRet (eOp (addG false) (eIf (tv (eOp (eqG false) (eSl false (eV 1) (poNone) (poSome (eC (.int 1)))) (eC (.str [45])))) (eSl false (eV 1) (poNone) (poSome (eC (.int 1)))) (eOp ixG (eC (.str [48, 49, 50, 51, 52, 53, 54, 55, 56, 57])) (eCall 2 m_law_take (aCons (eV 0) (aCons (eC (.int 10)) (aNil)))))) (eV 2)))) (sNext)) (sCons (sAsg (eMt "str" (joinG) (eC (.str [])) (aCons (eLc false (iSeq (eV 1)) [4] (.one 4) (tYesD) (eOp ixG (eC (.str [97, 98, 99, 32, 45, 120])) (eCall 2 m_law_take (aCons (eV 0) (aCons (eC (.int 6)) (aNil)))))) (aNil))) (gN 3)) (sRet (eIf (tv (eCall 1 m_law_figures (aCons (eV 3) (aNil)))) (eOp (mulG false) (eC (.str [120])) (eB lenG (aCons (eV 1) (aNil)))) (eV 3))))
/-- law_more: 16 slots, 2 parameters -/
def d_law_more (m_stops : FV) (m_stretches : FV) : SV := sCons (sAsg (eTup (aCons (eOp (addG false) (eOp ixG (eV 1) (eC (.int 0))) (eC (.int 1))) (aCons (eOp ixG (eV 1) (eC (.int 1))) (aNil)))) (gN 2)) (sCons (sPar 3 4 (aCons (eCall 2 m_stops (aCons (eV 0) (aCons (eV 1) (aNil)))) (aCons (eCall 2 m_stops (aCons (eV 0) (aCons (eV 2) (aNil)))) (aNil)))) (sCons (sAsg (eDictT) (gN 5)) (sCons (sFor (iSeq (eCall 2 m_stretches (aCons (eV 0) (aCons (eV 1) (aNil))))) (gTp 6 (gsCons (gN 6) (gsCons (gN 7) (gsCons (gN 8) (gsCons (gN 9) (gsCons (gN 10) (gsCons (gN 11) (gsNil)))))))) (sCons (sAsg (eB maxG (aCons (eLc false (iR2 (aCons (eV 7) (aCons (eV 8) (aNil)))) [15] (.one 15) (tYesD) (eB lenG (aCons (eOp ixG (eOp ixG (eV 0) (eV 15)) (eV 6)) (aNil)))) (aNil))) (gN 12)) (sFor (iR2 (aCons (eV 7) (aCons (eV 8) (aNil)))) (gN 13) (sAsg (eOp subG (eB maxG (aCons (eOp ixG (eV 1) (eC (.int 1))) (aCons (eOp (addG false) (eV 12) (eOp ixG (eV 2) (eC (.int 0)))) (aNil)))) (eV 9)) (gSb (eV 5) (eTup (aCons (eV 13) (aCons (eV 6) (aNil)))) dsetG))))) (sCons (sFor (iR1 (aCons (eB lenG (aCons (eV 0) (aNil))) (aNil))) (gN 13) (sCons (sAsg (eC (.int 0)) (gN 14)) (sFor (iR1 (aCons (eB lenG (aCons (eOp ixG (eV 0) (eV 13)) (aNil))) (aNil))) (gN 6) (sCons (sIf (tv (eOp (eqG true) (eOp subG (eOp ixG (eOp ixG (eV 4) (eV 13)) (eV 6)) (eOp ixG (eOp ixG (eV 3) (eV 13)) (eV 6))) (eV 14))) (sRet (eC (.bl false))) (sNext)) (sAsg (eOp (addG false) (eV 14) (eGet2 (eV 5) (eTup (aCons (eV 13) (aCons (eV 6) (aNil)))) (eC (.int 0)))) (gN 14)))))) (sRet (eC (.bl true)))))))
/-- law_k29: 16 slots, 1 parameters -/
def d_law_k29 (m_law_begun : FV) (m_law_page : FV) (m_law_take : FV) (m_law_style : FV) (m_stops : FV) (m_laid : FV) (m_law_like : FV) (m_law_more : FV) : SV := sCons (sAsg (eCall 1 m_law_begun (aCons (eV 0) (aNil))) (gN 1)) (sCons (sFor (iR1 (aCons (eC (.int 3)) (aNil))) (gN 2) (sCons (sPar 3 4 (aCons (eCall 2 m_law_page (aCons (eV 1) (aCons (eOp ixG (eLst false (aCons (eC (.int 4)) (aCons (eC (.int 12)) (aCons (eC (.int 30)) (aNil))))) (eCall 2 m_law_take (aCons (eV 1) (aCons (eC (.int 3)) (aNil))))) (aNil)))) (aCons (eCall 1 m_law_style (aCons (eV 1) (aNil))) (aNil)))) (sCons (sPar 5 6 (aCons (eCall 2 m_stops (aCons (eV 3) (aCons (eV 4) (aNil)))) (aCons (eCall 2 m_laid (aCons (eV 3) (aCons (eV 4) (aNil)))) (aNil)))) (sCons (sAsg (eLc false (iSeq (eV 3)) [13] (.one 13) (tYesD) (eB tupG (aCons (eLc false (iSeq (eV 13)) [15] (.one 15) (tYesD) (eCall 2 m_law_like (aCons (eV 1) (aCons (eV 15) (aNil))))) (aNil)))) (gN 7)) (sCons (sIf (tOrD (tv (eOp (eqG true) (eCall 2 m_stops (aCons (eV 7) (aCons (eV 4) (aNil)))) (eV 5))) (tv (eOp (eqG true) (eCall 2 m_laid (aCons (eV 7) (aCons (eV 4) (aNil)))) (eV 6)))) (sRet (eC (.bl false))) (sNext)) (sCons (sIf (tOrD (tv (eOp (eqG true) (eCall 2 m_stops (aCons (eRevL false (eV 3)) (aCons (eV 4) (aNil)))) (eRevL false (eV 5)))) (tv (eOp (eqG true) (eCall 2 m_laid (aCons (eRevL false (eV 3)) (aCons (eV 4) (aNil)))) (eRevL false (eV 6))))) (sRet (eC (.bl false))) (sNext)) (sCons (sPar3 8 9 10 (aCons (eLst false (aNil)) (aCons (eLst false (aNil)) (aCons (eLst false (aNil)) (aNil))))) (sCons (sFor (iR1 (aCons (eB minG (aCons (eC (.int 15)) (aCons (eB lenG (aCons (eV 3) (aNil))) (aNil)))) (aNil))) (gN 11) (sAsg (eOp (addG false) (eV 8) (eOp (mulG false) (eLst false (aCons (eOp ixG (eV 3) (eV 11)) (aNil))) (eC (.int 2)))) (gN 8))) (sCons (sAsg (eSl false (eV 3) (poNone) (poSome (eC (.int 15)))) (gN 12)) (sCons (sFor (iZp (aCons (eCall 2 m_laid (aCons (eV 12) (aCons (eV 4) (aNil)))) (aCons (eCall 2 m_stops (aCons (eV 12) (aCons (eV 4) (aNil)))) (aNil)))) (gTp 2 (gsCons (gN 13) (gsCons (gN 14) (gsNil)))) (sPar 9 10 (aCons (eOp (addG false) (eV 9) (eOp (mulG false) (eLst false (aCons (eV 13) (aNil))) (eC (.int 2)))) (aCons (eOp (addG false) (eV 10) (eOp (mulG false) (eLst false (aCons (eV 14) (aNil))) (eC (.int 2)))) (aNil))))) (sCons (sIf (tOrD (tv (eOp (eqG true) (eCall 2 m_laid (aCons (eV 8) (aCons (eV 4) (aNil)))) (eV 9))) (tv (eOp (eqG true) (eCall 2 m_stops (aCons (eV 8) (aCons (eV 4) (aNil)))) (eV 10)))) (sRet (eC (.bl false))) (sNext)) (sIf (tAndD (tv (eOp ltG (eOp ixG (eV 4) (eC (.int 0))) (eC (.int 4)))) (tNotD (tv (eCall 2 m_law_more (aCons (eV 3) (aCons (eV 4) (aNil))))))) (sRet (eC (.bl false))) (sNext))))))))))))) (sRet (eC (.bl true))))
end Dl
/-! ## B29 -/
/-! Law k29: pages alike in what makes them lie. -/
namespace Dl
open PySem L2
def Sim (x x' : List Nat) : Prop := x.length = x'.length ∧ figs x = figs x'
theorem right_iff (ss : List (List Nat)) : right ss = true ↔ (∃ x ∈ ss, x ≠ []) ∧ ∀ x ∈ ss, x ≠ [] → figs x = true := by
  unfold right
  rw [Bool.and_eq_true, decide_eq_true_eq, List.all_eq_true]
  constructor
  · rintro ⟨h1, h2⟩
    refine ⟨?_, fun x hx hn => h2 x (List.mem_filter.mpr ⟨hx, decide_eq_true hn⟩)⟩
    obtain ⟨x, hx⟩ := List.exists_mem_of_ne_nil _ h1
    rw [List.mem_filter] at hx
    exact ⟨x, hx.1, of_decide_eq_true hx.2⟩
  · rintro ⟨⟨x, hx, hn⟩, h2⟩
    refine ⟨fun z => ?_, fun x hx => ?_⟩
    · rw [List.filter_eq_nil_iff] at z
      exact z x hx (decide_eq_true hn)
    · rw [List.mem_filter] at hx
      exact h2 x hx.1 (of_decide_eq_true hx.2)
theorem sim_nil {x x' : List Nat} (h : Sim x x') : x ≠ [] ↔ x' ≠ [] := by
  rw [← List.length_pos_iff, ← List.length_pos_iff, h.1]
theorem sim_cells {ss ss' : List (List Nat)} (h0 : ss ≠ []) (h1 : ∀ x ∈ ss, ∃ x' ∈ ss', Sim x x') (h2 : ∀ x' ∈ ss', ∃ x ∈ ss, Sim x x') : most ss = most ss' ∧ right ss = right ss' := by
  constructor
  · obtain ⟨x, hx, e⟩ := most_in h0
    obtain ⟨x', hx', s⟩ := h1 x hx
    refine (most_eq ⟨x', hx', by rw [← s.1]; exact e⟩ fun z hz => ?_).symm
    obtain ⟨w, hw, s'⟩ := h2 z hz
    have := most_ge hw
    rw [s'.1] at this
    exact this
  · rw [Bool.eq_iff_iff, right_iff, right_iff]
    constructor
    · rintro ⟨⟨x, hx, hn⟩, ha⟩
      obtain ⟨x', hx', s⟩ := h1 x hx
      refine ⟨⟨x', hx', (sim_nil s).mp hn⟩, fun z hz hn => ?_⟩
      obtain ⟨w, hw, s'⟩ := h2 z hz
      rw [← s'.2]
      exact ha w hw ((sim_nil s').mpr hn)
    · rintro ⟨⟨x, hx, hn⟩, ha⟩
      obtain ⟨x', hx', s⟩ := h2 x hx
      refine ⟨⟨x', hx', (sim_nil s).mpr hn⟩, fun z hz hn => ?_⟩
      obtain ⟨w, hw, s'⟩ := h1 z hz
      rw [s'.2]
      exact ha w hw ((sim_nil s').mp hn)
/-- all rows between are closed -/
def Run (p : Page) (c k j : Nat) : Prop := ∀ i, min k j ≤ i → i ≤ max k j → clo p c i = true
theorem run_iff {p : Page} {c k : Nat} (hk : clo p c k = true) (j : Nat) : ((sttAt p k c).b ≤ j ∧ j < (sttAt p k c).e) ↔ Run p c k j := by
  have hlt : k < p.length := by
    obtain ⟨r, hr, _⟩ := clo_row hk
    exact (List.getElem?_eq_some_iff.mp hr).1
  have eo := endOf_ok (p := p) (c := c) (k := k + 1) (by omega)
  have bl := begOf_le p c k
  have er := endOf_run hk
  have ra := run_all hk
  show (begOf p c k ≤ j ∧ j < endOf p c (begOf p c k)) ↔ _
  rw [er]
  constructor
  · rintro ⟨h1, h2⟩ i i1 i2
    exact ra i (by omega) (by omega)
  · intro h
    constructor
    · refine Classical.byContradiction fun hc => ?_
      have hb := begOf_isB k hk
      unfold isB at hb
      simp only [Bool.and_eq_true, Bool.or_eq_true, beq_iff_eq, Bool.not_eq_true'] at hb
      rcases hb.2 with z | z
      · omega
      · have := h (begOf p c k - 1) (by omega) (by omega)
        rw [this] at z; cases z
    · refine Classical.byContradiction fun hc => ?_
      have := h (endOf p c (k + 1)) (by omega) (by omega)
      rw [this] at eo
      cases eo.2.2.2
theorem cells_run {p : Page} {c k : Nat} (hk : clo p c k = true) {x : List Nat} : x ∈ cellsOf p (sttAt p k c) ↔ ∃ j, Run p c k j ∧ cellAt p j c = x := by
  rw [cellsOf_mem]
  constructor
  · rintro ⟨j, h1, h2, e⟩
    exact ⟨j, (run_iff hk j).mp ⟨h1, h2⟩, e⟩
  · rintro ⟨j, h, e⟩
    obtain ⟨a, b⟩ := (run_iff hk j).mpr h
    exact ⟨j, a, b, e⟩
/-- rows of two pages that lie alike -/
structure Xf (p p' : Page) (R : Nat → Nat → Prop) : Prop where
  lt : ∀ k k', R k k' → k < p.length ∧ k' < p'.length
  cells : ∀ k k', R k k' → cellsIn p k = cellsIn p' k'
  sim : ∀ k k' c, R k k' → c < cellsIn p k → Sim (cellAt p k c) (cellAt p' k' c)
  run1 : ∀ k k' c j, R k k' → Run p c k j → ∃ j', R j j' ∧ Run p' c k' j'
  run2 : ∀ k k' c j', R k k' → Run p' c k' j' → ∃ j, R j j' ∧ Run p c k j
section
variable {p p' : Page} {R : Nat → Nat → Prop}
theorem Xf.clo (h : Xf p p' R) {k k' : Nat} (r : R k k') (c : Nat) : clo p' c k' = clo p c k := by
  obtain ⟨a, b⟩ := h.lt k k' r
  rw [clo_cells a, clo_cells b, h.cells k k' r]
theorem Xf.sides (h : Xf p p' R) {k k' c : Nat} (r : R k k') (hk : Dl.clo p c k = true) : most (cellsOf p (sttAt p k c)) = most (cellsOf p' (sttAt p' k' c)) ∧ right (cellsOf p (sttAt p k c)) = right (cellsOf p' (sttAt p' k' c)) := by
  have hk' : Dl.clo p' c k' = true := by rw [h.clo r]; exact hk
  have inC : ∀ j j', R j j' → Run p c k j → c < cellsIn p j := fun j j' r' hr => by
    have := hr j (by omega) (by omega)
    rw [clo_cells (h.lt j j' r').1] at this
    have := of_decide_eq_true this
    omega
  refine sim_cells (fun z => ?_) (fun x hx => ?_) (fun x' hx' => ?_)
  · have : cellAt p k c ∈ cellsOf p (sttAt p k c) := (cells_run hk).mpr ⟨k, fun i a b => by
      have : i = k := by omega
      rw [this]; exact hk, rfl⟩
    rw [z] at this; cases this
  · obtain ⟨j, hj, rfl⟩ := (cells_run hk).mp hx
    obtain ⟨j', r', hj'⟩ := h.run1 k k' c j r hj
    exact ⟨_, (cells_run hk').mpr ⟨j', hj', rfl⟩, h.sim j j' c r' (inC j j' r' hj)⟩
  · obtain ⟨j', hj', rfl⟩ := (cells_run hk').mp hx'
    obtain ⟨j, r', hj⟩ := h.run2 k k' c j' r hj'
    exact ⟨_, (cells_run hk).mpr ⟨j, hj, rfl⟩, h.sim j j' c r' (inC j j' r' hj)⟩
theorem Xf.wAt (h : Xf p p' R) (y : Sty) {k k' c : Nat} (r : R k k') (hk : Dl.clo p c k = true) : wAt p' y k' c = wAt p y k c := by
  unfold Dl.wAt wid
  rw [(h.sides r hk).1]
theorem Xf.sumW (h : Xf p p' R) (y : Sty) {k k' : Nat} (r : R k k') : ∀ c, c < cellsIn p k → sumW p' y k' c = sumW p y k c
  | 0, _ => rfl
  | c + 1, hc => by
    simp only [Dl.sumW]
    rw [h.sumW y r c (by omega), h.wAt y r (by rw [clo_cells (h.lt k k' r).1]; exact decide_eq_true hc)]
theorem Xf.bAt (h : Xf p p' R) (y : Sty) {k k' c : Nat} (r : R k k') (hc : c < cellsIn p k) : bAt p' y k' c = bAt p y k c := by
  have e : rightAt p' k' c = rightAt p k c := by
    unfold rightAt
    rw [h.clo r]
    cases hk : Dl.clo p c k with
    | false => rfl
    | true => rw [(h.sides r hk).2]
  unfold Dl.bAt
  rw [e, (h.sim k k' c r hc).1]
  by_cases hr : rightAt p k c = true
  · rw [if_pos hr, if_pos hr]
    have hk : Dl.clo p c k = true := by
      unfold rightAt at hr
      simp only [Bool.and_eq_true] at hr
      exact hr.1
    rw [clo_cells (h.lt k k' r).1] at hk
    rw [h.sumW y r (c + 1) (of_decide_eq_true hk)]
  · rw [if_neg hr, if_neg hr, h.sumW y r c hc]
theorem Xf.rowS (h : Xf p p' R) (y : Sty) {k k' : Nat} (r : R k k') : rowI p' (Dl.sumW p' y) k' = rowI p (Dl.sumW p y) k := by
  unfold rowI
  rw [← h.cells k k' r]
  refine congrArg (List.map D.int) (List.map_congr_left fun c hc => h.sumW y r c (List.mem_range.mp hc))
theorem Xf.rowB (h : Xf p p' R) (y : Sty) {k k' : Nat} (r : R k k') : rowI p' (Dl.bAt p' y) k' = rowI p (Dl.bAt p y) k := by
  unfold rowI
  rw [← h.cells k k' r]
  refine congrArg (List.map D.int) (List.map_congr_left fun c hc => h.bAt y r (List.mem_range.mp hc))
end
/-! ### other words -/
theorem xf_like {p p' : Page} (h : Same p p') (hs : ∀ k c, k < p.length → c < cellsIn p k → Sim (cellAt p k c) (cellAt p' k c)) : Xf p p' (fun k k' => k = k' ∧ k < p.length) := by
  refine ⟨fun k k' ⟨a, b⟩ => ⟨b, by rw [h.len, ← a]; exact b⟩, fun k k' ⟨a, b⟩ => by rw [← a, h.cells], fun k k' c ⟨a, b⟩ hc => by rw [← a]; exact hs k c b hc, fun k k' c j ⟨a, b⟩ hr => ?_, fun k k' c j ⟨a, b⟩ hr => ?_⟩
  · subst a
    have := hr j (by omega) (by omega)
    obtain ⟨r, hr', _⟩ := clo_row this
    exact ⟨j, ⟨rfl, (List.getElem?_eq_some_iff.mp hr').1⟩, fun i x1 x2 => by rw [h.clo]; exact hr i x1 x2⟩
  · subst a
    have := hr j (by omega) (by omega)
    rw [h.clo] at this
    obtain ⟨r, hr', _⟩ := clo_row this
    exact ⟨j, ⟨rfl, (List.getElem?_eq_some_iff.mp hr').1⟩, fun i x1 x2 => by rw [← h.clo]; exact hr i x1 x2⟩
/-! ### upside down -/
theorem rev_getD {p : Page} {k : Nat} (hk : k < p.length) : p.reverse.getD (p.length - 1 - k) [] = p.getD k [] := by
  rw [List.getD_eq_getElem?_getD, List.getD_eq_getElem?_getD, List.getElem?_reverse (by omega)]
  rw [show p.length - 1 - (p.length - 1 - k) = k by omega]
theorem rev_clo {p : Page} {k c : Nat} (hk : k < p.length) : clo p.reverse c (p.length - 1 - k) = clo p c k := by
  rw [clo_cells hk, clo_cells (by rw [List.length_reverse]; omega)]
  unfold cellsIn
  rw [rev_getD hk]
theorem clo_lt {p : Page} {c k : Nat} (h : clo p c k = true) : k < p.length := by
  obtain ⟨r, hr, _⟩ := clo_row h
  exact (List.getElem?_eq_some_iff.mp hr).1
theorem xf_rev (p : Page) : Xf p p.reverse (fun k k' => k < p.length ∧ k' = p.length - 1 - k) := by
  refine ⟨fun k k' ⟨a, b⟩ => ⟨a, by rw [List.length_reverse]; omega⟩, fun k k' ⟨a, b⟩ => by subst b; unfold cellsIn; rw [rev_getD a], fun k k' c ⟨a, b⟩ hc => by subst b; unfold cellAt; rw [rev_getD a]; exact ⟨rfl, rfl⟩, fun k k' c j ⟨a, b⟩ hr => ?_, fun k k' c j' ⟨a, b⟩ hr => ?_⟩
  · subst b
    have hj := clo_lt (hr j (by omega) (by omega))
    refine ⟨p.length - 1 - j, ⟨hj, rfl⟩, fun i x1 x2 => ?_⟩
    have e : i = p.length - 1 - (p.length - 1 - i) := by omega
    rw [e, rev_clo (by omega)]
    exact hr _ (by omega) (by omega)
  · subst b
    have hj' := clo_lt (hr j' (by omega) (by omega))
    rw [List.length_reverse] at hj'
    refine ⟨p.length - 1 - j', ⟨by omega, by omega⟩, fun i x1 x2 => ?_⟩
    rw [← rev_clo (p := p) (by omega)]
    exact hr _ (by omega) (by omega)
/-! ### twice -/
def twice (p : Page) : Page := p.flatMap fun r => [r, r]
theorem twice_len (p : Page) : (twice p).length = 2 * p.length := by
  unfold twice
  induction p with
  | nil => rfl
  | cons r p ih => rw [List.flatMap_cons, List.length_append, ih]; simp; omega
theorem twice_get : ∀ (p : Page) (k : Nat), (twice p)[k]? = p[k / 2]?
  | [], k => by simp [twice]
  | r :: p, 0 => rfl
  | r :: p, 1 => rfl
  | r :: p, k + 2 => by
    have e : twice (r :: p) = r :: r :: twice p := rfl
    rw [e, List.getElem?_cons_succ, List.getElem?_cons_succ, twice_get p k, show (k + 2) / 2 = k / 2 + 1 by omega, List.getElem?_cons_succ]
theorem twice_clo (p : Page) (c k : Nat) : clo (twice p) c k = clo p c (k / 2) := by
  unfold clo
  rw [twice_get]
theorem xf_twice (p : Page) : Xf p (twice p) (fun k k' => k = k' / 2 ∧ k' < 2 * p.length) := by
  have gd : ∀ k, (twice p).getD k [] = p.getD (k / 2) [] := fun k => by
    rw [List.getD_eq_getElem?_getD, List.getD_eq_getElem?_getD, twice_get]
  refine ⟨fun k k' ⟨a, b⟩ => ⟨by omega, by rw [twice_len]; exact b⟩, fun k k' ⟨a, b⟩ => by subst a; unfold cellsIn; rw [gd], fun k k' c ⟨a, b⟩ hc => by subst a; unfold cellAt; rw [gd]; exact ⟨rfl, rfl⟩, fun k k' c j ⟨a, b⟩ hr => ?_, fun k k' c j' ⟨a, b⟩ hr => ?_⟩
  · have hj := clo_lt (hr j (by omega) (by omega))
    refine ⟨2 * j, ⟨by omega, by omega⟩, fun i x1 x2 => ?_⟩
    rw [twice_clo]
    exact hr _ (by omega) (by omega)
  · have hj' := clo_lt (hr j' (by omega) (by omega))
    rw [twice_len] at hj'
    refine ⟨j' / 2, ⟨rfl, hj'⟩, fun i x1 x2 => ?_⟩
    by_cases z : k' ≤ j'
    · by_cases z2 : i = k
      · have := hr k' (by omega) (by omega)
        rw [twice_clo, ← a] at this
        rw [z2]; exact this
      · have := hr (2 * i) (by omega) (by omega)
        rw [twice_clo, show 2 * i / 2 = i by omega] at this
        exact this
    · by_cases z2 : i = j' / 2
      · have := hr j' (by omega) (by omega)
        rw [twice_clo] at this
        rw [z2]; exact this
      · have := hr (2 * i) (by omega) (by omega)
        rw [twice_clo, show 2 * i / 2 = i by omega] at this
        exact this
end Dl
/-! ## B29b -/
/-! Law k29: other words as long. -/
namespace Dl
open PySem L2
theorem draws_ok (al : List Nat) (m : Int) (hm : m = al.length) (h0 : 0 < m) (h9 : m < 100) (ds : List D) (b : Box) (rest : Store) (a1 a2 a3 a4 : Option D) :
    ∃ (cs : List Nat) (b' : Box), lcGo [] (.one 4) tYesD (eOp ixG (eC (.str al)) (eCall 2 m_law_take (aCons (eV 0) (aCons (eC (.int m)) (aNil))))) [some (.ref 1), a1, a2, a3, a4] ds [] (Bx b rest) = .ok ((cs.map fun c => [c]).map D.str, Bx b' rest) ∧ cs.length = ds.length ∧ ∀ c ∈ cs, c ∈ al := by
  generalize hf : lcGo _ _ _ _ _ _ _ _ = r
  have m64 : m < 18446744073709551616 := by omega
  obtain ⟨acc, s, rfl, cs, b', hc1, hc2, rfl, rfl⟩ := lc_at hf (fun i acc st' => ∃ (cs : List Nat) (b' : Box), cs.length = i ∧ (∀ c ∈ cs, c ∈ al) ∧ acc = (cs.map fun c => [c]).map D.str ∧ st' = Bx b' rest) ⟨[], b, rfl, by simp, rfl, rfl⟩ (fun _ _ _ _ _ => rfl) (fun i x acc st' hi ⟨cs, b', e1, e2, e3, e4⟩ => by
    subst e3 e4
    obtain ⟨c, ec, mc⟩ := atI_mem (l := al) (i := (tk b' m).1) (tk_lo _ h0) (by rw [← hm]; exact tk_hi _ h0)
    refine ⟨_, rfl, ?_⟩
    simp [take_eq, h0, m64, ixG, ec]
    exact ⟨cs ++ [c], by simp [e1], fun x hx => by simp at hx; rcases hx with hx | rfl <;> first | exact e2 _ hx | exact mc, by simp, _, rfl⟩)
  exact ⟨cs, b', rfl, hc1, hc2⟩
theorem fig_digits {cs : List Nat} (h0 : cs ≠ []) (h : ∀ c ∈ cs, 48 ≤ c ∧ c ≤ 57) : figs cs = true := by
  cases cs with
  | nil => exact absurd rfl h0
  | cons c cs =>
    have hc := h c (by simp)
    have hne : ¬ c = 45 := by omega
    simp only [figs, List.take_succ_cons, List.take_zero, List.cons.injEq, hne, and_true, if_false]
    simp only [Bool.and_eq_true, decide_eq_true_eq, List.all_eq_true]
    exact ⟨by simp, h⟩
theorem fig_minus {cs : List Nat} (h0 : cs ≠ []) (h : ∀ c ∈ cs, 48 ≤ c ∧ c ≤ 57) : figs (45 :: cs) = true := by
  simp only [figs, List.take_succ_cons, List.take_zero, if_true, List.drop_succ_cons, List.drop_zero]
  simp only [Bool.and_eq_true, decide_eq_true_eq, List.all_eq_true]
  exact ⟨h0, h⟩
theorem fig_no {cs : List Nat} (h : ∀ c ∈ cs, ¬ (48 ≤ c ∧ c ≤ 57)) : figs cs = false := by
  have key : ∀ r : List Nat, (∀ c ∈ r, c ∈ cs) → (decide (r ≠ []) && r.all fun c => decide (48 ≤ c ∧ c ≤ 57)) = false := fun r hr => by
    cases r with
    | nil => rfl
    | cons c r =>
      have := h c (hr c (by simp))
      simp only [List.all_cons, decide_eq_false this, Bool.false_and, Bool.and_false]
  unfold figs
  by_cases hc : cs.take 1 = [45]
  · simp only [if_pos hc]
    exact key _ fun c hc => List.mem_of_mem_drop hc
  · simp only [if_neg hc]
    exact key _ fun c hc => hc
theorem fig_pos {s : List Nat} (h : figs s = true) : s ≠ [] ∧ (s.take 1 = [45] → s.drop 1 ≠ []) := by
  refine ⟨fun z => (by subst z; cases h), fun hc z => ?_⟩
  unfold figs at h
  simp only [if_pos hc, z] at h
  cases h
theorem cell_of {s : List Nat} (hl : s.length ≤ 10) (h : ∀ c ∈ s, okSign c = true) : okCell s = true := by
  unfold okCell
  simp only [Bool.and_eq_true, decide_eq_true_eq, List.all_eq_true]
  exact ⟨hl, h⟩
def digs : List Nat := [48, 49, 50, 51, 52, 53, 54, 55, 56, 57]
def lets : List Nat := [97, 98, 99, 32, 45, 120]
def m_law_like : FV := funD 5 (d_law_like m_law_figures m_law_take)
theorem like_ok (b : Box) (rest : Store) {s : List Nat} (hs : okCell s = true) : ∃ s' b', m_law_like [.ref 1, .str s] (Bx b rest) = .ok (.str s', Bx b' rest) ∧ okCell s' = true ∧ Sim s s' := by
  rw [m_law_like, funD, d_law_like]
  have hl := (okCell_parts hs).1
  have lf := law_figures_str s (by omega) (Bx b rest)
  have c1 : cutD s (some (1 : Int)) none = s.drop 1 := cut_from s 1
  have c2 : cutD s none (some (1 : Int)) = s.take 1 := cut_to s 1
  cases hf : figs s with
  | true =>
    rw [hf] at lf
    obtain ⟨f1, f2⟩ := fig_pos hf
    have pos : 0 < s.length := List.length_pos_iff.mpr f1
    obtain ⟨cs, b1, dr, dl, dm⟩ := draws_ok digs 10 (by decide) (by decide) (by decide) ((s.map fun c => D.str [c]).tail) b rest (some (.str s)) none none none
    rw [List.length_tail, List.length_map] at dl
    have dg : ∀ c ∈ cs, 48 ≤ c ∧ c ≤ 57 := fun c hc => by
      have := dm c hc
      simp [digs] at this
      omega
    have ok1 : ∀ c ∈ cs, okSign c = true := fun c hc => by
      have := dg c hc
      unfold okSign
      simp; omega
    have jl : cs.length ≤ LIM := le_LIM (by omega)
    have dl2 : s.length ≤ LIM + 1 := Nat.le_succ_of_le (le_LIM (by omega))
    have jo := join_ones' cs (Bx b1 rest) jl
    unfold digs at dr
    by_cases hm : s.take 1 = [45]
    · have cne : cs ≠ [] := fun z => by
        have := f2 hm
        rw [z] at dl
        simp at dl
        have : 0 < (s.drop 1).length := List.length_pos_iff.mpr this
        rw [List.length_drop] at this
        omega
      refine ⟨45 :: cs, b1, ?_, cell_of (by simp; omega) (fun c hc => ?_), ?_, ?_⟩
      · have l1 : 1 + cs.length ≤ LIM := le_LIM (by omega)
        have l2 : cs.length + 1 ≤ LIM := le_LIM (by omega)
        simp only [List.drop_one] at c1
        simp [lf, slG, c1, c2, itemsOf, dl2, dr, tyM, jo, hm, addG, l1, l2]
      · rcases List.mem_cons.mp hc with rfl | hc
        · decide
        · exact ok1 c hc
      · simp; omega
      · rw [hf, fig_minus cne dg]
    · obtain ⟨d, ed, md⟩ := atI_mem (l := [48, 49, 50, 51, 52, 53, 54, 55, 56, 57]) (i := (tk b1 10).1) (tk_lo b1 (by decide)) (tk_hi b1 (by decide))
      have dd : 48 ≤ d ∧ d ≤ 57 := by simp at md; omega
      refine ⟨d :: cs, (tk b1 10).2, ?_, cell_of (by simp; omega) (fun c hc => ?_), ?_, ?_⟩
      · have l1 : 1 + cs.length ≤ LIM := le_LIM (by omega)
        have l2 : cs.length + 1 ≤ LIM := le_LIM (by omega)
        simp only [List.drop_one] at c1
        simp [lf, slG, c1, c2, itemsOf, dl2, dr, tyM, jo, hm, addG, l1, l2, take_eq, ixG, ed]
      · rcases List.mem_cons.mp hc with rfl | hc
        · unfold okSign; simp; omega
        · exact ok1 c hc
      · simp; omega
      · rw [hf, fig_digits (by simp) (fun c hc => by
          rcases List.mem_cons.mp hc with rfl | hc
          · exact dd
          · exact dg c hc)]
  | false =>
    rw [hf] at lf
    obtain ⟨cs, b1, dr, dl, dm⟩ := draws_ok lets 6 (by decide) (by decide) (by decide) (s.map fun c => D.str [c]) b rest (some (.str s)) none none none
    rw [List.length_map] at dl
    have nf : figs cs = false := fig_no fun c hc => by
      have := dm c hc
      simp [lets] at this
      omega
    have jl : cs.length ≤ LIM := le_LIM (by omega)
    have sl : s.length ≤ LIM := le_LIM (by omega)
    have jo := join_ones' cs (Bx b1 rest) jl
    have lf2 := law_figures_str cs (by omega) (Bx b1 rest)
    rw [nf] at lf2
    unfold lets at dr
    refine ⟨cs, b1, ?_, cell_of (by omega) (fun c hc => ?_), by omega, by rw [hf, nf]⟩
    · simp [lf, itemsOf, sl, dr, tyM, jo, lf2]
    · have := dm c hc
      have all : ∀ c ∈ lets, okSign c = true := by decide
      exact all c this
/-! ### a row, a page -/
def LC (c c' : List Nat) : Prop := Sim c c' ∧ okCell c' = true
theorem All2.snoc {A B : Type} {R : A → B → Prop} {as : List A} {bs : List B} {a : A} {b : B} (h : All2 R as bs) (k : R a b) : All2 R (as ++ [a]) (bs ++ [b]) := h.app ⟨k, trivial⟩
theorem like_row (b : Box) (rest : Store) {r : Row} (hr : okRow r = true) {env : Env} (he : env.length = 16) (h1 : env[1]? = some (some (.ref 1))) :
    ∃ (r' : Row) (b' : Box), lcGo [] (.one 15) tYesD (eCall 2 m_law_like (aCons (eV 1) (aCons (eV 15) (aNil)))) env (r.map .str) [] (Bx b rest) = .ok (r'.map .str, Bx b' rest) ∧ All2 LC r r' := by
  obtain ⟨r1, r2, r3⟩ := okRow_parts hr
  generalize hf : lcGo _ _ _ _ _ _ _ _ = q
  obtain ⟨acc, s, rfl, r', b', hall, rfl, rfl⟩ := lc_at hf (fun i acc st' => ∃ (r' : Row) (b' : Box), All2 LC (r.take i) r' ∧ acc = r'.map D.str ∧ st' = Bx b' rest) ⟨[], b, trivial, rfl, rfl⟩ (fun _ _ _ _ _ => rfl) (fun i x acc st' hi ⟨r', b', e1, e3, e4⟩ => by
    subst e3 e4
    rw [List.getElem?_map] at hi
    cases qi : r[i]? with
    | none => rw [qi] at hi; cases hi
    | some c =>
      rw [qi] at hi
      cases hi
      obtain ⟨c', b2, lk, ok, sm⟩ := like_ok b' rest (r3 c (List.mem_of_getElem? qi))
      have g1 : (env.set 15 (some (.str c)))[1]? = some (some (.ref 1)) := by rw [List.getElem?_set_ne (by omega)]; exact h1
      have g15 : (env.set 15 (some (.str c)))[15]? = some (some (.str c)) := List.getElem?_set_self (by omega)
      refine ⟨_, rfl, ?_⟩
      simp [g1, g15, lk]
      exact ⟨r' ++ [c'], by rw [take_snoc qi]; exact e1.snoc ⟨sm, ok⟩, by simp, _, rfl⟩)
  rw [List.length_map, List.take_length] at hall
  exact ⟨r', b', rfl, hall⟩
theorem like_same {p p' : Page} (h : All2 (fun r r' => All2 LC r r') p p') : Same p p' ∧ (∀ k c, k < p.length → c < cellsIn p k → Sim (cellAt p k c) (cellAt p' k c) ∧ okCell (cellAt p' k c) = true) := by
  have row : ∀ k (hk : k < p.length), ∃ r', p'[k]? = some r' ∧ All2 LC p[k] r' := fun k hk => h.get (by simp [hk])
  refine ⟨⟨h.len.symm, fun k => ?_⟩, fun k c hk hc => ?_⟩
  · by_cases hk : k < p.length
    · obtain ⟨r', e, a⟩ := row k hk
      rw [cellsIn_row e, cellsIn_row (show p[k]? = some p[k] by simp [hk]), a.len]
    · rw [cellsIn_out (p := p) (by omega), cellsIn_out (p := p') (by rw [← h.len]; omega)]
  · obtain ⟨r', e, a⟩ := row k hk
    have er : p[k]? = some p[k] := by simp [hk]
    rw [cellsIn_row er] at hc
    have ec : (p[k])[c]? = some (p[k])[c] := by simp [hc]
    obtain ⟨c', ec', lc⟩ := a.get ec
    obtain ⟨hc', ee⟩ := List.getElem?_eq_some_iff.mp ec'
    rw [row_cell er hc, row_cell e hc', ee]
    exact lc
end Dl
/-! ## B29c -/
/-! Law k29: by a gap more. -/
namespace Dl
open PySem L2
def Sty.up (y : Sty) : Sty := ⟨y.g + 1, y.l⟩
def dW (p : Page) (y : Sty) (k c : Nat) : Int := wAt p y.up k c - wAt p y k c
def Grown (p : Page) (y : Sty) (kvs : List (List L2.Key × D)) : Prop := ∀ k c : Nat, valK kvs (kkc k c) = none ∨ valK kvs (kkc k c) = some (.int (dW p y k c))
theorem grown_put {p : Page} {y : Sty} {kvs : List (List L2.Key × D)} (h : Grown p y kvs) (k c : Nat) : Grown p y (putKD kvs (kkc k c) (.int (dW p y k c))) := fun k' c' => by
  rw [valK_put]
  by_cases z : kkc k' c' = kkc k c
  · rw [if_pos z]
    obtain ⟨rfl, rfl⟩ := kkc_inj.mp z
    exact .inr rfl
  · rw [if_neg z]; exact h k' c'
theorem isSome_put {kvs : List (List L2.Key × D)} {k c k' c' : Nat} {v : D} (h : (valK kvs (kkc k c)).isSome = true ∨ (k = k' ∧ c = c')) : (valK (putKD kvs (kkc k' c') v) (kkc k c)).isSome = true := by
  rw [valK_put]
  by_cases z : kkc k c = kkc k' c'
  · rw [if_pos z]; rfl
  · rw [if_neg z]
    rcases h with h | h
    · exact h
    · exact absurd (kkc_inj.mpr h) z
def m_law_more : FV := funD 16 (d_law_more m_stops m_stretches)
theorem more_ok {p : Page} (hp : okPage p = true) {y : Sty} (hy : y.ok) (hg : y.g < 4) {d : D} {w : List (Nat × List D)} {st : Store} (hd : listOf st d = some (encP p, w)) :
    ∃ more, m_law_more [d, y.enc] st = .ok (.bl true, st ++ more) := by
  rw [m_law_more, funD, d_law_more]
  obtain ⟨p1, p2, p3⟩ := okPage_parts hp
  have hy' : y.up.ok := by
    have ⟨⟨h1, h2⟩, h3, h4⟩ := hy
    exact ⟨⟨by show 0 ≤ y.g + 1; omega, by show y.g + 1 ≤ 4; omega⟩, h3, h4⟩
  have eu : D.tup [.int (y.g + 1), .int y.l] = y.up.enc := rfl
  obtain ⟨M1, so1⟩ := stops_ok hp hy hd
  obtain ⟨S1, hS1⟩ : ∃ S1, S1 = layS (st ++ M1) p (sumW p y) := ⟨_, rfl⟩
  rw [← hS1] at so1
  have pre1 : ∃ m, S1 = st ++ m := by rw [hS1]; exact lay_pre st M1 p _
  have hd1 : listOf S1 d = some (encP p, w) := by obtain ⟨m, e⟩ := pre1; rw [e]; exact listOf_stays (Stays.app _ _) hd
  obtain ⟨M2, so2⟩ := stops_ok hp hy' hd1
  obtain ⟨S2, hS2⟩ : ∃ S2, S2 = layS (S1 ++ M2) p (sumW p y.up) := ⟨_, rfl⟩
  rw [← hS2] at so2
  have pre2' : ∃ m, S2 = S1 ++ m := by rw [hS2]; exact lay_pre S1 M2 p _
  have pre2 := pre_trans pre1 pre2'
  obtain ⟨i1, hi1⟩ : ∃ i1, i1 = st.length + M1.length := ⟨_, rfl⟩
  obtain ⟨i2, hi2⟩ : ∃ i2, i2 = S1.length + M2.length := ⟨_, rfl⟩
  have L1 : Lays S2 i1 p (sumW p y) := by
    have := lays_of (st ++ M1) p (sumW p y)
    rw [← hS1, List.length_append, ← hi1] at this
    obtain ⟨m, e⟩ := pre2'
    exact this.stays (by rw [e]; exact Stays.app _ _)
  have Lb : Lays S2 i2 p (sumW p y.up) := by
    have := lays_of (S1 ++ M2) p (sumW p y.up)
    rw [← hS2, List.length_append, ← hi2] at this
    exact this
  rw [← hi1] at so1
  rw [← hi2] at so2
  have hdA : ∀ m, listOf (S2 ++ m) d = some (encP p, w) := fun m => by obtain ⟨m', e⟩ := pre2; rw [e, List.append_assoc]; exact listOf_stays (Stays.app _ _) hd
  obtain ⟨T, more, sk, hT⟩ := stretches_ok hp hy (hdA [.dT []])
  have l3 : (S2 ++ [Ob.dT []]).length = S2.length + 1 := by simp
  have e4 : S2 ++ [Ob.dT []] ++ Ob.lst T :: more = S2 ++ .dT [] :: .lst T :: more := by simp
  rw [l3, e4] at sk hT
  have gT : ∀ kvs, (S2 ++ Ob.dT kvs :: .lst T :: more)[S2.length + 1]? = some (.lst T) := fun kvs => by simp
  have gD : ∀ kvs, (S2 ++ Ob.dT kvs :: .lst T :: more)[S2.length]? = some (.dT kvs) := fun kvs => by simp
  have hit : itemsOf (S2 ++ Ob.dT [] :: .lst T :: more) (.ref (S2.length + 1)) = some (T, [(S2.length + 1, T)]) := by simp only [itemsOf, gT]
  simp [addG, eu, so1, so2, sk, hit]
  generalize q : forGo _ _ _ _ _ _ = r
  obtain ⟨e, s, rfl, kvs, a6, a7, a8, a9, a10, a11, a12, a13, a14, rfl, rfl, hl, hgr, hso⟩ := for_at q (fun i env st' => ∃ (kvs : List (List L2.Key × D)) (a6 a7 a8 a9 a10 a11 a12 a13 a14 : Option D), st' = S2 ++ .dT kvs :: .lst T :: more ∧ env = [some d, some y.enc, some y.up.enc, some (.ref i1), some (.ref i2), some (.ref S2.length), a6, a7, a8, a9, a10, a11, a12, a13, a14, none] ∧ kvs.length ≤ 30 * i ∧ Grown p y kvs ∧ ∀ s ∈ (stts p).take i, ∀ k, s.b ≤ k → k < s.e → (valK kvs (kkc k s.c)).isSome = true)
    ⟨[], _, _, _, _, _, _, _, _, _, rfl, rfl, by simp, fun k c => .inl rfl, by simp⟩ (fun i env st' _ ⟨kvs, _, _, _, _, _, _, _, _, _, e1, _⟩ => by subst e1; exact still_one (gT kvs)) (fun i x env st' hi ⟨kvs, a6, a7, a8, a9, a10, a11, a12, a13, a14, e1, e2, hl, hgr, hso⟩ => by
      obtain ⟨s, hs, k, _, rfl, _⟩ := hT.get hi
      have hsm := List.mem_of_getElem? hs
      have so := stts_mem hsm
      have slt := so.lt
      have sle := so.le
      have sc4 := so.c4
      have il : i < 150 := by have := (List.getElem?_eq_some_iff.mp hs).1; have := stts_le hp; omega
      have mb : (-1000000 ≤ (s.b : Int) ∧ (s.b : Int) ≤ 1000000) ∧ -1000000 ≤ (s.e : Int) ∧ (s.e : Int) ≤ 1000000 := by omega
      have en2 : ((s.e : Int) - (s.b : Int)).toNat = s.e - s.b := by omega
      have hle : s.e - s.b ≤ LIM := le_LIM (by omega)
      have hd4 : listOf st' d = some (encP p, w) := by rw [e1]; exact hdA _
      subst e2
      have l1 := lc_cells (p := p) (sub := []) (j := 15) (te := eB lenG (aCons (eOp ixG (eOp ixG (eV 0) (eV 15)) (eV 6)) (aNil))) (env := [some d, some y.enc, some y.up.enc, some (.ref i1), some (.ref i2), some (.ref S2.length), some (.int s.c), some (.int s.b), some (.int s.e), some (.int (wid y (cellsOf p s))), some (.bl (right (cellsOf p s))), some (.ref k), a12, a13, a14, none]) (st := st') rfl (c := s.c) (b := s.b) (e := s.e) (D.int ∘ fun s => (s.length : Int)) (fun j h1 h2 => by
        obtain ⟨R', x1, x2⟩ := cell_ix hd4 (so.clo j h1 h2)
        simp [x1, x2])
      have ne : cellsBE p s.c s.b s.e ≠ [] := fun z => by
        have := congrArg List.length z
        simp [cellsBE] at this
        omega
      have mx := most_ok (cellsBE p s.c s.b s.e) ne st'
      rw [← cellsOf_BE] at l1 mx
      simp [mb, en2, hle, l1, mx]
      generalize q : forGo _ _ _ _ _ _ = r
      obtain ⟨e, s', rfl, kvs', a13', rfl, rfl, hl', hgr', ho1, ho2⟩ := for_at q (fun j env st' => ∃ (kvs : List (List L2.Key × D)) (a13 : Option D), st' = S2 ++ .dT kvs :: .lst T :: more ∧ env = [some d, some y.enc, some y.up.enc, some (.ref i1), some (.ref i2), some (.ref S2.length), some (.int s.c), some (.int s.b), some (.int s.e), some (.int (wid y (cellsOf p s))), some (.bl (right (cellsOf p s))), some (.ref k), some (.int (most (cellsOf p s))), a13, a14, none] ∧ kvs.length ≤ 30 * i + j ∧ Grown p y kvs ∧ (∀ s ∈ (stts p).take i, ∀ k, s.b ≤ k → k < s.e → (valK kvs (kkc k s.c)).isSome = true) ∧ ∀ k, s.b ≤ k → k < s.b + j → (valK kvs (kkc k s.c)).isSome = true)
        ⟨kvs, a13, e1, rfl, by omega, hgr, hso, fun k h1 h2 => by omega⟩ (fun _ _ _ _ _ => rfl) (fun j x env st' hj ⟨kvs, a13, e1, e2, hl, hgr, ho1, ho2⟩ => by
          obtain ⟨hj2, rfl⟩ := ints_getL hj
          subst e2
          have ww : max y.l (most (cellsOf p s) + (y.g + 1)) - wid y (cellsOf p s) = dW p y (s.b + j) s.c := by
            unfold dW wAt
            rw [← covers_at hsm (k := s.b + j) (c := s.c) ⟨rfl, by omega, by omega⟩]
            rfl
          have ll : kvs.length < LIM := lt_LIM (by omega)
          have ds : dsetG (S2 ++ .dT kvs :: .lst T :: more) (.ref S2.length) (.tup [.int ((s.b : Int) + (j : Int)), .int s.c]) (.int (dW p y (s.b + j) s.c)) = some (S2 ++ .dT (putKD kvs (kkc (s.b + j) s.c) (.int (dW p y (s.b + j) s.c))) :: .lst T :: more) := by
            have ek : kkc (s.b + j) s.c = [Sum.inl ((s.b : Int) + (j : Int)), Sum.inl (s.c : Int)] := by
              unfold kkc; rw [show ((s.b + j : Nat) : Int) = (s.b : Int) + (j : Int) by omega]
            rw [ek]
            simp [dsetG, ll]
          rw [← e1] at ds
          have u0 : ∀ st, ixG st y.up.enc (.int 0) = .ok (.int (y.g + 1), st) := fun st => sty0 y.up st
          refine turn_eq (e := [some d, some y.enc, some y.up.enc, some (.ref i1), some (.ref i2), some (.ref S2.length), some (.int s.c), some (.int s.b), some (.int s.e), some (.int (wid y (cellsOf p s))), some (.bl (right (cellsOf p s))), some (.ref k), some (.int (most (cellsOf p s))), some (.int ((s.b : Int) + (j : Int))), a14, none]) (s := S2 ++ .dT (putKD kvs (kkc (s.b + j) s.c) (.int (dW p y (s.b + j) s.c))) :: .lst T :: more) (by
            simp [u0, addG, subG, ww, ds, gSb]) ⟨_, _, rfl, rfl, Nat.le_trans (putKD_len _ _ _) (by omega), grown_put hgr _ _, fun s1 h1 k h2 h3 => isSome_put (.inl (ho1 s1 h1 k h2 h3)), fun k h1 h2 => isSome_put ?_⟩
          by_cases z : k = s.b + j
          · exact .inr ⟨z, rfl⟩
          · exact .inl (ho2 k h1 (by omega)))
      rw [intsD_len] at hl' ho2
      refine ⟨kvs', rfl, ⟨_, _, _, _, _, _, _, _, _, rfl⟩, by omega, hgr', fun s1 h1 k h2 h3 => ?_⟩
      rw [take_snoc hs, List.mem_append] at h1
      rcases h1 with h1 | h1
      · exact ho1 s1 h1 k h2 h3
      · obtain rfl : s1 = s := by simpa using h1
        exact ho2 k h2 (by omega))
  rw [hT.len, List.take_length] at hso
  have told : ∀ k c, clo p c k = true → c < 5 → valK kvs (kkc k c) = some (.int (dW p y k c)) := fun k c h hc => by
    obtain ⟨m, cv⟩ := sttAt_mem hc h
    have := hso _ m k cv.2.1 cv.2.2
    rw [cv.1] at this
    rcases hgr k c with z | z
    · rw [z] at this; cases this
    · exact z
  clear hso hl
  obtain ⟨S5, hS5⟩ : ∃ S5, S5 = S2 ++ .dT kvs :: .lst T :: more := ⟨_, rfl⟩
  have hd5 : listOf S5 d = some (encP p, w) := by rw [hS5]; exact hdA _
  have L1' : Lays S5 i1 p (sumW p y) := by rw [hS5]; exact L1.stays (Stays.app _ _)
  have Lb' : Lays S5 i2 p (sumW p y.up) := by rw [hS5]; exact Lb.stays (Stays.app _ _)
  have gD5 : S5[S2.length]? = some (.dT kvs) := by rw [hS5]; exact gD kvs
  have pre5 : ∃ m, S5 = st ++ m := pre_trans pre2 ⟨_, hS5⟩
  rw [← hS5]
  have ln := len_list hd5
  have m1 : -1000000 ≤ (p.length : Int) ∧ (p.length : Int) ≤ 1000000 := by omega
  obtain ⟨mz, hmz⟩ := pre5
  refine ⟨mz, ?_⟩
  rw [← hmz]
  simp [ln, m1]
  generalize q : forGo _ _ _ _ _ _ = r
  obtain ⟨e, s, rfl, rfl, a6, a13, a14, rfl⟩ := for_at q (fun i env st' => S5 = st' ∧ ∃ (a6 a13 a14 : Option D), env = [some d, some y.enc, some y.up.enc, some (.ref i1), some (.ref i2), some (.ref S2.length), a6, a7, a8, a9, a10, a11, a12, a13, a14, none]) ⟨rfl, _, _, _, rfl⟩ (fun _ _ _ _ _ => rfl) (fun i x env st' hi ⟨e1, a6, a13, a14, e2⟩ => by
    subst e1 e2
    obtain ⟨hi2, rfl⟩ := ints_get hi
    have c6 := (cellsIn_le hp hi2).2
    have c1 := (cellsIn_le hp hi2).1
    obtain ⟨rr, x6, _, x8⟩ := ixC hd5 hi2 (show 0 < cellsIn p i by omega)
    have m2 : -1000000 ≤ (cellsIn p i : Int) ∧ (cellsIn p i : Int) ≤ 1000000 := by omega
    have x1 := L1'.ixF hi2
    have x2 := Lb'.ixF hi2
    simp [x6, x8, m2]
    generalize q : forGo _ _ _ _ _ _ = r
    obtain ⟨e, s, rfl, rfl, a6', v, rfl, _⟩ := for_at q (fun j env st' => S5 = st' ∧ ∃ (a6 : Option D) (v : Int), env = [some d, some y.enc, some y.up.enc, some (.ref i1), some (.ref i2), some (.ref S2.length), a6, a7, a8, a9, a10, a11, a12, some (.int i), some (.int v), none] ∧ (j < cellsIn p i → v = sumW p y.up i j - sumW p y i j)) ⟨rfl, _, 0, rfl, fun _ => rfl⟩ (fun _ _ _ _ _ => rfl) (fun j x env st' hj ⟨e1, a6, v, e2, hv⟩ => by
      subst e1 e2
      obtain ⟨hj2, rfl⟩ := ints_get hj
      have y1 := L1'.ixR hi2 hj2
      have y2 := Lb'.ixR hi2 hj2
      have hv := hv hj2
      have dc : isDct S5 (.ref S2.length) = true := by simp only [isDct, gD5]
      obtain ⟨u, hu, hu2⟩ : ∃ u : Int, (dvalG S5 (.ref S2.length) (.tup [.int i, .int j])).map (fun o => o.getD (.int 0)) = some (.int u) ∧ (j + 1 < cellsIn p i → u = dW p y i j) := by
        have e3 : dvalG S5 (.ref S2.length) (.tup [.int i, .int j]) = some (valK kvs (kkc i j)) := by
          simp only [dvalG, gD5, keysOf_int, keysOf_nil, Option.map_some]
          rfl
        rw [e3]
        by_cases hc : j + 1 < cellsIn p i
        · rw [told i j (by rw [clo_cells hi2]; exact decide_eq_true hc) (by omega)]
          exact ⟨_, rfl, fun _ => rfl⟩
        · rcases hgr i j with z | z
          · rw [z]; exact ⟨0, rfl, fun h => absurd h hc⟩
          · rw [z]; exact ⟨_, rfl, fun h => absurd h hc⟩
      obtain ⟨o, ho, ho2⟩ := Option.map_eq_some_iff.mp hu
      refine turn_eq (e := [some d, some y.enc, some y.up.enc, some (.ref i1), some (.ref i2), some (.ref S2.length), some (.int j), a7, a8, a9, a10, a11, a12, some (.int i), some (.int (v + u)), none]) (s := S5) (by
        simp [x1, x2, y1, y2, subG, hv, dc, ho, ho2, addG]) ⟨rfl, _, _, rfl, fun h => ?_⟩
      rw [hv, hu2 h]
      simp only [sumW]
      unfold dW
      omega)
    exact ⟨rfl, _, _, _, rfl⟩)
  simp
end Dl
/-! ## B29d -/
/-! Law k29, put together. -/
namespace Dl
open PySem L2
@[simp] theorem r_eRevL (m : Bool) (f : EV) (env : Env) (st : Store) : eRevL m f env st = (f env st).bind fun a => match lstOf a.2 a.1 with
  | some ds => newL m ds.reverse a.2
  | none => .bad := (rfl)
theorem stops_rd {p : Page} (hp : okPage p = true) {y : Sty} (hy : y.ok) {d : D} {w : List (Nat × List D)} {st : Store} (hd : listOf st d = some (encP p, w)) : ∃ n M, m_stops [d, y.enc] st = .ok (.ref n, st ++ M) ∧ st.length ≤ n ∧ Lays (st ++ M) n p (sumW p y) := by
  obtain ⟨M, so⟩ := stops_ok hp hy hd
  obtain ⟨m, e⟩ := lay_pre st M p (sumW p y)
  refine ⟨st.length + M.length, m, by rw [← e]; exact so, by omega, ?_⟩
  have := lays_of (st ++ M) p (sumW p y)
  rwa [e, List.length_append] at this
theorem laid_rd {p : Page} (hp : okPage p = true) {y : Sty} (hy : y.ok) {d : D} {w : List (Nat × List D)} {st : Store} (hd : listOf st d = some (encP p, w)) : ∃ n M, m_laid [d, y.enc] st = .ok (.ref n, st ++ M) ∧ st.length ≤ n ∧ Lays (st ++ M) n p (bAt p y) := by
  obtain ⟨M, so⟩ := laid_ok hp hy hd
  obtain ⟨m, e⟩ := lay_pre st M p (bAt p y)
  refine ⟨st.length + M.length, m, by rw [← e]; exact so, by omega, ?_⟩
  have := lays_of (st ++ M) p (bAt p y)
  rwa [e, List.length_append] at this
/-- references to rows read as rows -/
theorem rds_rows {S : Store} {ds xs : List D} (hl : ds.length = xs.length) (h : ∀ (i : Nat) (d : D), ds[i]? = some d → ∃ n l, d = .ref n ∧ S[n]? = some (.lst l) ∧ xs[i]? = some (.lst l) ∧ D.pks l = true) : Rds S ds xs := rds_mk hl fun i d x e1 e2 => by
  obtain ⟨n, l, rfl, h1, h2, h3⟩ := h i d e1
  rw [h2] at e2
  cases e2
  rw [Rd]
  exact ⟨l, [(n, l)], by simp only [listOf, h1], rds_self h3⟩
@[simp] theorem rowsD_len (p : Page) (f : Nat → Nat → Int) : (rowsD p f).length = p.length := by simp [rowsD]
theorem rowsD_at {p : Page} {f : Nat → Nat → Int} {i : Nat} (h : i < p.length) : (rowsD p f)[i]? = some (.lst (rowI p f i)) := by simp [rowsD, h]
theorem rd_lays {S : Store} {n : Nat} {p : Page} {f : Nat → Nat → Int} (h : Lays S n p f) : Rd S (.ref n) (.lst (rowsD p f)) := by
  rw [Rd]
  refine ⟨refs (n + 1) p.length, [(n, refs (n + 1) p.length)], by simp only [listOf, h.1], rds_rows (by simp) fun i d e => ?_⟩
  have hi : i < p.length := by have := (List.getElem?_eq_some_iff.mp e).1; simpa using this
  rw [refs_get hi] at e
  cases e
  exact ⟨_, _, rfl, h.2 i hi, rowsD_at hi, rowI_pks p f i⟩
theorem rowsD_pl (p : Page) (f : Nat → Nat → Int) : D.pl (.lst (rowsD p f)) = true := by
  rw [pl_lst]
  exact pls_iff.mpr fun d hd => by
    obtain ⟨k, _, rfl⟩ := List.mem_map.mp hd
    rw [pl_lst]; exact pls_ints _
theorem eq_same {S : Store} {a b x : D} (h1 : Rd S a x) (h2 : Rd S b x) (hp : D.pl x = true) (hd : D.dp x ≤ 40) : eqG true S a b = .ok (.bl false, S) := by
  unfold eqG
  rw [toP_rd 40 _ _ h1 hd, toP_rd 40 _ _ h2 hd]
  simp only [eqv_pl x x hp hp, D.beq_refl]
  rfl
theorem eq_rows {S : Store} {a b : D} {p : Page} {f : Nat → Nat → Int} (h1 : Rd S a (.lst (rowsD p f))) (h2 : Rd S b (.lst (rowsD p f))) : eqG true S a b = .ok (.bl false, S) :=
  eq_same h1 h2 (rowsD_pl p f) (Nat.le_trans (rowsD_dp p f) (by decide))
/-! ### rows alike -/
theorem rowsS_like {p p' : Page} (h : Xf p p' (fun k k' => k = k' ∧ k < p.length)) (hl : p'.length = p.length) (y : Sty) : rowsD p' (sumW p' y) = rowsD p (sumW p y) ∧ rowsD p' (bAt p' y) = rowsD p (bAt p y) := by
  unfold rowsD
  rw [hl]
  exact ⟨List.map_congr_left fun k hk => by rw [h.rowS y ⟨rfl, List.mem_range.mp hk⟩], List.map_congr_left fun k hk => by rw [h.rowB y ⟨rfl, List.mem_range.mp hk⟩]⟩
theorem rowsS_rev (p : Page) (y : Sty) : rowsD p.reverse (sumW p.reverse y) = (rowsD p (sumW p y)).reverse ∧ rowsD p.reverse (bAt p.reverse y) = (rowsD p (bAt p y)).reverse := by
  constructor
  · refine List.ext_getElem? fun i => ?_
    by_cases hi : i < p.length
    · rw [rowsD_at (by rw [List.length_reverse]; exact hi), List.getElem?_reverse (by simpa using hi), rowsD_len, rowsD_at (by omega), ← (xf_rev p).rowS y (k := p.length - 1 - i) (k' := i) ⟨by omega, by omega⟩]
    · rw [List.getElem?_eq_none (by simp; omega), List.getElem?_eq_none (by simp; omega)]
  · refine List.ext_getElem? fun i => ?_
    by_cases hi : i < p.length
    · rw [rowsD_at (by rw [List.length_reverse]; exact hi), List.getElem?_reverse (by simpa using hi), rowsD_len, rowsD_at (by omega), ← (xf_rev p).rowB y (k := p.length - 1 - i) (k' := i) ⟨by omega, by omega⟩]
    · rw [List.getElem?_eq_none (by simp; omega), List.getElem?_eq_none (by simp; omega)]
def dup {A : Type} (l : List A) : List A := l.flatMap fun x => [x, x]
theorem dup_len {A : Type} (l : List A) : (dup l).length = 2 * l.length := by
  unfold dup
  induction l with
  | nil => rfl
  | cons r p ih => rw [List.flatMap_cons, List.length_append, ih]; simp; omega
theorem dup_get {A : Type} : ∀ (l : List A) (k : Nat), (dup l)[k]? = l[k / 2]?
  | [], k => by simp [dup]
  | r :: p, 0 => rfl
  | r :: p, 1 => rfl
  | r :: p, k + 2 => by
    have e : dup (r :: p) = r :: r :: dup p := rfl
    rw [e, List.getElem?_cons_succ, List.getElem?_cons_succ, dup_get p k, show (k + 2) / 2 = k / 2 + 1 by omega, List.getElem?_cons_succ]
theorem dup_snoc {A : Type} (l : List A) (x : A) : dup (l ++ [x]) = dup l ++ [x, x] := by
  unfold dup
  rw [List.flatMap_append]; rfl
theorem dup_map {A B : Type} (f : A → B) (l : List A) : dup (l.map f) = (dup l).map f := by
  unfold dup
  rw [List.map_flatMap, List.flatMap_map]; rfl
theorem rd_dup {S : Store} {n : Nat} {p : Page} {f g : Nat → Nat → Int} (h : Lays S n p f) (hr : ∀ k', k' < 2 * p.length → rowI (twice p) g k' = rowI p f (k' / 2)) : Rd S (.lst (dup (refs (n + 1) p.length))) (.lst (rowsD (twice p) g)) := by
  rw [Rd]
  refine ⟨_, [], rfl, rds_rows (by rw [dup_len, refs_len, rowsD_len, twice_len]) fun i d e => ?_⟩
  have hi : i < 2 * p.length := by have := (List.getElem?_eq_some_iff.mp e).1; rwa [dup_len, refs_len] at this
  rw [dup_get, refs_get (by omega)] at e
  cases e
  exact ⟨_, _, rfl, h.2 _ (by omega), by rw [rowsD_at (by rw [twice_len]; exact hi), hr i hi], rowI_pks p f _⟩
theorem rd_rev {S : Store} {n : Nat} {p : Page} {f : Nat → Nat → Int} (h : Lays S n p f) : Rd S (.lst (refs (n + 1) p.length).reverse) (.lst (rowsD p f).reverse) := by
  rw [Rd]
  refine ⟨_, [], rfl, rds_rows (by simp) fun i d e => ?_⟩
  have hi : i < p.length := by have := (List.getElem?_eq_some_iff.mp e).1; simpa using this
  rw [List.getElem?_reverse (by simpa using hi), refs_len, refs_get (by omega)] at e
  cases e
  refine ⟨_, _, rfl, h.2 _ (by omega), ?_, rowI_pks p f (p.length - 1 - i)⟩
  rw [List.getElem?_reverse (by simpa using hi), rowsD_len, rowsD_at (by omega)]
theorem okPage_mk {p : Page} (h1 : 1 ≤ p.length) (h2 : p.length ≤ 30) (h3 : ∀ r ∈ p, okRow r = true) : okPage p = true := by
  unfold okPage
  simp only [Bool.and_eq_true, decide_eq_true_eq, List.all_eq_true]
  exact ⟨⟨h1, h2⟩, h3⟩
/-- another page with other words as long -/
theorem like_page (b : Box) {Z : Store} {p : Page} (hp : okPage p = true) {n : Nat} (hn : ∀ b', (Bx b' Z)[n]? = some (.lst (encP p))) {env : Env} (he : env.length = 16) (h1 : env[1]? = some (some (.ref 1))) :
    ∃ (p' : Page) (b' : Box), lcGo [(n, encP p)] (.one 13) tYesD (eB tupG (aCons (eLc false (iSeq (eV 13)) [15] (.one 15) (tYesD) (eCall 2 m_law_like (aCons (eV 1) (aCons (eV 15) (aNil))))) (aNil))) env (encP p) [] (Bx b Z) = .ok (encP p', Bx b' Z) ∧ All2 (fun r r' => All2 LC r r') p p' := by
  obtain ⟨p1, p2, p3⟩ := okPage_parts hp
  generalize hf : lcGo _ _ _ _ _ _ _ _ = q
  obtain ⟨acc, s, rfl, p', b', hall, rfl, rfl⟩ := lc_at hf (fun i acc st' => ∃ (p' : Page) (b' : Box), All2 (fun r r' => All2 LC r r') (p.take i) p' ∧ acc = encP p' ∧ st' = Bx b' Z) ⟨[], b, trivial, rfl, rfl⟩ (fun i acc st' _ ⟨p', b', _, _, e⟩ => by subst e; exact still_one (hn b')) (fun i x acc st' hi ⟨p', b', e1, e3, e4⟩ => by
    subst e3 e4
    unfold encP at hi
    rw [List.getElem?_map] at hi
    cases qi : p[i]? with
    | none => rw [qi] at hi; cases hi
    | some r =>
      rw [qi] at hi
      cases hi
      have hr := p3 r (List.mem_of_getElem? qi)
      have rl := (okRow_parts hr).2.1
      have g1 : ((env.set 13 (some (encR r))).set 15 none)[1]? = some (some (.ref 1)) := by rw [List.getElem?_set_ne (by omega), List.getElem?_set_ne (by omega)]; exact h1
      obtain ⟨r', b2, lr, al⟩ := like_row b' Z hr (env := (env.set 13 (some (encR r))).set 15 none) (by simp [he]) g1
      have g13 : (env.set 13 (some (encR r)))[13]? = some (some (encR r)) := List.getElem?_set_self (by omega)
      have ll : r.length ≤ LIM := le_LIM (by omega)
      have ll2 : r'.length ≤ LIM := by rw [← al.len]; exact ll
      refine ⟨_, rfl, ?_⟩
      unfold encR at g13 lr ⊢
      simp [g13, itemsOf, ll, lr, newL, tupG, lstOf, ll2]
      exact ⟨p' ++ [r'], by rw [take_snoc qi]; exact e1.snoc al, by simp [encP, encR], _, rfl⟩)
  rw [encP_len, List.take_length] at hall
  exact ⟨p', b', rfl, hall⟩
end Dl
/-! ## B14b -/
/-! Sheets and cursors as objects. -/
namespace Dl
open PySem L2
def shFs (p : Page) (y : Sty) (L Q : Nat) : List (Str × D) := [("rows", .lst (encP p)), ("style", y.enc), ("lefts", .ref L), ("past", .ref Q)]
def cuFs (n : Nat) (t : Pos3) : List (Str × D) := [("sheet", .ref n), ("number", .int t.1), ("cell", .int t.2.1), ("place", .int t.2.2)]
theorem look_hit {A : Type} (x : Str) (a : A) (r : List (Str × A)) : ((x, a) :: r).lookup x = some a := by simp [List.lookup_cons]
theorem look_miss {A : Type} {x z : Str} (a : A) (r : List (Str × A)) (h : (x == z) = false) : ((z, a) :: r).lookup x = r.lookup x := by rw [List.lookup_cons, h]
section
variable (p : Page) (y : Sty) (L Q : Nat)
theorem sh_rows : (shFs p y L Q).lookup ("rows" : Str) = some (.lst (encP p)) := look_hit _ _ _
theorem sh_style : (shFs p y L Q).lookup ("style" : Str) = some y.enc := by
  unfold shFs
  rw [look_miss _ _ (by decide +kernel), look_hit]
theorem sh_lefts : (shFs p y L Q).lookup ("lefts" : Str) = some (.ref L) := by
  unfold shFs
  rw [look_miss _ _ (by decide +kernel), look_miss _ _ (by decide +kernel), look_hit]
theorem sh_past : (shFs p y L Q).lookup ("past" : Str) = some (.ref Q) := by
  unfold shFs
  rw [look_miss _ _ (by decide +kernel), look_miss _ _ (by decide +kernel), look_miss _ _ (by decide +kernel), look_hit]
theorem sh_no {m : Str} (h1 : (m == "rows") = false) (h2 : (m == "style") = false) (h3 : (m == "lefts") = false) (h4 : (m == "past") = false) : (shFs p y L Q).lookup m = none := by
  unfold shFs
  rw [look_miss _ _ h1, look_miss _ _ h2, look_miss _ _ h3, look_miss _ _ h4]; rfl
theorem sh_page : (shFs p y L Q).lookup ("page" : Str) = none := sh_no p y L Q (by decide +kernel) (by decide +kernel) (by decide +kernel) (by decide +kernel)
theorem sh_back : (shFs p y L Q).lookup ("back" : Str) = none := sh_no p y L Q (by decide +kernel) (by decide +kernel) (by decide +kernel) (by decide +kernel)
end
theorem put_sh (a b c d : D) : putD "past" d (putD "lefts" c (putD "style" b (putD "rows" a []))) = ([("rows", a), ("style", b), ("lefts", c), ("past", d)] : List (Str × D)) := by
  simp only [putD, show ¬ (("rows" : Str) = "style") by decide +kernel, show ¬ (("rows" : Str) = "lefts") by decide +kernel, show ¬ (("rows" : Str) = "past") by decide +kernel, show ¬ (("style" : Str) = "lefts") by decide +kernel, show ¬ (("style" : Str) = "past") by decide +kernel, show ¬ (("lefts" : Str) = "past") by decide +kernel, if_false]
section
variable (n : Nat) (t : Pos3)
theorem cu_sheet : (cuFs n t).lookup ("sheet" : Str) = some (.ref n) := look_hit _ _ _
theorem cu_number : (cuFs n t).lookup ("number" : Str) = some (.int t.1) := by
  unfold cuFs
  rw [look_miss _ _ (by decide +kernel), look_hit]
theorem cu_cell : (cuFs n t).lookup ("cell" : Str) = some (.int t.2.1) := by
  unfold cuFs
  rw [look_miss _ _ (by decide +kernel), look_miss _ _ (by decide +kernel), look_hit]
theorem cu_place : (cuFs n t).lookup ("place" : Str) = some (.int t.2.2) := by
  unfold cuFs
  rw [look_miss _ _ (by decide +kernel), look_miss _ _ (by decide +kernel), look_miss _ _ (by decide +kernel), look_hit]
theorem cu_no {m : Str} (h1 : (m == "sheet") = false) (h2 : (m == "number") = false) (h3 : (m == "cell") = false) (h4 : (m == "place") = false) : (cuFs n t).lookup m = none := by
  unfold cuFs
  rw [look_miss _ _ h1, look_miss _ _ h2, look_miss _ _ h3, look_miss _ _ h4]; rfl
theorem cu_at : (cuFs n t).lookup ("at" : Str) = none := cu_no n t (by decide +kernel) (by decide +kernel) (by decide +kernel) (by decide +kernel)
theorem cu_mine : (cuFs n t).lookup ("mine" : Str) = none := cu_no n t (by decide +kernel) (by decide +kernel) (by decide +kernel) (by decide +kernel)
theorem cu_aside : (cuFs n t).lookup ("aside" : Str) = none := cu_no n t (by decide +kernel) (by decide +kernel) (by decide +kernel) (by decide +kernel)
theorem cu_go : (cuFs n t).lookup ("go" : Str) = none := cu_no n t (by decide +kernel) (by decide +kernel) (by decide +kernel) (by decide +kernel)
theorem cu_go_end : (cuFs n t).lookup ("go_end" : Str) = none := cu_no n t (by decide +kernel) (by decide +kernel) (by decide +kernel) (by decide +kernel)
theorem cu_left : (cuFs n t).lookup ("left" : Str) = none := cu_no n t (by decide +kernel) (by decide +kernel) (by decide +kernel) (by decide +kernel)
theorem cu_right : (cuFs n t).lookup ("right" : Str) = none := cu_no n t (by decide +kernel) (by decide +kernel) (by decide +kernel) (by decide +kernel)
theorem cu_near : (cuFs n t).lookup ("near" : Str) = none := cu_no n t (by decide +kernel) (by decide +kernel) (by decide +kernel) (by decide +kernel)
theorem cu_beside : (cuFs n t).lookup ("beside" : Str) = none := cu_no n t (by decide +kernel) (by decide +kernel) (by decide +kernel) (by decide +kernel)
theorem cu_up : (cuFs n t).lookup ("up" : Str) = none := cu_no n t (by decide +kernel) (by decide +kernel) (by decide +kernel) (by decide +kernel)
theorem cu_down : (cuFs n t).lookup ("down" : Str) = none := cu_no n t (by decide +kernel) (by decide +kernel) (by decide +kernel) (by decide +kernel)
theorem cu_page : (cuFs n t).lookup ("page" : Str) = none := cu_no n t (by decide +kernel) (by decide +kernel) (by decide +kernel) (by decide +kernel)
theorem cu_back : (cuFs n t).lookup ("back" : Str) = none := cu_no n t (by decide +kernel) (by decide +kernel) (by decide +kernel) (by decide +kernel)
end
theorem put_cu (a b c d : D) : putD "place" d (putD "cell" c (putD "number" b (putD "sheet" a []))) = ([("sheet", a), ("number", b), ("cell", c), ("place", d)] : List (Str × D)) := by
  simp only [putD, show ¬ (("sheet" : Str) = "number") by decide +kernel, show ¬ (("sheet" : Str) = "cell") by decide +kernel, show ¬ (("sheet" : Str) = "place") by decide +kernel, show ¬ (("number" : Str) = "cell") by decide +kernel, show ¬ (("number" : Str) = "place") by decide +kernel, show ¬ (("cell" : Str) = "place") by decide +kernel, if_false]
theorem put_number (n : Nat) (t : Pos3) (a : Nat) : putD "number" (.int a) (cuFs n t) = cuFs n (a, t.2.1, t.2.2) := by
  simp only [cuFs, putD, show ¬ (("sheet" : Str) = "number") by decide +kernel, if_false, if_true]
theorem put_cell (n : Nat) (t : Pos3) (a : Nat) : putD "cell" (.int a) (cuFs n t) = cuFs n (t.1, a, t.2.2) := by
  simp only [cuFs, putD, show ¬ (("sheet" : Str) = "cell") by decide +kernel, show ¬ (("number" : Str) = "cell") by decide +kernel, if_false, if_true]
theorem put_place (n : Nat) (t : Pos3) (a : Nat) : putD "place" (.int a) (cuFs n t) = cuFs n (t.1, t.2.1, a) := by
  simp only [cuFs, putD, show ¬ (("sheet" : Str) = "place") by decide +kernel, show ¬ (("number" : Str) = "place") by decide +kernel, show ¬ (("cell" : Str) = "place") by decide +kernel, if_false, if_true]
theorem set_self {S : Store} {c : Nat} {o o' : Ob} (h : S[c]? = some o') : (S.set c o)[c]? = some o := by
  rw [List.getElem?_set_self (List.getElem?_eq_some_iff.mp h).1]
theorem listG_of {st : Store} {d : D} {ds : List D} {w : List (Nat × List D)} (h : listOf st d = some (ds, w)) : listG false st [d] = .ok (.lst ds, st) := by
  unfold listOf at h
  split at h
  · cases h; simp [listG, lstOf, newL]
  · split at h
    · cases h
      rename_i e
      simp [listG, lstOf, e, newL]
    · cases h
  · cases h
/-- where the cells of some rows begin, kept -/
theorem lefts_ok {p : Page} (hp : okPage p = true) (y : Sty) {d : D} {w : List (Nat × List D)} {st : Store} (hd : listOf st d = some (encP p, w)) :
    ∃ k M1 n M2, m_all_stretches [d] st = .ok (.ref k, st ++ M1) ∧ m_begins_by [d, y.enc, .ref k] (st ++ M1) = .ok (.ref n, st ++ M1 ++ M2) ∧ st.length ≤ n ∧ Lays (st ++ M1 ++ M2) n p (bAt p y) := by
  obtain ⟨RR, more, ha, hR⟩ := all_stretches_ok hp hd
  have hd1 : listOf (st ++ .lst RR :: more) d = some (encP p, w) := listOf_stays (Stays.app _ _) hd
  obtain ⟨kvs, sb⟩ := begins_by_ok hp y hd1 (n := st.length) (RR := RR) (by simp) hR
  obtain ⟨m, e⟩ := lay_pre (st ++ .lst RR :: more) [.dT kvs] p (bAt p y)
  have la := lays_of ((st ++ .lst RR :: more) ++ [.dT kvs]) p (bAt p y)
  rw [e] at sb la
  refine ⟨_, _, _, _, ha, sb, by simp; omega, ?_⟩
  have : ((st ++ .lst RR :: more) ++ [Ob.dT kvs]).length = (st ++ .lst RR :: more).length + 1 := by simp; omega
  rwa [this] at la
theorem app_get (st : Store) (o : Ob) (M : Store) : (st ++ o :: M)[st.length]? = some o := by simp
theorem app_set (st : Store) (o o' : Ob) (M : Store) : (st ++ o :: M).set st.length o' = st ++ o' :: M := by simp
def m_Sheet_init : FV := funD 3 (d_Sheet_init m_need_page m_need_style m_begins_by m_all_stretches)
theorem Sheet_init_ok {p : Page} (hp : okPage p = true) {y : Sty} (hy : y.ok) {d : D} {w : List (Nat × List D)} {st : Store} (hd : listOf st d = some (encP p, w)) :
    ∃ M L Q, m_Sheet_init [.ref st.length, d, y.enc] (st ++ [.ins 13 []]) = .ok (.non, st ++ .ins 13 (shFs p y L Q) :: M) ∧ Lays (st ++ .ins 13 (shFs p y L Q) :: M) L p (bAt p y) ∧ (st ++ .ins 13 (shFs p y L Q) :: M)[Q]? = some (.lst []) ∧ st.length < L ∧ L + p.length < Q := by
  rw [m_Sheet_init, funD, d_Sheet_init]
  have hS : ∀ o M, listOf (st ++ o :: M) d = some (encP p, w) := fun o M => listOf_stays (Stays.app _ _) hd
  have np := need_page_ok (hS (.ins 13 []) []) hp
  have ns := need_style_ok hy (st ++ [.ins 13 []])
  have lg := listG_of (hS (.ins 13 []) [])
  obtain ⟨f1, hf1⟩ : ∃ f1, f1 = putD "rows" (.lst (encP p)) [] := ⟨_, rfl⟩
  obtain ⟨f2, hf2⟩ : ∃ f2, f2 = putD "style" y.enc f1 := ⟨_, rfl⟩
  have l1 : f1.length < 900 := by rw [hf1]; have := put_len "rows" (.lst (encP p)) []; simp at this; omega
  have l2 : f2.length < 900 := by rw [hf2, hf1]; have := put_len "style" y.enc (putD "rows" (.lst (encP p)) []); have := put_len "rows" (.lst (encP p)) []; simp at *; omega
  have r2 : f2.lookup ("rows" : Str) = some (.lst (encP p)) := by
    rw [hf2, hf1]
    simp only [putD, show ¬ (("rows" : Str) = "style") by decide +kernel, if_false]
    exact look_hit _ _ _
  obtain ⟨k, M1, n, M2, as, bb, hn, la⟩ := lefts_ok hp y (d := .lst (encP p)) (w := []) (st := st ++ [.ins 13 f2]) rfl
  obtain ⟨f3, hf3⟩ : ∃ f3, f3 = putD "lefts" (.ref n) f2 := ⟨_, rfl⟩
  have l3 : f3.length < 900 := by rw [hf3]; have := put_len "lefts" (.ref n) f2; rw [hf2, hf1] at *; have := put_len "style" y.enc (putD "rows" (.lst (encP p)) []); have := put_len "rows" (.lst (encP p)) []; simp at *; omega
  have e1 : st ++ [Ob.ins 13 f2] ++ M1 = st ++ .ins 13 f2 :: M1 := by simp
  have e2 : st ++ [Ob.ins 13 f2] ++ M1 ++ M2 = st ++ .ins 13 f2 :: (M1 ++ M2) := by simp
  rw [e1] at as bb
  rw [e2] at la
  rw [show st ++ Ob.ins 13 f2 :: M1 ++ M2 = st ++ .ins 13 f2 :: (M1 ++ M2) by simp] at bb
  have g1 := app_get st (.ins 13 []) []
  have g2 := app_get st (.ins 13 f1) []
  have g3 := app_get st (.ins 13 f2) []
  have g4 := app_get st (.ins 13 f2) (M1 ++ M2)
  have g5 := app_get st (.ins 13 f3) (M1 ++ M2 ++ [.lst []])
  have s1 := app_set st (.ins 13 []) (.ins 13 f1) []
  have s2 := app_set st (.ins 13 f1) (.ins 13 f2) []
  have s3 := app_set st (.ins 13 f2) (.ins 13 f3) (M1 ++ M2)
  obtain ⟨q, hq⟩ : ∃ q, q = (st ++ .ins 13 f3 :: (M1 ++ M2)).length := ⟨_, rfl⟩
  have e4 : st ++ Ob.ins 13 f3 :: (M1 ++ M2) ++ [.lst []] = st ++ .ins 13 f3 :: (M1 ++ M2 ++ [.lst []]) := by simp
  have hf4 : putD "past" (.ref q) f3 = shFs p y n q := by
    rw [hf3, hf2, hf1]; exact put_sh _ _ _ _
  have s4 := app_set st (.ins 13 f3) (.ins 13 (shFs p y n q)) (M1 ++ M2 ++ [.lst []])
  have ql : q = st.length + (M1.length + M2.length + 1) := by rw [hq]; simp
  refine ⟨M1 ++ M2 ++ [.lst []], n, q, ?_, ?_, ?_, ?_, ?_⟩
  · generalize hA : st ++ [Ob.ins 13 []] = A at *
    generalize hB : st ++ [Ob.ins 13 f1] = B at *
    generalize hC : st ++ [Ob.ins 13 f2] = C at *
    generalize hDD : st ++ Ob.ins 13 f2 :: M1 = DD at *
    generalize hE : st ++ Ob.ins 13 f2 :: (M1 ++ M2) = EE at *
    generalize hF : st ++ Ob.ins 13 f3 :: (M1 ++ M2) = FF at *
    generalize hG : st ++ Ob.ins 13 f3 :: (M1 ++ M2 ++ [.lst []]) = GG at *
    simp [np, ns, lg, g1, ← hf1, s1, g2, l1, ← hf2, s2, g3, r2, as, bb, g4, l2, ← hf3, s3, e4, ← hq, g5, l3, hf4, s4]
  · have key : ∀ (i : Nat) (o : Ob), st.length < i → (st ++ .ins 13 f2 :: (M1 ++ M2))[i]? = some o → (st ++ .ins 13 (shFs p y n q) :: (M1 ++ M2 ++ [.lst []]))[i]? = some o := fun i o hi e => by
      rw [List.getElem?_append_right (by omega)] at e ⊢
      obtain ⟨j, ej⟩ : ∃ j, i - st.length = j + 1 := ⟨i - st.length - 1, by omega⟩
      rw [ej] at e ⊢
      rw [List.getElem?_cons_succ] at e ⊢
      exact get_app e
    simp at hn
    exact ⟨key _ _ (by omega) la.1, fun k hk => key _ _ (by omega) (la.2 k hk)⟩
  · rw [ql, List.getElem?_append_right (by omega)]
    rw [show st.length + (M1.length + M2.length + 1) - st.length = M1.length + M2.length + 1 by omega, List.getElem?_cons_succ, List.getElem?_append_right (by simp)]
    simp
  · simp at hn; omega
  · have : (st ++ .ins 13 f2 :: (M1 ++ M2))[n]? = some _ := la.1
    by_cases z : p.length = 0
    · have := okPage_parts hp; omega
    · have h2 := la.2 (p.length - 1) (by omega)
      have := (List.getElem?_eq_some_iff.mp h2).1
      rw [ql]
      simp at this
      omega
/-- a sheet -/
def ShAt (S : Store) (n : Nat) (p : Page) (y : Sty) (ps : List Page) (lo : Nat) : Prop := ∃ L Q, S[n]? = some (.ins 13 (shFs p y L Q)) ∧ Lays S L p (bAt p y) ∧ S[Q]? = some (.lst (ps.map fun q => .lst (encP q))) ∧ lo ≤ L ∧ lo ≤ Q ∧ (Q < L ∨ L + p.length < Q)
end Dl
/-! ## B14c -/
/-! Cursors: what their methods do. -/
namespace Dl
open PySem L2
theorem set_same {S : Store} {c : Nat} {o : Ob} (h : S[c]? = some o) : S.set c o = S := by
  obtain ⟨hl, e⟩ := List.getElem?_eq_some_iff.mp h
  subst e
  exact List.set_getElem_self hl
theorem eq_trip {neg : Bool} {S : Store} (s t : Pos3) : eqG neg S (encT s) (encT t) = .ok (.bl (if neg = true then !decide (s = t) else decide (s = t)), S) := by
  rw [eqG_pl (by rfl) (by rfl) (by simp [encT]) (by simp [encT])]
  have : (encT s = encT t) ↔ (s = t) := ⟨encT_inj, fun h => by rw [h]⟩
  simp only [decide_eq_decide.mpr this]
/-- all objects stay -/
def Pre (S S' : Store) : Prop := ∀ (i : Nat) (o : Ob), S[i]? = some o → S'[i]? = some o
theorem Pre.app (S M : Store) : Pre S (S ++ M) := fun _ _ h => get_app h
theorem Pre.stays {S S' : Store} (h : Pre S S') : Stays S S' := fun i o e => h i _ e
theorem ShAt.pre {S S' : Store} {n lo : Nat} {p : Page} {y : Sty} {ps : List Page} (h : ShAt S n p y ps lo) (s : Pre S S') : ShAt S' n p y ps lo := by
  obtain ⟨L, Q, h1, h2, h3, h4⟩ := h
  exact ⟨L, Q, s _ _ h1, h2.stays s.stays, s _ _ h3, h4⟩
theorem set_keep {S : Store} {c k : Nat} {o o' : Ob} (hne : k ≠ c) (h : S[k]? = some o) : (S.set c o')[k]? = some o := by
  rw [List.getElem?_set_ne (Ne.symm hne)]; exact h
theorem Lays.set {S : Store} {L c : Nat} {p : Page} {f : Nat → Nat → Int} {o : Ob} (h : Lays S L p f) (hc : c < L) : Lays (S.set c o) L p f :=
  ⟨set_keep (by omega) h.1, fun k hk => set_keep (by omega) (h.2 k hk)⟩
/-- a cursor at a place of a sheet -/
structure Cu (S : Store) (c n : Nat) (p : Page) (y : Sty) (L Q : Nat) (t : Pos3) : Prop where
  cu : S[c]? = some (.ins 14 (cuFs n t))
  sh : S[n]? = some (.ins 13 (shFs p y L Q))
  la : Lays S L p (bAt p y)
  pa : S[Q]? = some (.lst [])
  va : Valid p t
  cn : c < n
  nL : n < L
  LQ : L + p.length < Q
def mv (S : Store) (c n : Nat) (t : Pos3) : Store := S.set c (.ins 14 (cuFs n t))
section
variable {S : Store} {c n L Q : Nat} {p : Page} {y : Sty} {t : Pos3}
theorem Cu.pre {S' : Store} (h : Cu S c n p y L Q t) (s : Pre S S') : Cu S' c n p y L Q t := ⟨s _ _ h.cu, s _ _ h.sh, h.la.stays s.stays, s _ _ h.pa, h.va, h.cn, h.nL, h.LQ⟩
theorem Cu.move (h : Cu S c n p y L Q t) {t' : Pos3} (v : Valid p t') : Cu (mv S c n t') c n p y L Q t' :=
  ⟨set_self h.cu, set_keep (by have := h.cn; omega) h.sh, h.la.set (by have := h.cn; have := h.nL; omega), set_keep (by have := h.cn; have := h.nL; have := h.LQ; omega) h.pa, v, h.cn, h.nL, h.LQ⟩
theorem Cu.same (h : Cu S c n p y L Q t) : mv S c n t = S := set_same h.cu
def m_Cursor_at : FV := funD 1 d_Cursor_at
theorem at_ok (h : Cu S c n p y L Q t) : m_Cursor_at [.ref c] S = .ok (encT t, S) := by
  rw [m_Cursor_at, funD, d_Cursor_at]
  simp [h.cu, cu_number, cu_cell, cu_place, encT]
def m_Cursor_go : FV := funD 5 (d_Cursor_go m_Cursor_at)
theorem go_ok (h : Cu S c n p y L Q t) (t' : Pos3) : m_Cursor_go [.ref c, .int t'.1, .int t'.2.1, .int t'.2.2] S = .ok (.bl (!decide (t' = t)), mv S c n t') := by
  rw [m_Cursor_go, funD, d_Cursor_go]
  have a := at_ok h
  have e : eqG true S (.tup [.int t'.1, .int t'.2.1, .int t'.2.2]) (encT t) = .ok (.bl (!decide (t' = t)), S) := eq_trip (neg := true) t' t
  have f4 : ∀ u, (cuFs n u).length = 4 := fun u => rfl
  have ss : ∀ o, (S.set c o)[c]? = some o := fun o => set_self h.cu
  have hcu := h.cu
  simp [hcu, cu_at, a, e, f4, ss, put_number, put_cell, put_place, mv]
def m_Cursor_go_end : FV := funD 3 (d_Cursor_go_end m_Cursor_go)
theorem go_end_ok (h : Cu S c n p y L Q t) {k b : Nat} (hk : k < p.length) (hb : b < cellsIn p k) : m_Cursor_go_end [.ref c, .int k, .int b] S = .ok (.bl (!decide ((k, b, (cellAt p k b).length) = t)), mv S c n (k, b, (cellAt p k b).length)) := by
  rw [m_Cursor_go_end, funD, d_Cursor_go_end]
  obtain ⟨rr, i1, i2, _⟩ := ixC (Z := S) (d := .lst (encP p)) (w := []) rfl hk hb
  have g := go_ok h (k, b, (cellAt p k b).length)
  have l1 : lenG S [.str (cellAt p k b)] = .ok (.int (cellAt p k b).length, S) := rfl
  have hcu := h.cu
  have hsh := h.sh
  simp only at g
  simp [hcu, hsh, cu_sheet, cu_go, sh_rows, i1, i2, l1, g, -ix_lst]
def m_Cursor_left : FV := funD 1 (d_Cursor_left m_Cursor_go m_Cursor_go_end)
theorem left_ok (hp : okPage p = true) (h : Cu S c n p y L Q t) : m_Cursor_left [.ref c] S = .ok (.bl (!decide (goL p t = t)), mv S c n (goL p t)) := by
  rw [m_Cursor_left, funD, d_Cursor_left]
  obtain ⟨a, b, e⟩ := t
  obtain ⟨v1, v2, v3⟩ := h.va
  simp only at v1 v2 v3
  have hcu := h.cu
  have hsh := h.sh
  rw [goL_mk]
  by_cases z1 : 0 < e
  · have z1' : (0 : Int) < (e : Int) := by omega
    have g := go_ok h (a, b, e - 1)
    simp only at g
    rw [show ((e - 1 : Nat) : Int) = (e : Int) - 1 by omega] at g
    rw [if_pos z1]
    simp [hcu, cu_number, cu_cell, cu_place, cu_go, gtG, subG, z1, z1', g, -Prod.mk.injEq]
  · have z1' : ¬ (0 : Int) < (e : Int) := by omega
    rw [if_neg z1]
    by_cases z2 : 0 < b
    · have z2' : (0 : Int) < (b : Int) := by omega
      have g := go_end_ok h (k := a) (b := b - 1) v1 (by omega)
      rw [show ((b - 1 : Nat) : Int) = (b : Int) - 1 by omega] at g
      rw [if_pos z2]
      simp [hcu, cu_number, cu_cell, cu_place, cu_go_end, gtG, subG, z1, z1', z2, z2', g, -Prod.mk.injEq]
    · have z2' : ¬ (0 : Int) < (b : Int) := by omega
      rw [if_neg z2]
      by_cases z3 : 0 < a
      · have z3' : (0 : Int) < (a : Int) := by omega
        have c1 := (cellsIn_le hp (k := a - 1) (by omega)).1
        have g := go_end_ok h (k := a - 1) (b := cellsIn p (a - 1) - 1) (by omega) (by omega)
        obtain ⟨rr, i1, _, i3⟩ := ixC (Z := S) (d := .lst (encP p)) (w := []) rfl (k := a - 1) (c := 0) (by omega) (by omega)
        rw [show ((a - 1 : Nat) : Int) = (a : Int) - 1 by omega] at g i1
        rw [show ((cellsIn p (a - 1) - 1 : Nat) : Int) = (cellsIn p (a - 1) : Int) - 1 by omega] at g
        rw [if_pos z3]
        simp [hcu, hsh, cu_sheet, sh_rows, cu_number, cu_cell, cu_place, cu_go_end, gtG, subG, z1, z1', z2, z2', z3, z3', i1, i3, g, -Prod.mk.injEq, -ix_lst]
      · have z3' : ¬ (0 : Int) < (a : Int) := by omega
        rw [if_neg z3, h.same]
        simp [hcu, cu_number, cu_cell, cu_place, gtG, z1, z1', z2, z2', z3, z3']
def m_Cursor_mine : FV := funD 1 d_Cursor_mine
theorem mine_ok (h : Cu S c n p y L Q t) : ∃ rr, m_Cursor_mine [.ref c] S = .ok (rr, S) ∧ lenG S [rr] = .ok (.int (cellsIn p t.1), S) ∧ ixG S rr (.int t.2.1) = .ok (.str (cellAt p t.1 t.2.1), S) := by
  obtain ⟨rr, i1, i2, i3⟩ := ixC (Z := S) (d := .lst (encP p)) (w := []) rfl h.va.1 h.va.2.1
  refine ⟨rr, ?_, i3, i2⟩
  rw [m_Cursor_mine, funD, d_Cursor_mine]
  simp [h.cu, h.sh, cu_sheet, cu_number, sh_rows, i1, -ix_lst]
def m_Cursor_right : FV := funD 1 (d_Cursor_right m_Cursor_mine m_Cursor_go)
theorem right_ok (hp : okPage p = true) (h : Cu S c n p y L Q t) : m_Cursor_right [.ref c] S = .ok (.bl (!decide (goR p t = t)), mv S c n (goR p t)) := by
  rw [m_Cursor_right, funD, d_Cursor_right]
  obtain ⟨rr, mi, m2, m3⟩ := mine_ok h
  obtain ⟨a, b, e⟩ := t
  obtain ⟨v1, v2, v3⟩ := h.va
  simp only at v1 v2 v3 m2 m3
  have hcu := h.cu
  have hsh := h.sh
  have l1 : lenG S [.str (cellAt p a b)] = .ok (.int (cellAt p a b).length, S) := rfl
  have l2 : lenG S [.lst (encP p)] = .ok (.int p.length, S) := by
    have := len_list (st := S) (d := .lst (encP p)) (w := (encP p, [])) rfl
    rwa [encP_len] at this
  rw [goR_mk]
  by_cases z1 : e < (cellAt p a b).length
  · have z1' : (e : Int) < ((cellAt p a b).length : Int) := by omega
    have g := go_ok h (a, b, e + 1)
    simp only at g
    rw [show ((e + 1 : Nat) : Int) = (e : Int) + 1 by omega] at g
    rw [if_pos z1]
    simp [hcu, cu_number, cu_cell, cu_place, cu_go, cu_mine, mi, m3, l1, ltG, addG, z1, z1', g, -Prod.mk.injEq]
  · have z1' : ¬ (e : Int) < ((cellAt p a b).length : Int) := by omega
    rw [if_neg z1]
    by_cases z2 : b + 1 < cellsIn p a
    · have z2' : (b : Int) < (cellsIn p a : Int) - 1 := by omega
      have g := go_ok h (a, b + 1, 0)
      simp only at g
      rw [show ((b + 1 : Nat) : Int) = (b : Int) + 1 by omega] at g
      rw [if_pos z2]
      simp at g
      simp [hcu, cu_number, cu_cell, cu_place, cu_go, cu_mine, mi, m2, m3, l1, ltG, addG, subG, z1, z1', z2, z2', g]
    · have z2' : ¬ (b : Int) < (cellsIn p a : Int) - 1 := by omega
      rw [if_neg z2]
      by_cases z3 : a + 1 < p.length
      · have z3' : (a : Int) < (p.length : Int) - 1 := by omega
        have g := go_ok h (a + 1, 0, 0)
        simp only at g
        rw [show ((a + 1 : Nat) : Int) = (a : Int) + 1 by omega] at g
        rw [if_pos z3]
        simp at g
        simp [hcu, hsh, cu_sheet, sh_rows, cu_number, cu_cell, cu_place, cu_go, cu_mine, mi, m2, m3, l1, l2, ltG, addG, subG, z1, z1', z2, z2', z3, z3', g]
      · have z3' : ¬ (a : Int) < (p.length : Int) - 1 := by omega
        rw [if_neg z3, h.same]
        simp [hcu, hsh, cu_sheet, sh_rows, cu_number, cu_cell, cu_place, cu_mine, mi, m2, m3, l1, l2, ltG, subG, z1, z1', z2, z2', z3, z3']
def m_Cursor_aside : FV := funD 1 d_Cursor_aside
theorem aside_ok (h : Cu S c n p y L Q t) : m_Cursor_aside [.ref c] S = .ok (.int (bAt p y t.1 t.2.1 + t.2.2), S) := by
  rw [m_Cursor_aside, funD, d_Cursor_aside]
  simp [h.cu, h.sh, cu_sheet, cu_number, cu_cell, cu_place, sh_lefts, h.la.ixF h.va.1, h.la.ixR h.va.1 h.va.2.1, addG]
end
end Dl
/-! ## B14d -/
/-! Cursors: up and down, page, back. -/
namespace Dl
open PySem L2
def nearF (p : Page) (y : Sty) (k : Nat) (a : Int) : Pos3 → Bool := fun t => decide (bAt p y k t.2.1 + t.2.2 ≤ a)
def nearP (p : Page) (y : Sty) (k : Nat) (a : Int) : Pos3 := lastOr k (nearF p y k a) (plsR p k (cellsIn p k))
theorem plsR_valid {p : Page} {k : Nat} (hk : k < p.length) {t : Pos3} (h : t ∈ plsR p k (cellsIn p k)) : Valid p t := by
  refine plc_mem.mp ?_
  unfold plc plsP
  exact List.mem_flatMap.mpr ⟨k, List.mem_range.mpr hk, h⟩
theorem near_valid {p : Page} (hp : okPage p = true) {y : Sty} {k : Nat} (hk : k < p.length) (a : Int) : Valid p (nearP p y k a) ∧ (nearP p y k a).1 = k := by
  rcases lastOr_in (k := k) (f := nearF p y k a) (l := plsR p k (cellsIn p k)) with h | h
  · unfold nearP
    rw [h]
    exact ⟨⟨hk, (cellsIn_le hp hk).1, Nat.zero_le _⟩, rfl⟩
  · exact ⟨plsR_valid hk h, plsR_row h⟩
def encQ (t : Pos3) : D := .tup [.int t.2.1, .int t.2.2]
theorem plsC_take {p : Page} {k c j : Nat} (hj : j < (cellAt p k c).length + 1) : (plsC p k c).take (j + 1) = (plsC p k c).take j ++ [(k, c, j)] := by
  have h : (plsC p k c)[j]? = some (k, c, j) := by
    unfold plsC
    rw [List.getElem?_map, List.getElem?_range hj]; rfl
  exact take_snoc h
theorem plsC_len (p : Page) (k c : Nat) : (plsC p k c).length = (cellAt p k c).length + 1 := by simp [plsC]
section
variable {S : Store} {c n L Q : Nat} {p : Page} {y : Sty} {t : Pos3}
def m_Cursor_near : FV := funD 7 d_Cursor_near
theorem near_ok (hp : okPage p = true) (h : Cu S c n p y L Q t) {k : Nat} (hk : k < p.length) (a : Int) : m_Cursor_near [.ref c, .int k, .int a] S = .ok (encQ (nearP p y k a), S) := by
  rw [m_Cursor_near, funD, d_Cursor_near]
  have er : ixG S (.lst (encP p)) (.int k) = .ok (.tup (p[k].map .str), S) := by
    rw [ix_lst, atI_nat]; simp [encP, hk, encR]
  have hrow : p.getD k [] = p[k] := by simp [hk]
  have rl : p[k].length = cellsIn p k := by unfold cellsIn; rw [hrow]
  have hcu := h.cu
  have hsh := h.sh
  simp [hcu, hsh, cu_sheet, sh_rows, er, -ix_lst]
  generalize q : forGo _ _ _ _ _ _ = r
  obtain ⟨e, s, rfl, rfl, a4, a5, a6, rfl⟩ := for_at q (fun i env st' => S = st' ∧ ∃ (a4 a5 a6 : Option D), env = [some (.ref c), some (.int k), some (.int a), some (encQ (lastOr k (nearF p y k a) (plsR p k i))), a4, a5, a6]) ⟨rfl, none, none, none, rfl⟩ (fun _ _ _ _ _ => rfl) (fun i x env st' hi ⟨e1, a4, a5, a6, e2⟩ => by
    obtain ⟨z, hz, rfl⟩ := pairUp_at hi
    rw [List.getElem?_map] at hz
    have hl : i < p[k].length := by
      cases e : p[k][i]? with
      | none => rw [e] at hz; cases hz
      | some v => exact (List.getElem?_eq_some_iff.mp e).1
    have hc : cellAt p k i = p[k][i] := by unfold cellAt; rw [hrow]; simp [hl]
    have hz' : z = .str (cellAt p k i) := by
      rw [List.getElem?_eq_getElem hl] at hz
      cases hz
      rw [hc]
    subst hz'
    subst e1 e2
    have c10 := cellAt_len hp hk (c := i) (by omega)
    have l1 : lenG S [.str (cellAt p k i)] = .ok (.int (cellAt p k i).length, S) := rfl
    have m1 : -1000000 ≤ ((cellAt p k i).length : Int) + 1 ∧ ((cellAt p k i).length : Int) + 1 ≤ 1000000 := by omega
    have tn : (((cellAt p k i).length : Int) + 1).toNat = (cellAt p k i).length + 1 := by omega
    simp [l1, addG, m1, tn]
    generalize q : forGo _ _ _ _ _ _ = r
    obtain ⟨e, s, rfl, rfl, a6', rfl⟩ := for_at q (fun j env st' => S = st' ∧ ∃ (a6 : Option D), env = [some (.ref c), some (.int k), some (.int a), some (encQ (lastOr k (nearF p y k a) (plsR p k i ++ (plsC p k i).take j))), some (.int i), some (.str (cellAt p k i)), a6]) ⟨rfl, a6, by rw [List.take_zero, List.append_nil]⟩ (fun _ _ _ _ _ => rfl) (fun j x env st' hj ⟨e1, a6, e2⟩ => by
      obtain ⟨hj2, rfl⟩ := ints_getL hj
      subst e1 e2
      have x1 := h.la.ixF hk
      have x2 := h.la.ixR hk (c := i) (by omega)
      rw [plsC_take hj2, ← List.append_assoc, lastOr_snoc]
      have fv : nearF p y k a (k, i, j) = decide (bAt p y k i + (j : Int) ≤ a) := rfl
      by_cases z : bAt p y k i + (j : Int) ≤ a
      · exact turn_eq (e := [some (.ref c), some (.int k), some (.int a), some (.tup [.int i, .int j]), some (.int i), some (.str (cellAt p k i)), some (.int j)]) (s := S) (by
          simp [hcu, hsh, cu_sheet, sh_lefts, x1, x2, addG, leG, z]) ⟨rfl, _, by rw [fv, decide_eq_true z, if_pos rfl]; rfl⟩
      · exact turn_eq (e := [some (.ref c), some (.int k), some (.int a), some (encQ (lastOr k (nearF p y k a) (plsR p k i ++ (plsC p k i).take j))), some (.int i), some (.str (cellAt p k i)), some (.int j)]) (s := S) (by
          simp [hcu, hsh, cu_sheet, sh_lefts, x1, x2, addG, leG, z]) ⟨rfl, _, by rw [fv, decide_eq_false z, if_neg (by simp)]⟩)
    refine ⟨rfl, some (.int i), some (.str (cellAt p k i)), a6', ?_⟩
    rw [intsD_len, List.take_of_length_le (by rw [plsC_len]; exact Nat.le_refl _), ← plsR_succ])
  rw [pairUp_len, List.length_map, rl]
  simp [nearP]
def goV (p : Page) (y : Sty) (s : Int) (t : Pos3) : Pos3 := if 0 ≤ (t.1 : Int) + s ∧ (t.1 : Int) + s < p.length then nearP p y ((t.1 : Int) + s).toNat (bAt p y t.1 t.2.1 + t.2.2) else t
theorem goV_valid (hp : okPage p = true) {s : Int} (v : Valid p t) : Valid p (goV p y s t) := by
  unfold goV
  split
  · exact (near_valid hp (by omega) _).1
  · exact v
theorem goL_valid (hp : okPage p = true) (v : Valid p t) : Valid p (goL p t) := by
  obtain ⟨i, hi⟩ := List.mem_iff_getElem?.mp (plc_mem.mpr v)
  exact plc_mem.mp (List.mem_of_getElem? (plc_left hp hi))
theorem goR_valid (hp : okPage p = true) (v : Valid p t) : Valid p (goR p t) := by
  obtain ⟨i, hi⟩ := List.mem_iff_getElem?.mp (plc_mem.mpr v)
  exact plc_mem.mp (List.mem_of_getElem? (plc_right hp hi))
def m_Cursor_beside : FV := funD 5 (d_Cursor_beside m_Cursor_near m_Cursor_aside m_Cursor_go)
theorem beside_ok (hp : okPage p = true) (h : Cu S c n p y L Q t) (s : Int) : m_Cursor_beside [.ref c, .int s] S = .ok (.bl (!decide (goV p y s t = t)), mv S c n (goV p y s t)) := by
  rw [m_Cursor_beside, funD, d_Cursor_beside]
  have hcu := h.cu
  have hsh := h.sh
  have l2 : lenG S [.lst (encP p)] = .ok (.int p.length, S) := by
    have := len_list (st := S) (d := .lst (encP p)) (w := (encP p, [])) rfl
    rwa [encP_len] at this
  have asd := aside_ok h
  unfold goV
  by_cases z : 0 ≤ (t.1 : Int) + s ∧ (t.1 : Int) + s < p.length
  · obtain ⟨k, hk⟩ : ∃ k : Nat, (t.1 : Int) + s = (k : Int) := ⟨_, (Int.toNat_of_nonneg z.1).symm⟩
    rw [if_pos z]
    rw [hk] at z ⊢
    have hkl : k < p.length := by omega
    rw [Int.toNat_natCast]
    have ne := near_ok hp h hkl (bAt p y t.1 t.2.1 + t.2.2)
    have g := go_ok h (nearP p y k (bAt p y t.1 t.2.1 + t.2.2))
    rw [(near_valid hp hkl _).2] at g
    generalize nearP p y k (bAt p y t.1 t.2.1 + t.2.2) = u at ne g ⊢
    simp [hcu, hsh, cu_sheet, sh_rows, cu_number, cu_near, cu_aside, cu_go, addG, hk, leG, ltG, l2, z, hkl, asd, ne, encQ, g]
  · rw [if_neg z, h.same]
    by_cases z1 : 0 ≤ (t.1 : Int) + s
    · have z2 : ¬ (t.1 : Int) + s < p.length := fun w => z ⟨z1, w⟩
      simp [hcu, hsh, cu_sheet, sh_rows, cu_number, addG, leG, ltG, l2, z1, z2]
    · simp [hcu, hsh, cu_sheet, sh_rows, cu_number, addG, leG, ltG, l2, z1]
def m_Cursor_up : FV := funD 1 (d_Cursor_up m_Cursor_beside)
theorem up_ok (hp : okPage p = true) (h : Cu S c n p y L Q t) : m_Cursor_up [.ref c] S = .ok (.bl (!decide (goV p y (-1) t = t)), mv S c n (goV p y (-1) t)) := by
  rw [m_Cursor_up, funD, d_Cursor_up]
  have b := beside_ok hp h (-1)
  simp [h.cu, cu_beside, subG, b]
def m_Cursor_down_k14 : FV := funD 1 (d_Cursor_down_k14 m_Cursor_beside)
theorem down_ok (hp : okPage p = true) (h : Cu S c n p y L Q t) : m_Cursor_down_k14 [.ref c] S = .ok (.bl (!decide (goV p y 1 t = t)), mv S c n (goV p y 1 t)) := by
  rw [m_Cursor_down_k14, funD, d_Cursor_down_k14]
  have b := beside_ok hp h 1
  simp [h.cu, cu_beside, b]
def m_Sheet_page : FV := funD 1 d_Sheet_page
def m_Cursor_page : FV := funD 1 (d_Cursor_page m_Sheet_page)
theorem sh_page_ok {S : Store} {n : Nat} {p : Page} {y : Sty} {L Q : Nat} (h : S[n]? = some (.ins 13 (shFs p y L Q))) : m_Sheet_page [.ref n] S = .ok (.ref S.length, S ++ [.lst (encP p)]) := by
  rw [m_Sheet_page, funD, d_Sheet_page]
  simp [h, sh_rows, listG, lstOf]
theorem page_c_ok (h : Cu S c n p y L Q t) : m_Cursor_page [.ref c] S = .ok (.ref S.length, S ++ [.lst (encP p)]) := by
  rw [m_Cursor_page, funD, d_Cursor_page]
  have sp := sh_page_ok h.sh
  simp [h.cu, h.sh, cu_sheet, sh_page, sp]
def m_Sheet_back : FV := funD 1 (d_Sheet_back m_begins_by m_all_stretches)
theorem back0_ok (h : Cu S c n p y L Q t) : m_Sheet_back [.ref n] S = .ok (.bl false, S) := by
  rw [m_Sheet_back, funD, d_Sheet_back]
  have e : eqG false S (.ref Q) (.lst []) = .ok (.bl true, S) := by
    rw [eqG_refL h.pa, eqG_pl rfl rfl (by simp) (by simp)]; simp
  simp [h.sh, sh_past, e]
def m_Cursor_back : FV := funD 1 (d_Cursor_back m_Cursor_go m_Sheet_back)
theorem back_c_ok (hp : okPage p = true) (h : Cu S c n p y L Q t) : m_Cursor_back [.ref c] S = .ok (.bl false, mv S c n (0, 0, 0)) := by
  rw [m_Cursor_back, funD, d_Cursor_back]
  have v0 : Valid p (0, 0, 0) := ⟨by have := h.va.1; show 0 < p.length; omega, (cellsIn_le hp (by have := h.va.1; omega)).1, Nat.zero_le _⟩
  have g := go_ok h (0, 0, 0)
  have h2 := h.move v0
  have b := back0_ok h2
  simp at g
  simp [h.cu, cu_go, g, h2.cu, h2.sh, cu_sheet, sh_back, b]
end
end Dl
/-! ## B14e -/
/-! Law k14: the law's own places. -/
namespace Dl
open PySem L2
theorem plsC_le {p : Page} (hp : okPage p = true) {k c : Nat} (hk : k < p.length) (hc : c < cellsIn p k) : (plsC p k c).length ≤ 11 := by
  rw [plsC_len]; have := cellAt_len hp hk hc; omega
theorem plsR_le {p : Page} (hp : okPage p = true) {k : Nat} (hk : k < p.length) : ∀ n, n ≤ cellsIn p k → (plsR p k n).length ≤ 11 * n
  | 0, _ => by simp [plsR]
  | n + 1, h => by
    rw [plsR_succ, List.length_append]
    have a := plsR_le hp hk n (by omega)
    have b := plsC_le hp hk (c := n) (by omega)
    omega
theorem plsP_le {p : Page} (hp : okPage p = true) : ∀ n, n ≤ p.length → (plsP p n).length ≤ 66 * n
  | 0, _ => by simp [plsP]
  | n + 1, h => by
    rw [plsP_succ, List.length_append]
    have a := plsP_le hp n (by omega)
    have b := plsR_le hp (k := n) (by omega) (cellsIn p n) (Nat.le_refl _)
    have c := (cellsIn_le hp (k := n) (by omega)).2
    omega
def m_law_places : FV := funD 5 d_law_places
theorem places_ok {p : Page} (hp : okPage p = true) {d : D} {w : List (Nat × List D)} {st : Store} (hd : listOf st d = some (encP p, w)) :
    m_law_places [d] st = .ok (.ref st.length, st ++ [.lst ((plc p).map encT)]) := by
  rw [m_law_places, funD, d_law_places]
  obtain ⟨p1, p2, p3⟩ := okPage_parts hp
  have hS : ∀ M, listOf (st ++ M) d = some (encP p, w) := fun M => listOf_stays (Stays.app _ _) hd
  have ln := fun M => len_list (hS M)
  simp only [encP_len] at ln
  have m1 : -1000000 ≤ (p.length : Int) ∧ (p.length : Int) ≤ 1000000 := by omega
  simp [ln, m1]
  generalize q : forGo _ _ _ _ _ _ = r
  obtain ⟨e, s, rfl, rfl, a2, a3, a4, rfl⟩ := for_at q (fun i env st' => st' = st ++ [Ob.lst ((plsP p i).map encT)] ∧ ∃ (a2 a3 a4 : Option D), env = [some d, some (.ref st.length), a2, a3, a4]) ⟨by simp [plsP], none, none, none, rfl⟩ (fun _ _ _ _ _ => rfl) (fun i x env st' hi ⟨e1, a2, a3, a4, e2⟩ => by
    obtain ⟨hl, rfl⟩ := ints_getL hi
    subst e1 e2
    have cl := cellsIn_le hp hl
    have pl := plsP_le hp i (by omega)
    obtain ⟨rr, i1, _, i3⟩ := ixC (hS [Ob.lst ((plsP p i).map encT)]) hl (c := 0) (by omega)
    have m2 : -1000000 ≤ (cellsIn p i : Int) ∧ (cellsIn p i : Int) ≤ 1000000 := by omega
    simp [i1, i3, m2]
    generalize q : forGo _ _ _ _ _ _ = r
    obtain ⟨e, s, rfl, rfl, a3', a4', rfl⟩ := for_at q (fun j env st' => st' = st ++ [Ob.lst ((plsP p i ++ plsR p i j).map encT)] ∧ ∃ (a3 a4 : Option D), env = [some d, some (.ref st.length), some (.int i), a3, a4]) ⟨by simp [plsR], a3, a4, rfl⟩ (fun _ _ _ _ _ => rfl) (fun j x env st' hj ⟨e1, a3, a4, e2⟩ => by
      obtain ⟨hjl, rfl⟩ := ints_getL hj
      subst e1 e2
      obtain ⟨rr, i1, i2, _⟩ := ixC (hS [Ob.lst ((plsP p i ++ plsR p i j).map encT)]) hl (c := j) hjl
      have c10 := cellAt_len hp hl (c := j) hjl
      obtain ⟨S, hSS⟩ : ∃ S, S = st ++ [Ob.lst ((plsP p i ++ plsR p i j).map encT)] := ⟨_, rfl⟩
      rw [← hSS] at i1 i2
      have l1 : lenG S [.str (cellAt p i j)] = .ok (.int (cellAt p i j).length, S) := rfl
      have m3 : -1000000 ≤ ((cellAt p i j).length : Int) + 1 ∧ ((cellAt p i j).length : Int) + 1 ≤ 1000000 := by omega
      have tn : (((cellAt p i j).length : Int) + 1).toNat = (cellAt p i j).length + 1 := by omega
      have le1 : (cellAt p i j).length + 1 ≤ LIM := le_LIM (by omega)
      have lc : lcGo [] (.one 4) (tYesD) (eTup (aCons (eV 2) (aCons (eV 3) (aCons (eV 4) (aNil))))) [some d, some (.ref st.length), some (.int i), some (.int j), none] (intsD 0 ((cellAt p i j).length + 1)) [] S = .ok ((plsC p i j).map encT, S) := by
        rw [lc_map rfl (fun x => .tup [.int i, .int j, x]) _ fun x hx => ⟨_, rfl, by simp⟩]
        unfold plsC intsD
        rw [List.map_map, List.map_map]
        refine congrArg (fun l => R.ok (l, S)) (List.map_congr_left fun e _ => ?_)
        simp [encT]
      have gS : S[st.length]? = some (.lst ((plsP p i ++ plsR p i j).map encT)) := by rw [hSS]; simp
      have tyS : tyM S (.ref st.length) = some "list" := by simp only [tyM, gS]
      have le2 : (plsP p i ++ plsR p i j).length + (plsC p i j).length ≤ LIM := by
        have a := plsR_le hp hl j (by omega)
        have b := plsC_le hp hl hjl
        have : (plsP p i ++ plsR p i j).length = (plsP p i).length + (plsR p i j).length := List.length_append
        exact le_LIM (by omega)
      have ext : extendG S (.ref st.length) [.lst ((plsC p i j).map encT)] = .ok (.non, st ++ [Ob.lst ((plsP p i ++ plsR p i (j + 1)).map encT)]) := by
        simp only [extendG, gS, lstOf, List.length_map, le2, if_true]
        rw [hSS, plsR_succ, ← List.append_assoc, List.map_append (l₁ := plsP p i ++ plsR p i j)]
        simp
      refine turn_eq (e := [some d, some (.ref st.length), some (.int i), some (.int j), a4]) (s := st ++ [Ob.lst ((plsP p i ++ plsR p i (j + 1)).map encT)]) ?_ ⟨rfl, _, _, rfl⟩
      rw [← hSS]
      simp [i1, i2, l1, addG, m3, tn, le1, lc, tyS, ext])
    refine ⟨?_, _, a3', a4', rfl⟩
    rw [intsD_len, ← plsP_succ])
  simp [plc]
/-- where a cursor stands then -/
inductive Way where
  | l | r | u | d
def Way.str : Way → D
  | .l => .str [108, 101, 102, 116]
  | .r => .str [114, 105, 103, 104, 116]
  | .u => .str [117, 112]
  | .d => .str [100, 111, 119, 110]
def goW (p : Page) (y : Sty) (t : Pos3) : Way → Pos3
  | .l => goL p t
  | .r => goR p t
  | .u => goV p y (-1) t
  | .d => goV p y 1 t
theorem goW_valid {p : Page} (hp : okPage p = true) {y : Sty} {t : Pos3} (v : Valid p t) (w : Way) : Valid p (goW p y t w) := by
  cases w with
  | l => exact goL_valid hp v
  | r => exact goR_valid hp v
  | u => exact goV_valid hp v
  | d => exact goV_valid hp v
def m_law_gone : FV := funD 10 (d_law_gone m_law_places)
theorem toPs_encT (S : Store) (n : Nat) (l : List Pos3) : optAll ((l.map encT).map (toP S (n + 2))) = some (l.map fun t => PyData.tuple [.int t.1, .int t.2.1, .int t.2.2]) := by
  induction l with
  | nil => rfl
  | cons t l ih =>
    rw [List.map_cons, List.map_cons, List.map_cons]
    have : toP S (n + 2) (encT t) = some (.tuple [.int t.1, .int t.2.1, .int t.2.2]) := rfl
    rw [this]
    unfold optAll
    rw [ih]
theorem index_ok {S : Store} {k : Nat} {l : List Pos3} (hk : S[k]? = some (.lst (l.map encT))) {t : Pos3} (ht : t ∈ l) : ∃ j : Nat, l[j]? = some t ∧ indexG S (.ref k) [encT t] = .ok (.int j, S) := by
  have e1 : toP S 40 (.ref k) = some (.list (l.map fun t => PyData.tuple [.int t.1, .int t.2.1, .int t.2.2])) := by
    unfold toP
    simp only [hk]
    rw [toPs_encT S 37 l]
  have e2 : toP S 40 (encT t) = some (.tuple [.int t.1, .int t.2.1, .int t.2.2]) := rfl
  have ev : ∀ s u : Pos3, PyData.eqv (.tuple [.int s.1, .int s.2.1, .int s.2.2]) (.tuple [.int u.1, .int u.2.1, .int u.2.2]) = decide (s = u) := fun s u => by
    have a : toP S 40 (encT s) = some (.tuple [.int s.1, .int s.2.1, .int s.2.2]) := rfl
    have b : toP S 40 (encT u) = some (.tuple [.int u.1, .int u.2.1, .int u.2.2]) := rfl
    have c := eq_trip (neg := false) (S := S) s u
    simp only [eqG, a, b] at c
    simpa using c
  cases hf : (l.map fun t => PyData.tuple [.int t.1, .int t.2.1, .int t.2.2]).findIdx? (fun z => PyData.eqv z (.tuple [.int t.1, .int t.2.1, .int t.2.2])) with
  | none =>
    rw [List.findIdx?_eq_none_iff] at hf
    have := hf _ (List.mem_map.mpr ⟨t, ht, rfl⟩)
    rw [ev] at this
    simp at this
  | some j =>
    refine ⟨j, ?_, by simp only [indexG, e1, e2, hf]⟩
    obtain ⟨hl, hq, _⟩ := List.findIdx?_eq_some_iff_getElem.mp hf
    rw [List.getElem_map, ev] at hq
    rw [List.length_map] at hl
    have := of_decide_eq_true hq
    rw [← this]
    simp [hl]
theorem gone_ok {p : Page} (hp : okPage p = true) {y : Sty} {d : D} {w : List (Nat × List D)} {st : Store} (hd : listOf st d = some (encP p, w)) {n : Nat} (la : Lays st n p (bAt p y)) {t : Pos3} (v : Valid p t) (wy : Way) :
    m_law_gone [d, .ref n, encT t, wy.str] st = .ok (encT (goW p y t wy), st ++ [.lst ((plc p).map encT)]) := by
  rw [m_law_gone, funD, d_law_gone]
  have pl := places_ok hp hd
  obtain ⟨S, hS⟩ : ∃ S, S = st ++ [Ob.lst ((plc p).map encT)] := ⟨_, rfl⟩
  rw [← hS] at pl ⊢
  have gS : S[st.length]? = some (.lst ((plc p).map encT)) := by rw [hS]; simp
  have tyS : tyM S (.ref st.length) = some "list" := by simp only [tyM, gS]
  obtain ⟨j, hj, ij⟩ := index_ok gS (plc_mem.mpr v)
  have hjl := (List.getElem?_eq_some_iff.mp hj).1
  have lo : listOf S (.ref st.length) = some ((plc p).map encT, [(st.length, (plc p).map encT)]) := by simp only [listOf, gS]
  have ixS : ∀ (k : Nat) (u : Pos3), (plc p)[k]? = some u → ixG S (.ref st.length) (.int k) = .ok (encT u, S) := fun k u e => by
    rw [ix_list lo, atI_nat]; simp [e]
  have lnS := len_list lo
  have la' : Lays S n p (bAt p y) := la.stays (by rw [hS]; exact Stays.app _ _)
  have hd' : listOf S d = some (encP p, w) := by rw [hS]; exact listOf_stays (Stays.app _ _) hd
  have lnd := len_list hd'
  simp only [encP_len, List.length_map] at lnS lnd
  have x0 : ∀ u : Pos3, ixG S (encT u) (.int 0) = .ok (.int u.1, S) := fun u => rfl
  have x1 : ∀ u : Pos3, ixG S (encT u) (.int 1) = .ok (.int u.2.1, S) := fun u => rfl
  have x2 : ∀ u : Pos3, ixG S (encT u) (.int 2) = .ok (.int u.2.2, S) := fun u => rfl
  have eqs : ∀ a b : List Nat, eqG false S (.str a) (.str b) = .ok (.bl (decide (a = b)), S) := fun a b => by rw [eqG_pl (by simp) (by simp) (by simp) (by simp)]; simp
  have tail : ∀ (s : Int) (k6 : Int), k6 = (t.1 : Int) + s → 0 ≤ k6 → k6 < p.length → ∀ (a7 a8 a9 : Option D),
      ∃ (F : List Pos3) (k : Nat), k6 = (k : Int) ∧ k < p.length ∧ F = (plsR p k (cellsIn p k)).filter (nearF p y k (bAt p y t.1 t.2.1 + t.2.2)) ∧
      lcGo [(st.length, (plc p).map encT)] (.one 9) (tAndD (tv (eOp (eqG false) (eOp ixG (eV 9) (eC (.int 0))) (eV 6))) (tv (eOp leG (eOp (addG false) (eOp ixG (eOp ixG (eV 1) (eV 6)) (eOp ixG (eV 9) (eC (.int 1)))) (eOp ixG (eV 9) (eC (.int 2)))) (eV 7)))) (eV 9)
        [some d, some (.ref n), some (encT t), some wy.str, some (.ref st.length), some (.int j), some (.int k6), some (.int (bAt p y t.1 t.2.1 + t.2.2)), none, none] ((plc p).map encT) [] S = .ok (F.map encT, S) := fun s k6 e6 z0 z1 a7 a8 a9 => by
    obtain ⟨k, hk⟩ : ∃ k : Nat, k6 = (k : Int) := ⟨_, (Int.toNat_of_nonneg z0).symm⟩
    subst hk
    have hkl : k < p.length := by omega
    refine ⟨_, k, rfl, hkl, rfl, ?_⟩
    have key := lc_keep (sub := [(st.length, (plc p).map encT)]) (j := 9) (tt := tAndD (tv (eOp (eqG false) (eOp ixG (eV 9) (eC (.int 0))) (eV 6))) (tv (eOp leG (eOp (addG false) (eOp ixG (eOp ixG (eV 1) (eV 6)) (eOp ixG (eV 9) (eC (.int 1)))) (eOp ixG (eV 9) (eC (.int 2)))) (eV 7))))
      (env := [some d, some (.ref n), some (encT t), some wy.str, some (.ref st.length), some (.int j), some (.int (k : Int)), some (.int (bAt p y t.1 t.2.1 + t.2.2)), none, none]) (st := S) (still_one gS)
      (fun d => match d with | .tup [.int a, .int b, .int e] => decide (a = (k : Int)) && decide (bAt p y k b.toNat + e ≤ bAt p y t.1 t.2.1 + t.2.2) | _ => false) ((plc p).map encT) (fun dd hdd => by
        obtain ⟨u, hu, rfl⟩ := List.mem_map.mp hdd
        have vu := plc_mem.mp hu
        have eqi : ∀ a b : Int, eqG false S (.int a) (.int b) = .ok (.bl (decide (a = b)), S) := fun a b => by rw [eqG_pl (by simp) (by simp) (by simp) (by simp)]; simp
        show _ = R.ok ((decide ((u.1 : Int) = (k : Int)) && decide (bAt p y k ((u.2.1 : Int)).toNat + (u.2.2 : Int) ≤ bAt p y t.1 t.2.1 + t.2.2)), S)
        rw [Int.toNat_natCast]
        by_cases z : u.1 = k
        · have f1 := la'.ixF hkl
          have f2 := la'.ixR hkl (c := u.2.1) (by have := vu.2.1; rwa [z] at this)
          have z' : (u.1 : Int) = (k : Int) := by omega
          simp [x0, x1, x2, eqi, z', f1, f2, addG, leG]
        · have z' : ¬ (u.1 : Int) = (k : Int) := by omega
          simp [x0, x1, x2, eqi, z', z]) (by simp)
    rw [key]
    congr 2
    rw [List.filter_map]
    have := plsP_filter p k (nearF p y k (bAt p y t.1 t.2.1 + t.2.2)) p.length
    rw [if_pos hkl] at this
    rw [← this]
    congr 1
    refine List.filter_congr fun u _ => ?_
    show (decide ((u.1 : Int) = (k : Int)) && decide (bAt p y k ((u.2.1 : Int)).toNat + (u.2.2 : Int) ≤ _)) = _
    have : decide ((u.1 : Int) = (k : Int)) = decide (u.1 = k) := decide_eq_decide.mpr (by omega)
    rw [this, Int.toNat_natCast]
    rfl
  have plF : ∀ F : List Pos3, eqG true S (.lst (F.map encT)) (.lst []) = .ok (.bl (!decide (F = [])), S) := fun F => by
    rw [eqG_pl (by
      rw [pl_lst, pls_iff]
      intro x hx
      obtain ⟨u, _, rfl⟩ := List.mem_map.mp hx
      rfl) (by rfl) (by
      rw [dp_lst]
      have : D.dps (F.map encT) ≤ 2 := dps_le.mpr fun x hx => by
        obtain ⟨u, _, rfl⟩ := List.mem_map.mp hx
        simp [encT]
      omega) (by simp)]
    simp
  have lst : ∀ (F : List Pos3) (k : Nat), F ≠ [] → ixG S (.lst (F.map encT)) (.int (-1)) = .ok (encT (F.getLast?.getD (k, 0, 0)), S) := fun F k hF => by
    rw [ix_lst]
    obtain ⟨u, hu⟩ : ∃ u, F.getLast? = some u := by
      cases e : F.getLast? with
      | none => rw [List.getLast?_eq_none_iff] at e; exact absurd e hF
      | some u => exact ⟨u, rfl⟩
    have hl : F.length = F.length - 1 + 1 := by
      cases F with
      | nil => exact absurd rfl hF
      | cons _ _ => simp
    have : atI (F.map encT) (-1) = some (encT u) := by
      unfold atI
      rw [List.length_map, hl, ixN_last]
      rw [List.getLast?_eq_getElem?] at hu
      show (some (F.length - 1)).bind (fun j => (F.map encT)[j]?) = _
      rw [Option.bind_some, List.getElem?_map, hu]; rfl
    rw [this, hu]; rfl
  have ty2 : ∀ F : List Pos3, F.length ≤ LIM → True := fun _ _ => trivial
  have f1 := la'.ixF v.1
  have f2 := la'.ixR v.1 v.2.1
  have it : itemsOf S (.ref st.length) = some ((plc p).map encT, [(st.length, (plc p).map encT)]) := by simp only [itemsOf, gS]
  have plL : ((plc p).map encT).length ≤ LIM := by
    rw [List.length_map]
    have := plsP_le hp p.length (Nat.le_refl _)
    have := (okPage_parts hp).2.1
    exact le_LIM (by unfold plc; omega)
  have w1 : ixG S (.lst [.int 1, .int (-1)]) (.int 1) = .ok (.int (-1), S) := rfl
  have w0 : ixG S (.lst [.int 1, .int (-1)]) (.int 0) = .ok (.int 1, S) := rfl
  have plL' : (plc p).length ≤ LIM := by rwa [List.length_map] at plL
  have vert : ∀ s : Int, goV p y s t = (if 0 ≤ (t.1 : Int) + s ∧ (t.1 : Int) + s < p.length then nearP p y ((t.1 : Int) + s).toNat (bAt p y t.1 t.2.1 + t.2.2) else t) := fun _ => rfl
  cases wy with
  | l =>
    have il := ixS _ _ (plc_left hp hj)
    have mx : max (0 : Int) ((j : Int) - 1) = ((j - 1 : Nat) : Int) := by omega
    simp [pl, tyS, ij, Way.str, eqs, subG, maxG, mx, il, goW]
  | r =>
    have il := ixS _ _ (plc_right hp hj)
    obtain ⟨mm, hmm⟩ : ∃ mm, mm = min ((plc p).length - 1) (j + 1) := ⟨_, rfl⟩
    rw [← hmm] at il
    have mx : min (((plc p).length : Int) - 1) ((j : Int) + 1) = (mm : Int) := by omega
    simp [pl, tyS, ij, Way.str, eqs, subG, addG, minG, lnS, mx, il, goW]
  | u =>
    by_cases z : 0 ≤ (t.1 : Int) + -1 ∧ (t.1 : Int) + -1 < p.length
    · obtain ⟨F, k, ek, hkl, eF, lc⟩ := tail (-1) _ rfl z.1 z.2 none none none
      have hv : goV p y (-1) t = F.getLast?.getD (k, 0, 0) := by
        rw [vert, if_pos z, ek, Int.toNat_natCast, eF]; rfl
      rw [ek] at lc z
      simp only [Way.str] at lc
      have k0 : (0 : Int) ≤ (k : Int) := z.1
      by_cases hF : F = []
      · have l0 := plF F
        rw [hF] at lc l0 hv
        simp [pl, tyS, ij, Way.str, eqs, intG, x0, x1, x2, addG, leG, ltG, lnd, ek, hkl, f1, f2, it, plL', lc, l0, goW, hv]
        rfl
      · have l1 := lst F k hF
        simp [pl, tyS, ij, Way.str, eqs, intG, x0, x1, x2, addG, leG, ltG, lnd, ek, hkl, f1, f2, it, plL', lc, plF, hF, l1, w0, w1, goW, hv, -ix_lst]
    · have hv : goV p y (-1) t = t := by rw [vert, if_neg z]
      by_cases z1 : 0 ≤ (t.1 : Int) + -1
      · have z2 : ¬ (t.1 : Int) + -1 < p.length := fun w => z ⟨z1, w⟩
        simp [pl, tyS, ij, Way.str, eqs, intG, x0, addG, leG, ltG, lnd, z1, z2, goW, hv]
      · simp [pl, tyS, ij, Way.str, eqs, intG, x0, addG, leG, ltG, lnd, z1, goW, hv]
  | d =>
    by_cases z : 0 ≤ (t.1 : Int) + 1 ∧ (t.1 : Int) + 1 < p.length
    · obtain ⟨F, k, ek, hkl, eF, lc⟩ := tail (1) _ rfl z.1 z.2 none none none
      have hv : goV p y (1) t = F.getLast?.getD (k, 0, 0) := by
        rw [vert, if_pos z, ek, Int.toNat_natCast, eF]; rfl
      rw [ek] at lc z
      simp only [Way.str] at lc
      have k0 : (0 : Int) ≤ (k : Int) := z.1
      by_cases hF : F = []
      · have l0 := plF F
        rw [hF] at lc l0 hv
        simp [pl, tyS, ij, Way.str, eqs, intG, x0, x1, x2, addG, leG, ltG, lnd, ek, hkl, f1, f2, it, plL', lc, l0, goW, hv]
        rfl
      · have l1 := lst F k hF
        simp [pl, tyS, ij, Way.str, eqs, intG, x0, x1, x2, addG, leG, ltG, lnd, ek, hkl, f1, f2, it, plL', lc, plF, hF, l1, w0, w1, goW, hv, -ix_lst]
    · have hv : goV p y (1) t = t := by rw [vert, if_neg z]
      by_cases z1 : 0 ≤ (t.1 : Int) + 1
      · have z2 : ¬ (t.1 : Int) + 1 < p.length := fun w => z ⟨z1, w⟩
        simp [pl, tyS, ij, Way.str, eqs, intG, x0, addG, leG, ltG, lnd, z1, z2, goW, hv]
      · simp [pl, tyS, ij, Way.str, eqs, intG, x0, addG, leG, ltG, lnd, z1, goW, hv]
end Dl
/-! ## B14f -/
/-! Law k14. -/
namespace Dl
open PySem L2
theorem bx_get {b b' : Box} {Z : Store} {k : Nat} (hk : 2 ≤ k) : (Bx b Z)[k]? = (Bx b' Z)[k]? := by
  obtain ⟨j, rfl⟩ : ∃ j, k = j + 2 := ⟨k - 2, by omega⟩
  rw [Bx_get, Bx_get]
def m_law_went : FV := funD 2 (d_law_went m_Cursor_left m_Cursor_right m_Cursor_up m_Cursor_down_k14)
section
variable {c n L Q : Nat} {p : Page} {y : Sty} {t : Pos3}
theorem went_ok {S : Store} (hp : okPage p = true) (h : Cu S c n p y L Q t) (wy : Way) : m_law_went [.ref c, wy.str] S = .ok (.bl (!decide (goW p y t wy = t)), mv S c n (goW p y t wy)) := by
  rw [m_law_went, funD, d_law_went]
  have eqs : ∀ a b : List Nat, eqG false S (.str a) (.str b) = .ok (.bl (decide (a = b)), S) := fun a b => by rw [eqG_pl (by simp) (by simp) (by simp) (by simp)]; simp
  have hcu := h.cu
  cases wy with
  | l => have r := left_ok hp h; simp [Way.str, eqs, hcu, cu_left, r, goW]; rfl
  | r => have r := right_ok hp h; simp [Way.str, eqs, hcu, cu_right, r, goW]; rfl
  | u => have r := up_ok hp h; simp [Way.str, eqs, hcu, cu_up, r, goW]; rfl
  | d => have r := down_ok hp h; simp [Way.str, eqs, hcu, cu_down, r, goW]; rfl
def m_Cursor_init : FV := funD 3 (d_Cursor_init m_Sheet_init)
theorem Cursor_init_ok (hp : okPage p = true) (hy : y.ok) {d : D} {w : List (Nat × List D)} {st : Store} (hd : listOf st d = some (encP p, w)) :
    ∃ M L Q, m_Cursor_init [.ref st.length, d, y.enc] (st ++ [.ins 14 []]) = .ok (.non, st ++ .ins 14 (cuFs (st.length + 1) (0, 0, 0)) :: M) ∧ Cu (st ++ .ins 14 (cuFs (st.length + 1) (0, 0, 0)) :: M) st.length (st.length + 1) p y L Q (0, 0, 0) := by
  rw [m_Cursor_init, funD, d_Cursor_init]
  have hd' : listOf (st ++ [.ins 14 []]) d = some (encP p, w) := listOf_stays (Stays.app _ _) hd
  obtain ⟨M, L, Q, si, la, pa, h1, h2⟩ := Sheet_init_ok hp hy hd'
  have sl : (st ++ [Ob.ins 14 []]).length = st.length + 1 := by simp
  rw [sl] at si h1
  obtain ⟨f1, hf1⟩ : ∃ f1, f1 = putD "sheet" (.ref (st.length + 1)) [] := ⟨_, rfl⟩
  obtain ⟨f2, hf2⟩ : ∃ f2, f2 = putD "number" (.int 0) f1 := ⟨_, rfl⟩
  obtain ⟨f3, hf3⟩ : ∃ f3, f3 = putD "cell" (.int 0) f2 := ⟨_, rfl⟩
  have hf4 : putD "place" (.int 0) f3 = cuFs (st.length + 1) (0, 0, 0) := by rw [hf3, hf2, hf1]; exact put_cu _ _ _ _
  have l1 : f1.length ≤ 1 := by rw [hf1]; exact put_len _ _ _
  have l2 : f2.length ≤ 2 := by rw [hf2]; exact Nat.le_trans (put_len _ _ _) (by omega)
  have l3 : f3.length ≤ 3 := by rw [hf3]; exact Nat.le_trans (put_len _ _ _) (by omega)
  have l1' : f1.length < 900 := by omega
  have l2' : f2.length < 900 := by omega
  have l3' : f3.length < 900 := by omega
  obtain ⟨N, hN⟩ : ∃ N, N = Ob.ins 13 (shFs p y L Q) :: M := ⟨_, rfl⟩
  have e0 : st ++ [Ob.ins 14 []] ++ N = st ++ .ins 14 [] :: N := by simp
  rw [← hN, e0] at si la pa
  have g0 := app_get st (.ins 14 []) N
  have g1 := app_get st (.ins 14 f1) N
  have g2 := app_get st (.ins 14 f2) N
  have g3 := app_get st (.ins 14 f3) N
  have s0 := app_set st (.ins 14 []) (.ins 14 f1) N
  have s1 := app_set st (.ins 14 f1) (.ins 14 f2) N
  have s2 := app_set st (.ins 14 f2) (.ins 14 f3) N
  have s3 := app_set st (.ins 14 f3) (.ins 14 (cuFs (st.length + 1) (0, 0, 0))) N
  have key : ∀ (i : Nat) (o : Ob), st.length < i → (st ++ .ins 14 [] :: N)[i]? = some o → (st ++ .ins 14 (cuFs (st.length + 1) (0, 0, 0)) :: N)[i]? = some o := fun i o hi e => by
    rw [List.getElem?_append_right (by omega)] at e ⊢
    obtain ⟨j, ej⟩ : ∃ j, i - st.length = j + 1 := ⟨i - st.length - 1, by omega⟩
    rw [ej] at e ⊢
    rw [List.getElem?_cons_succ] at e ⊢
    exact e
  refine ⟨N, L, Q, ?_, ⟨app_get _ _ _, ?_, ⟨key _ _ (by omega) la.1, fun k hk => key _ _ (by omega) (la.2 k hk)⟩, key _ _ (by omega) pa, ⟨(okPage_parts hp).1, (cellsIn_le hp (okPage_parts hp).1).1, Nat.zero_le _⟩, by omega, by omega, h2⟩⟩
  · have A : ∀ o : Ob, (st ++ [Ob.ins 14 []]) ++ [Ob.ins 13 []] = (st ++ [Ob.ins 14 []]) ++ [Ob.ins 13 []] := fun _ => rfl
    generalize hA : st ++ [Ob.ins 14 []] = AA at *
    generalize hB : st ++ Ob.ins 14 [] :: N = BB at *
    generalize hC : st ++ Ob.ins 14 f1 :: N = CC at *
    generalize hDD : st ++ Ob.ins 14 f2 :: N = DD at *
    generalize hE : st ++ Ob.ins 14 f3 :: N = EE at *
    generalize hF : st ++ Ob.ins 14 (cuFs (st.length + 1) (0, 0, 0)) :: N = FF at *
    simp [sl, si, g0, ← hf1, s0, g1, l1', ← hf2, s1, g2, l2', ← hf3, s2, g3, l3', hf4, s3]
  · have : (st ++ Ob.ins 14 (cuFs (st.length + 1) (0, 0, 0)) :: N)[st.length + 1]? = N[0]? := by
      rw [List.getElem?_append_right (by omega), show st.length + 1 - st.length = 1 by omega]; rfl
    rw [this, hN]; rfl
/-- what the law's loops keep -/
structure Kp (c n L Q : Nat) (p : Page) (y : Sty) (b : Box) (Z : Store) (t : Pos3) : Prop where
  cu : Cu (Bx b Z) c n p y L Q t
  pg : (Bx b Z)[2]? = some (.lst (encP p))
  la : Lays (Bx b Z) 3 p (bAt p y)
  c3 : 3 + p.length < c
theorem Kp.bx {b b' : Box} {Z : Store} (h : Kp c n L Q p y b Z t) : Kp c n L Q p y b' Z t := by
  have c3 := h.c3
  have cn := h.cu.cn
  have nL := h.cu.nL
  have LQ := h.cu.LQ
  refine ⟨⟨?_, ?_, ⟨?_, fun k hk => ?_⟩, ?_, h.cu.va, cn, nL, LQ⟩, ?_, ⟨?_, fun k hk => ?_⟩, c3⟩
  · rw [bx_get (b' := b) (by omega)]; exact h.cu.cu
  · rw [bx_get (b' := b) (by omega)]; exact h.cu.sh
  · rw [bx_get (b' := b) (by omega)]; exact h.cu.la.1
  · rw [bx_get (b' := b) (by omega)]; exact h.cu.la.2 k hk
  · rw [bx_get (b' := b) (by omega)]; exact h.cu.pa
  · rw [bx_get (b' := b) (by omega)]; exact h.pg
  · rw [bx_get (b' := b) (by omega)]; exact h.la.1
  · rw [bx_get (b' := b) (by omega)]; exact h.la.2 k hk
theorem Kp.app {b : Box} {Z : Store} (h : Kp c n L Q p y b Z t) (M : Store) : Kp c n L Q p y b (Z ++ M) t := by
  have e : Bx b (Z ++ M) = Bx b Z ++ M := by simp
  have P := Pre.app (Bx b Z) M
  rw [← e] at P
  exact ⟨h.cu.pre P, P _ _ h.pg, h.la.stays P.stays, h.c3⟩
theorem Kp.mv {b : Box} {Z : Store} (h : Kp c n L Q p y b Z t) {t' : Pos3} (v : Valid p t') : ∃ Z', mv (Bx b Z) c n t' = Bx b Z' ∧ Kp c n L Q p y b Z' t' := by
  have c3 := h.c3
  obtain ⟨j, hj⟩ : ∃ j, c = j + 2 := ⟨c - 2, by omega⟩
  have e : Dl.mv (Bx b Z) c n t' = Bx b (Z.set j (.ins 14 (cuFs n t'))) := by unfold Dl.mv; rw [hj, Bx_set]
  have m := h.cu.move v
  have pg := set_keep (c := c) (o' := .ins 14 (cuFs n t')) (by omega) h.pg
  have la : Lays ((Bx b Z).set c (.ins 14 (cuFs n t'))) 3 p (bAt p y) := ⟨set_keep (by omega) h.la.1, fun k hk => set_keep (by omega) (h.la.2 k hk)⟩
  refine ⟨_, e, ?_⟩
  have e2 : (Bx b Z).set c (.ins 14 (cuFs n t')) = Bx b (Z.set j (.ins 14 (cuFs n t'))) := e
  rw [e] at m
  rw [e2] at pg la
  exact ⟨m, pg, la, c3⟩
theorem way_of {x : D} (h : x ∈ [D.str [108, 101, 102, 116], .str [114, 105, 103, 104, 116], .str [117, 112], .str [100, 111, 119, 110], .str [114, 105, 103, 104, 116], .str [100, 111, 119, 110]]) : ∃ w : Way, x = w.str := by
  simp at h
  rcases h with rfl | rfl | rfl | rfl | rfl | rfl
  · exact ⟨.l, rfl⟩
  · exact ⟨.r, rfl⟩
  · exact ⟨.u, rfl⟩
  · exact ⟨.d, rfl⟩
  · exact ⟨.r, rfl⟩
  · exact ⟨.d, rfl⟩
end
theorem dp_bl8 (b : Bool) : D.dp (.bl b) ≤ 8 := by cases b <;> decide
theorem alike_self {S : Store} {d : D} (h1 : D.pk d = true) (h2 : D.sm d = true) (h3 : D.dp d ≤ 8) : m_law_alike [d, d] S = .ok (.bl true, S) := alike_rd 8 d d d (rd_self h1) (rd_self h1) h2 h3
def m_law_k14 : FV := funD 13 (d_law_k14 m_law_begun m_law_page m_law_take m_law_style m_law_begins m_law_alike m_Cursor_at m_law_gone m_law_went m_Cursor_aside m_Cursor_page m_Cursor_back m_Cursor_init)
theorem law_k14_true (ns : List Int) (_ : ns.length ≤ 63) : ∃ st, m_law_k14 [.scr ns] [] = .ok (.bl true, st) := by
  rw [m_law_k14, funD, d_law_k14]
  obtain ⟨b, hb⟩ := begun_ok ns
  obtain ⟨y0, ey, my⟩ := atI_mem (l := [D.int 4, D.int 12, D.int 30]) (i := (tk b 3).1) (tk_lo b (by decide)) (tk_hi b (by decide))
  have hy : ∃ n : Int, y0 = .int n ∧ 1 ≤ n ∧ n ≤ 30 := by
    simp at my
    rcases my with rfl | rfl | rfl <;> exact ⟨_, rfl, by decide, by decide⟩
  obtain ⟨n0, rfl, n1, n9⟩ := hy
  obtain ⟨p, b2, hp, _, ep⟩ := page_ok (tk b 3).2 [] n0 n1 n9
  obtain ⟨y, b3, hy, es⟩ := style_ok b2 ([] ++ [.lst (encP p)])
  obtain ⟨p1, p2, p3⟩ := okPage_parts hp
  simp only [List.nil_append, List.length_nil, Nat.zero_add] at ep es
  obtain ⟨S0, hS0⟩ : ∃ S0, S0 = Bx b3 [.lst (encP p)] := ⟨_, rfl⟩
  rw [← hS0] at es
  have g0 : S0[2]? = some (.lst (encP p)) := by rw [hS0]; rfl
  have l0 : S0.length = 3 := by rw [hS0]; rfl
  have lp0 : listOf S0 (.ref 2) = some (encP p, [(2, encP p)]) := by simp only [listOf, g0]
  have be := begins_ok hp y lp0
  rw [l0] at be
  obtain ⟨M0, hM0⟩ := lay_pre S0 [] p (bAt p y)
  rw [List.append_nil] at hM0
  have la0 := lays_of S0 p (bAt p y)
  rw [l0] at la0
  obtain ⟨S1, hS1⟩ : ∃ S1, S1 = layS S0 p (bAt p y) := ⟨_, rfl⟩
  rw [← hS1] at be hM0 la0
  have g1 : S1[2]? = some (.lst (encP p)) := by rw [hM0]; exact get_app g0
  have lo1 : lstOf S1 (.ref 2) = some (encP p) := by simp only [lstOf, g1]
  have len1 : 3 + p.length < S1.length := by
    have h2 := la0.2 (p.length - 1) (by omega)
    have := (List.getElem?_eq_some_iff.mp h2).1
    omega
  obtain ⟨S2, hS2⟩ : ∃ S2, S2 = S1 ++ [.lst (encP p)] := ⟨_, rfl⟩
  have g2 : S2[S1.length]? = some (.lst (encP p)) := by rw [hS2]; simp
  have lp2 : listOf S2 (.ref S1.length) = some (encP p, [(S1.length, encP p)]) := by simp only [listOf, g2]
  have len2 : S2.length = S1.length + 1 := by rw [hS2]; simp
  obtain ⟨M, L, Q, ci, cu⟩ := Cursor_init_ok hp hy lp2
  obtain ⟨c, hc⟩ : ∃ c, c = S2.length := ⟨_, rfl⟩
  rw [← hc] at ci cu
  obtain ⟨S3, hS3⟩ : ∃ S3, S3 = S2 ++ .ins 14 (cuFs (c + 1) (0, 0, 0)) :: M := ⟨_, rfl⟩
  rw [← hS3] at ci cu
  have g3 : S3[S1.length]? = some (.lst (encP p)) := by rw [hS3]; exact get_app g2
  have ty3 : tyM S3 (.ref S1.length) = some "list" := by simp only [tyM, g3]
  obtain ⟨S4, hS4⟩ : ∃ S4, S4 = S3.set S1.length (.lst []) := ⟨_, rfl⟩
  have cl : clearG S3 (.ref S1.length) [] = .ok (.non, S4) := by simp only [clearG, g3, hS4]
  have cn := cu.cn
  have nL := cu.nL
  have LQ := cu.LQ
  have key : ∀ (i : Nat) (o : Ob), i ≠ S1.length → S3[i]? = some o → S4[i]? = some o := fun i o hi e => by rw [hS4]; exact set_keep hi e
  have pre1 : ∀ (i : Nat) (o : Ob), S1[i]? = some o → S3[i]? = some o := fun i o e => by rw [hS3, hS2]; exact get_app (get_app e)
  have cu4 : Cu S4 c (c + 1) p y L Q (0, 0, 0) := ⟨key _ _ (by omega) cu.cu, key _ _ (by omega) cu.sh, ⟨key _ _ (by omega) cu.la.1, fun k hk => key _ _ (by omega) (cu.la.2 k hk)⟩, key _ _ (by omega) cu.pa, cu.va, cn, nL, LQ⟩
  have pg4 : S4[2]? = some (.lst (encP p)) := key _ _ (by omega) (pre1 _ _ g1)
  have la4 : Lays S4 3 p (bAt p y) := ⟨key _ _ (by omega) (pre1 _ _ la0.1), fun k hk => key _ _ (by omega) (pre1 _ _ (la0.2 k hk))⟩
  obtain ⟨Z4, hZ4⟩ : ∃ Z, S4 = Bx b3 Z := by
    obtain ⟨j, hj⟩ : ∃ j, S1.length = j + 2 := ⟨S1.length - 2, by omega⟩
    refine ⟨([Ob.lst (encP p)] ++ M0 ++ [Ob.lst (encP p)] ++ Ob.ins 14 (cuFs (c + 1) (0, 0, 0)) :: M).set j (Ob.lst []), ?_⟩
    rw [hS4, hj, hS3, hS2, hM0, hS0]
    simp only [Bx_app, Bx_set]
  rw [hZ4] at cu4 pg4 la4 cl
  have kp : Kp c (c + 1) L Q p y b3 Z4 (0, 0, 0) := ⟨cu4, pg4, la4, by omega⟩
  have at4 := at_ok cu4
  have e00 : (D.tup [.int 0, .int 0, .int 0]) = encT (0, 0, 0) := rfl
  have al4 : m_law_alike [encT (0, 0, 0), encT (0, 0, 0)] (Bx b3 Z4) = .ok (.bl true, Bx b3 Z4) := alike_self (by rfl) (by rfl) (by simp [encT])
  have cat : ∀ t : Pos3, (cuFs (c + 1) t).lookup ("at" : Str) = none := cu_at _
  have hcu4 := cu4.cu
  have mm : -1000000 ≤ (tk b3 61).1 ∧ (tk b3 61).1 ≤ 1000000 := by
    have h0 := tk_lo b3 (n := 61) (by decide)
    have h1 := tk_hi b3 (n := 61) (by decide)
    omega
  simp [hb, take_eq, ey, ep, ← hS0, es, be, listG, lo1, ← hS2, ← hc, ci, ty3, cl, hcu4, cat, at4, e00, al4, mm]
  generalize q : forGo _ _ _ _ _ _ = r
  obtain ⟨e, s, rfl, b', Z, t, rfl, hk, a8, a9, a10, a11, a12, rfl⟩ := for_at q (fun i env st' => ∃ (b : Box) (Z : Store) (t : Pos3), st' = Bx b Z ∧ Kp c (c + 1) L Q p y b Z t ∧ ∃ (a8 a9 a10 a11 a12 : Option D), env = [some (.scr ns), some (.ref 1), some (.ref 2), some y.enc, some (.ref 3), some (.ref S1.length), some (.ref c), some (encT t), a8, a9, a10, a11, a12]) ⟨_, Z4, (0, 0, 0), rfl, kp.bx, none, none, none, none, none, rfl⟩ (fun _ _ _ _ _ => rfl) (fun i x env st' hi ⟨b, Z, t, e1, hk, a8, a9, a10, a11, a12, e2⟩ => by
    subst e1 e2
    obtain ⟨w0, ew, mw⟩ := atI_mem (l := [D.str [108, 101, 102, 116], .str [114, 105, 103, 104, 116], .str [117, 112], .str [100, 111, 119, 110], .str [114, 105, 103, 104, 116], .str [100, 111, 119, 110]]) (i := (tk b 6).1) (tk_lo b (by decide)) (tk_hi b (by decide))
    obtain ⟨wy, rfl⟩ := way_of mw
    obtain ⟨b1, hb1⟩ : ∃ b1, b1 = (tk b 6).2 := ⟨_, rfl⟩
    obtain ⟨b2', hb2⟩ : ∃ b2, b2 = (tk b1 12).2 := ⟨_, rfl⟩
    obtain ⟨m0, em, mm0⟩ := atI_mem (l := [D.int 1, .int (1 + (tk b1 12).1)]) (i := (tk b2' 2).1) (tk_lo b2' (by decide)) (tk_hi b2' (by decide))
    have hm : ∃ m : Int, m0 = .int m ∧ 1 ≤ m ∧ m ≤ 12 := by
      have h0 := tk_lo b1 (n := 12) (by decide)
      have h1 := tk_hi b1 (n := 12) (by decide)
      simp at mm0
      rcases mm0 with rfl | rfl
      · exact ⟨_, rfl, by decide, by decide⟩
      · exact ⟨_, rfl, by omega, by omega⟩
    obtain ⟨m, rfl, m1, m12⟩ := hm
    have mb : -1000000 ≤ m ∧ m ≤ 1000000 := by omega
    simp [take_eq, ew, ← hb1, ← hb2, em, mb, addG]
    generalize q : forGo _ _ _ _ _ _ = r
    obtain ⟨e, s, rfl, Z', t', rfl, hk', a10', a11', a12', rfl⟩ := for_at q (fun i env st' => ∃ (Z : Store) (t : Pos3), st' = Bx (tk b2' 2).2 Z ∧ Kp c (c + 1) L Q p y (tk b2' 2).2 Z t ∧ ∃ (a10 a11 a12 : Option D), env = [some (.scr ns), some (.ref 1), some (.ref 2), some y.enc, some (.ref 3), some (.ref S1.length), some (.ref c), some (encT t), some x, some wy.str, a10, a11, a12]) ⟨Z, t, rfl, hk.bx, a10, a11, a12, rfl⟩ (fun _ _ _ _ _ => rfl) (fun j z env st' hj ⟨Z, t, e1, hk, a10, a11, a12, e2⟩ => by
      generalize (tk b2' 2).2 = B at hk e1 ⊢
      subst e1 e2
      have v := hk.cu.va
      have lpg : listOf (Bx B Z) (.ref 2) = some (encP p, [(2, encP p)]) := by simp only [listOf, hk.pg]
      have go := gone_ok hp lpg hk.la v wy
      have hk1 := hk.app [.lst ((plc p).map encT)]
      have e3 : Bx B Z ++ [Ob.lst ((plc p).map encT)] = Bx B (Z ++ [Ob.lst ((plc p).map encT)]) := by simp
      rw [e3] at go
      obtain ⟨Z1, hZ1⟩ : ∃ Z1, Z1 = Z ++ [Ob.lst ((plc p).map encT)] := ⟨_, rfl⟩
      rw [← hZ1] at go hk1
      have we := went_ok hp hk1.cu wy
      obtain ⟨u, hu⟩ : ∃ u, u = goW p y t wy := ⟨_, rfl⟩
      have vu : Valid p u := by rw [hu]; exact goW_valid hp v wy
      rw [← hu] at go we
      obtain ⟨Z2, emv, hk2⟩ := hk1.mv vu
      rw [emv] at we
      have ne := eq_trip (neg := true) (S := Bx B Z2) u t
      have al1 : m_law_alike [.bl !decide (u = t), .bl !decide (u = t)] (Bx B Z2) = .ok (.bl true, Bx B Z2) := alike_self (by rfl) (by rfl) (dp_bl8 _)
      have x0 : ∀ u : Pos3, ixG (Bx B Z2) (encT u) (.int 0) = .ok (.int u.1, Bx B Z2) := fun u => rfl
      have x1 : ∀ u : Pos3, ixG (Bx B Z2) (encT u) (.int 1) = .ok (.int u.2.1, Bx B Z2) := fun u => rfl
      have x2 : ∀ u : Pos3, ixG (Bx B Z2) (encT u) (.int 2) = .ok (.int u.2.2, Bx B Z2) := fun u => rfl
      have f1 := hk2.la.ixF vu.1
      have f2 := hk2.la.ixR vu.1 vu.2.1
      have at2 := at_ok hk2.cu
      have as2 := aside_ok hk2.cu
      have al2 : m_law_alike [.lst [encT u, .int (bAt p y u.1 u.2.1 + u.2.2)], .lst [encT u, .int (bAt p y u.1 u.2.1 + u.2.2)]] (Bx B Z2) = .ok (.bl true, Bx B Z2) := alike_self (by rfl) (by rfl) (by simp [encT])
      have hc2 := hk2.cu.cu
      have two : (2 : Nat) ≤ LIM := by decide
      refine turn_eq (e := [some (.scr ns), some (.ref 1), some (.ref 2), some y.enc, some (.ref 3), some (.ref S1.length), some (.ref c), some (encT u), some x, some wy.str, some z, some (encT u), some (.int (bAt p y u.1 u.2.1 + u.2.2))]) (s := Bx B Z2) ?_ ⟨Z2, u, rfl, hk2, _, _, _, rfl⟩
      simp [go, we, ne, al1, x0, x1, x2, f1, f2, addG, hc2, cu_at, cu_aside, at2, as2, al2, two])
    exact ⟨_, Z', rfl, t'.1, t'.2.1, t'.2.2, hk', _, _, _, _, _, rfl⟩)
  have pg := page_c_ok hk.cu
  have lenB : (Bx b' Z).length = Z.length + 2 := rfl
  have e3 : Bx b' Z ++ [Ob.lst (encP p)] = Bx b' (Z ++ [Ob.lst (encP p)]) := by simp
  have hk1 := hk.app [.lst (encP p)]
  rw [e3] at pg
  obtain ⟨N, hN⟩ : ∃ N, N = (Bx b' Z).length := ⟨_, rfl⟩
  have gN : (Bx b' (Z ++ [Ob.lst (encP p)]))[N]? = some (.lst (encP p)) := by rw [hN, ← e3]; simp
  rw [← hN] at pg
  have ba := back_c_ok hp hk1.cu
  have v0 : Valid p (0, 0, 0) := ⟨by show 0 < p.length; omega, (cellsIn_le hp (by omega)).1, Nat.zero_le _⟩
  obtain ⟨Z2, emv, hk2⟩ := hk1.mv v0
  rw [emv] at ba
  have at2 := at_ok hk2.cu
  have ee : eqG false (Bx b' (Z ++ [Ob.lst (encP p)])) (.ref N) (.ref 2) = .ok (.bl true, Bx b' (Z ++ [Ob.lst (encP p)])) := by
    rw [eqG_refL gN, eqG_refR hk1.pg, eqG_pl (by simp) (by simp) (by have := dps_encP p; simp; omega) (by have := dps_encP p; simp; omega)]
    simp
  have eq2 := eq_trip (neg := false) (S := Bx b' Z2) (0, 0, 0) (0, 0, 0)
  have hc := hk.cu.cu
  have hc1 := hk1.cu.cu
  have hc2 := hk2.cu.cu
  simp at eq2
  simp [hc, hc1, hc2, cu_page, cu_back, cu_at, pg, ee, ba, isG, at2, eq2, e00]
end Dl
/-! ## W_k14 -/
set_option maxHeartbeats 1000000
/-! The walk of tabgrow_k14_cursors_go (printed by wgen.py). -/
namespace W14
open PySem L2 Dl
def top (i : Nat) : Stmt := PySem.Challenge.pw_tabgrow_k14_cursors_go.main.body.getD i (.Pass ⟨0, 0, 0, 0⟩)
abbrev s_law_begun : Stmt := top 37
abbrev s_law_take : Stmt := top 38
abbrev s_law_sign : Stmt := top 40
abbrev s_law_cell : Stmt := top 41
abbrev s_law_row : Stmt := top 42
abbrev s_law_page : Stmt := top 43
abbrev s_law_style : Stmt := top 44
abbrev s_law_mates : Stmt := top 46
abbrev s_law_wide : Stmt := top 47
abbrev s_law_ends : Stmt := top 49
abbrev s_law_figures : Stmt := top 45
abbrev s_law_turned : Stmt := top 48
abbrev s_law_begins : Stmt := top 50
abbrev s_law_alike : Stmt := top 39
abbrev s_Cursor_at : Stmt := inClass (top 35) 1
abbrev s_law_places : Stmt := top 51
abbrev s_law_gone : Stmt := top 52
abbrev s_Cursor_go : Stmt := inClass (top 35) 4
abbrev s_Cursor_go_end : Stmt := inClass (top 35) 5
abbrev s_Cursor_left : Stmt := inClass (top 35) 6
abbrev s_Cursor_mine : Stmt := inClass (top 35) 2
abbrev s_Cursor_right : Stmt := inClass (top 35) 7
abbrev s_Cursor_near : Stmt := inClass (top 35) 8
abbrev s_Cursor_aside : Stmt := inClass (top 35) 3
abbrev s_Cursor_beside : Stmt := inClass (top 35) 9
abbrev s_Cursor_up : Stmt := inClass (top 35) 10
abbrev s_Cursor_down : Stmt := inClass (top 35) 11
abbrev s_law_went : Stmt := top 53
abbrev s_Sheet_page : Stmt := inClass (top 33) 1
abbrev s_Cursor_page : Stmt := inClass (top 35) 17
abbrev s_Stretch_width : Stmt := inClass (top 26) 1
abbrev s_stops_by : Stmt := top 30
abbrev s_is_figures : Stmt := top 24
abbrev s_Stretch_is_right : Stmt := inClass (top 26) 2
abbrev s_begins_by : Stmt := top 31
abbrev s_Stretch_init : Stmt := inClass (top 26) 0
abbrev s_stretches_of : Stmt := top 27
abbrev s_all_stretches : Stmt := top 28
abbrev s_Sheet_back : Stmt := inClass (top 33) 13
abbrev s_Cursor_back : Stmt := inClass (top 35) 16
abbrev s_is_sign : Stmt := top 18
abbrev s_is_cell : Stmt := top 19
abbrev s_is_row : Stmt := top 20
abbrev s_need_page : Stmt := top 21
abbrev s_is_number : Stmt := top 17
abbrev s_need_style : Stmt := top 22
abbrev s_Sheet_init : Stmt := inClass (top 33) 0
abbrev s_Cursor_init : Stmt := inClass (top 35) 0
abbrev s_law : Stmt := top 54
structure Txt (W : Wd) (mg : Str → Option Value) : Prop where
  b_len : mg "len" = none
  b_int : mg "int" = none
  b_list : mg "list" = none
  b_str : mg "str" = none
  b_range : mg "range" = none
  b_tuple : mg "tuple" = none
  b_min : mg "min" = none
  b_max : mg "max" = none
  b_bool : mg "bool" = none
  b_isinstance : mg "isinstance" = none
  b_enumerate : mg "enumerate" = none
  b_ord : mg "ord" = none
  k_FIGURES : ∃ t, mg "FIGURES" = some (.str "0123456789" t)
  k_MOST_CELLS : ∃ t, mg "MOST_CELLS" = some (.int (6) t)
  k_FIRST_SIGN : ∃ t, mg "FIRST_SIGN" = some (.str " " t)
  k_LAST_SIGN : ∃ t, mg "LAST_SIGN" = some (.str "~" t)
  k_BARRED : ∃ t, mg "BARRED" = some (.int (37) t)
  k_MOST_SIGNS : ∃ t, mg "MOST_SIGNS" = some (.int (10) t)
  k_MOST_ROWS : ∃ t, mg "MOST_ROWS" = some (.int (30) t)
  k_MOST_GAP : ∃ t, mg "MOST_GAP" = some (.int (4) t)
  k_MOST_LEAST : ∃ t, mg "MOST_LEAST" = some (.int (12) t)
  cl_Cursor : Cls W.K (W.cls 14)
  cl_Sheet : Cls W.K (W.cls 13)
  cl_Stretch : Cls W.K (W.cls 12)
  na_Cursor_place : NoAttr W.K (W.cls 14) "place"
  na_Cursor_cell : NoAttr W.K (W.cls 14) "cell"
  na_Cursor_number : NoAttr W.K (W.cls 14) "number"
  na_Cursor_sheet : NoAttr W.K (W.cls 14) "sheet"
  na_Sheet_rows : NoAttr W.K (W.cls 13) "rows"
  na_Sheet_lefts : NoAttr W.K (W.cls 13) "lefts"
  na_Stretch_cells : NoAttr W.K (W.cls 12) "cells"
  na_Stretch_end : NoAttr W.K (W.cls 12) "end"
  na_Stretch_begin : NoAttr W.K (W.cls 12) "begin"
  na_Stretch_column : NoAttr W.K (W.cls 12) "column"
  na_Sheet_past : NoAttr W.K (W.cls 13) "past"
  na_Sheet_style : NoAttr W.K (W.cls 13) "style"
section
variable {P : Program} {w : World} {W : Wd} {mg : Str → Option Value} {base : Heap}
theorem sc_law_begun : FnScope ["_law_script", "_law_stirred", "_law_cell_here"] ["_law_script"] (defScope s_law_begun) := ⟨rfl, rfl, rfl, by decide +kernel, rfl, by decide +kernel, by decide +kernel⟩
theorem ok_law_begun {f : Addr} {fd : FuncData} (F : Fun W.K "_law_begun" "_law_begun" s_law_begun f fd) (m : mg "_law_begun" = some (.ref f)) (T : Txt W mg)  : Fn P w W mg base "_law_begun" (1) 1 (funD 3 d_law_begun) :=
  ⟨f, fd, ["_law_script"], fnE F sc_law_begun rfl rfl fun cdv A outer sh H E hr => db_cons (ds_set sc_law_begun.nd rfl (by first | exact Or.inl rfl | exact Or.inr rfl) (de_int)) (db_cons (ds_for passF rfl (di_seq (dv 0)) (dg_name sc_law_begun.nd rfl (by first | exact Or.inl rfl | exact Or.inr rfl)) (db_one (ds_set sc_law_begun.nd rfl (by first | exact Or.inl rfl | exact Or.inr rfl) (de_op dop_mod (de_op (dop_add true) (de_op (dop_add true) (de_op (dop_mul true) (dv 1) (de_int)) (de_op (dop_mul true) (dv 2) (de_int))) (de_int)) (de_int))))) (db_one (ds_ret (de_lst true (da_cons (de_callTy (dc_list true) (by rfl) T.b_list (by decide +kernel) (da_cons (dv 0) (da_nil)) (fun a b => pe_callTy a (by rfl) T.b_list (by decide +kernel) b)) (da_cons (de_op (dop_mul true) (dv 1) (de_callTy dc_int (by rfl) T.b_int (by decide +kernel) (da_cons (de_cmp dop_gt (de_callB dc_len (by rfl) T.b_len (by decide +kernel) (da_cons (dv 0) (da_nil)) (fun a b => pe_callB a (by rfl) T.b_len (by decide +kernel) b)) (de_int) (nomark _)) (da_nil)) (fun a b => pe_callTy a (by rfl) T.b_int (by decide +kernel) b))) (da_nil))))))), m, F.kp, F.binds (ps := ["_law_script"]) fun _ _ _ _ _ _ us hl => match us, hl with | [_], _ => rfl⟩
theorem sc_law_take : FnScope ["_law_box", "_law_many", "_law_number"] ["_law_box", "_law_many"] (defScope s_law_take) := ⟨rfl, rfl, rfl, by decide +kernel, rfl, by decide +kernel, by decide +kernel⟩
theorem ok_law_take {f : Addr} {fd : FuncData} (F : Fun W.K "_law_take" "_law_take" s_law_take f fd) (m : mg "_law_take" = some (.ref f)) (T : Txt W mg)  : Fn P w W mg base "_law_take" (1) 2 (funD 3 d_law_take) :=
  ⟨f, fd, ["_law_box", "_law_many"], fnE F sc_law_take rfl rfl fun cdv A outer sh H E hr => db_cons (ds_if (dt_cmp (dop_eq rfl hr.units) (de_ix rfl (dv 0) (de_int) (fun _ _ => rfl)) (de_lst false (da_nil)) (nomark _)) (db_cons (ds_asg (de_op dop_mod (de_op (dop_mul false) (de_ix rfl (dv 0) (de_int) (fun _ _ => rfl)) (de_int)) (de_int)) (dg_sub (dv 0) (de_int) dset_list)) (db_one (ds_ret (de_op dop_mod (de_op dop_div (de_ix rfl (dv 0) (de_int) (fun _ _ => rfl)) (de_int)) (dv 1))))) (db_nil)) (db_cons (ds_set sc_law_take.nd rfl (by first | exact Or.inl rfl | exact Or.inr rfl) (de_ix rfl (de_ix rfl (dv 0) (de_int) (fun _ _ => rfl)) (de_int) (fun _ _ => rfl))) (db_cons (ds_asg (de_op dop_div (dv 2) (dv 1)) (dg_sub (de_ix rfl (dv 0) (de_int) (fun _ _ => rfl)) (de_int) dset_list)) (db_cons (ds_if (dt_w (dw_or (dt_cmp (dop_eq rfl hr.units) (de_ix rfl (de_ix rfl (dv 0) (de_int) (fun _ _ => rfl)) (de_int) (fun _ _ => rfl)) (de_int) (nomark _)) (dw_or1 (dt_cmp (dop_eq rfl hr.units) (de_ix rfl (de_ix rfl (dv 0) (de_int) (fun _ _ => rfl)) (de_int) (fun _ _ => rfl)) (de_neg (de_int)) (nomark _))))) (db_one (ds_expr (de_mt PySem.F.plainAttrs_list PySem.F.slot_list_pop PySem.F.type_list_pop (dm_pop) (de_ix rfl (dv 0) (de_int) (fun _ _ => rfl)) (da_cons (de_int) (da_nil)) (fun a b c => pe_bm PySem.F.plainAttrs_list PySem.F.slot_list_pop PySem.F.type_list_pop a b c)))) (db_nil)) (db_one (ds_ret (de_op dop_mod (dv 2) (dv 1))))))), m, F.kp, F.binds (ps := ["_law_box", "_law_many"]) fun _ _ _ _ _ _ us hl => match us, hl with | [_, _], _ => rfl⟩
theorem sc_law_sign : FnScope ["_law_box", "_law_every"] ["_law_box"] (defScope s_law_sign) := ⟨rfl, rfl, rfl, by decide +kernel, rfl, by decide +kernel, by decide +kernel⟩
theorem ok_law_sign {m_law_take : FV} {f : Addr} {fd : FuncData} (F : Fun W.K "_law_sign" "_law_sign" s_law_sign f fd) (m : mg "_law_sign" = some (.ref f)) (T : Txt W mg) (c_law_take : Fn P w W mg base "_law_take" 1 2 m_law_take) : Fn P w W mg base "_law_sign" (2) 1 (funD 2 (d_law_sign m_law_take)) :=
  ⟨f, fd, ["_law_box"], fnE F sc_law_sign rfl rfl fun cdv A outer sh H E hr => db_cons (ds_set sc_law_sign.nd rfl (by first | exact Or.inl rfl | exact Or.inr rfl) (de_str (by decide +kernel) (by decide +kernel))) (db_one (ds_ret (de_ix rfl (dv 1) (dcall c_law_take hr passD (da_cons (dv 0) (da_cons (de_int) (da_nil)))) (fun _ _ => rfl)))), m, F.kp, F.binds (ps := ["_law_box"]) fun _ _ _ _ _ _ us hl => match us, hl with | [_], _ => rfl⟩
theorem sc_law_cell : FnScope ["_law_box", "_law_sort", "_law_way", "_law_odd", "_law_many", "_law_k"] ["_law_box", "_law_sort"] (defScope s_law_cell) := ⟨rfl, rfl, rfl, by decide +kernel, rfl, by decide +kernel, by decide +kernel⟩
theorem ok_law_cell {m_law_take m_law_sign : FV} {f : Addr} {fd : FuncData} (F : Fun W.K "_law_cell" "_law_cell" s_law_cell f fd) (m : mg "_law_cell" = some (.ref f)) (T : Txt W mg) (c_law_take : Fn P w W mg base "_law_take" 1 2 m_law_take) (c_law_sign : Fn P w W mg base "_law_sign" 2 1 m_law_sign) : Fn P w W mg base "_law_cell" (3) 2 (funD 6 (d_law_cell m_law_take m_law_sign)) :=
  ⟨f, fd, ["_law_box", "_law_sort"], fnE F sc_law_cell rfl rfl fun cdv A outer sh H E hr => db_cons (ds_set sc_law_cell.nd rfl (by first | exact Or.inl rfl | exact Or.inr rfl) (dcall c_law_take hr passD (da_cons (dv 0) (da_cons (de_int) (da_nil))))) (db_cons (ds_if (dt_cmp (dop_eq rfl hr.units) (dv 2) (de_int) (nomark _)) (db_one (ds_ret (de_str (by decide +kernel) (by decide +kernel)))) (db_nil)) (db_cons (ds_if (dt_w (dw_or (dt_cmp (dop_eq rfl hr.units) (dv 2) (de_int) (nomark _)) (dw_or1 (dt_w (dw_and (dt_cmp (dop_eq rfl hr.units) (dv 1) (de_int) (nomark _)) (dw_and1 (dt_cmp dop_lt (dv 2) (de_int) (nomark _)))))))) (db_one (ds_ret (de_op (dop_add false) (de_ix rfl (de_lst false (da_cons (de_str (by decide +kernel) (by decide +kernel)) (da_cons (de_str (by decide +kernel) (by decide +kernel)) (da_nil)))) (de_op dop_div (dcall c_law_take hr passD (da_cons (dv 0) (da_cons (de_int) (da_nil)))) (de_int)) (fun _ _ => rfl)) (de_callTy dc_str (by rfl) T.b_str (by decide +kernel) (da_cons (dcall c_law_take hr passD (da_cons (dv 0) (da_cons (de_ix rfl (de_lst false (da_cons (de_int) (da_cons (de_int) (da_cons (de_op dop_pow (de_int) (de_int)) (da_nil))))) (dcall c_law_take hr passD (da_cons (dv 0) (da_cons (de_int) (da_nil)))) (fun _ _ => rfl)) (da_nil)))) (da_nil)) (fun a b => pe_callTy a (by rfl) T.b_str (by decide +kernel) b))))) (db_nil)) (db_cons (ds_if (dt_cmp (dop_eq rfl hr.units) (dv 2) (de_int) (nomark _)) (db_cons (ds_set sc_law_cell.nd rfl (by first | exact Or.inl rfl | exact Or.inr rfl) (de_lst false (da_cons (de_str (by decide +kernel) (by decide +kernel)) (da_cons (de_str (by decide +kernel) (by decide +kernel)) (da_cons (de_str (by decide +kernel) (by decide +kernel)) (da_cons (de_str (by decide +kernel) (by decide +kernel)) (da_cons (de_str (by decide +kernel) (by decide +kernel)) (da_cons (de_str (by decide +kernel) (by decide +kernel)) (da_cons (de_str (by decide +kernel) (by decide +kernel)) (da_cons (de_str (by decide +kernel) (by decide +kernel)) (da_cons (de_str (by decide +kernel) (by decide +kernel)) (da_cons (de_str (by decide +kernel) (by decide +kernel)) (da_cons (de_str (by decide +kernel) (by decide +kernel)) (da_cons (de_str (by decide +kernel) (by decide +kernel)) (da_cons (de_str (by decide +kernel) (by decide +kernel)) (da_nil)))))))))))))))) (db_one (ds_ret (de_ix rfl (dv 3) (dcall c_law_take hr passD (da_cons (dv 0) (da_cons (de_int) (da_nil)))) (fun _ _ => rfl))))) (db_nil)) (db_cons (ds_set sc_law_cell.nd rfl (by first | exact Or.inl rfl | exact Or.inr rfl) (de_op (dop_add false) (de_int) (dcall c_law_take hr passD (da_cons (dv 0) (da_cons (de_ix rfl (de_lst false (da_cons (de_int) (da_cons (de_int) (da_nil)))) (dcall c_law_take hr passD (da_cons (dv 0) (da_cons (de_int) (da_nil)))) (fun _ _ => rfl)) (da_nil)))))) (db_cons (ds_if (dt_cmp dop_lt (dv 2) (de_int) (nomark _)) (db_one (ds_ret (de_mt PySem.F.plainAttrs_str PySem.F.slot_str_join PySem.F.type_str_join (dm_join) (de_str (by decide +kernel) (by decide +kernel)) (da_cons (de_lc false rfl sc_law_cell.nd (di_r1 (by rfl) T.b_range (da_cons (dv 4) (da_nil))) (by exact blkOk_by (N := ["_law_box", "_law_sort", "_law_way", "_law_odd", "_law_many", "_law_k"]) (sc := defScope s_law_cell) (own := [("_law_k", 5)]) (by decide +kernel)) rfl (by decide) (fun _ _ _ _ _ => tg_one sc_law_cell.nd rfl (by first | exact Or.inl rfl | exact Or.inr rfl)) (fun _ _ _ _ _ => dts_nil) (fun _ _ _ _ _ => de_ix rfl (de_str (by decide +kernel) (by decide +kernel)) (dcall c_law_take hr passL (da_cons (dv 0) (da_cons (de_int) (da_nil)))) (fun _ _ => rfl))) (da_nil)) (fun a b c => pe_bm PySem.F.plainAttrs_str PySem.F.slot_str_join PySem.F.type_str_join a b c)))) (db_nil)) (db_one (ds_ret (de_mt PySem.F.plainAttrs_str PySem.F.slot_str_join PySem.F.type_str_join (dm_join) (de_str (by decide +kernel) (by decide +kernel)) (da_cons (de_lc false rfl sc_law_cell.nd (di_r1 (by rfl) T.b_range (da_cons (dv 4) (da_nil))) (by exact blkOk_by (N := ["_law_box", "_law_sort", "_law_way", "_law_odd", "_law_many", "_law_k"]) (sc := defScope s_law_cell) (own := [("_law_k", 5)]) (by decide +kernel)) rfl (by decide) (fun _ _ _ _ _ => tg_one sc_law_cell.nd rfl (by first | exact Or.inl rfl | exact Or.inr rfl)) (fun _ _ _ _ _ => dts_nil) (fun _ _ _ _ _ => dcall c_law_sign hr passL (da_cons (dv 0) (da_nil)))) (da_nil)) (fun a b c => pe_bm PySem.F.plainAttrs_str PySem.F.slot_str_join PySem.F.type_str_join a b c))))))))), m, F.kp, F.binds (ps := ["_law_box", "_law_sort"]) fun _ _ _ _ _ _ us hl => match us, hl with | [_, _], _ => rfl⟩
theorem sc_law_row : FnScope ["_law_box", "_law_sorts", "_law_many", "_law_k"] ["_law_box", "_law_sorts", "_law_many"] (defScope s_law_row) := ⟨rfl, rfl, rfl, by decide +kernel, rfl, by decide +kernel, by decide +kernel⟩
theorem ok_law_row {m_law_cell : FV} {f : Addr} {fd : FuncData} (F : Fun W.K "_law_row" "_law_row" s_law_row f fd) (m : mg "_law_row" = some (.ref f)) (T : Txt W mg) (c_law_cell : Fn P w W mg base "_law_cell" 3 2 m_law_cell) : Fn P w W mg base "_law_row" (4) 3 (funD 4 (d_law_row m_law_cell)) :=
  ⟨f, fd, ["_law_box", "_law_sorts", "_law_many"], fnE F sc_law_row rfl rfl fun cdv A outer sh H E hr => db_one (ds_ret (de_callTy dc_tup (by rfl) T.b_tuple (by decide +kernel) (da_cons (de_lc false rfl sc_law_row.nd (di_r1 (by rfl) T.b_range (da_cons (dv 2) (da_nil))) (by exact blkOk_by (N := ["_law_box", "_law_sorts", "_law_many", "_law_k"]) (sc := defScope s_law_row) (own := [("_law_k", 3)]) (by decide +kernel)) rfl (by decide) (fun _ _ _ _ _ => tg_one sc_law_row.nd rfl (by first | exact Or.inl rfl | exact Or.inr rfl)) (fun _ _ _ _ _ => dts_nil) (fun _ _ _ _ _ => dcall c_law_cell hr passL (da_cons (dv 0) (da_cons (de_ix rfl (dv 1) (dv 3) (fun _ _ => rfl)) (da_nil))))) (da_nil)) (fun a b => pe_callTy a (by rfl) T.b_tuple (by decide +kernel) b))), m, F.kp, F.binds (ps := ["_law_box", "_law_sorts", "_law_many"]) fun _ _ _ _ _ _ us hl => match us, hl with | [_, _, _], _ => rfl⟩
theorem sc_law_page : FnScope ["_law_box", "_law_most", "_law_sorts", "_law_many", "_law_rows", "_law_turn", "_law_way", "_law_k"] ["_law_box", "_law_most"] (defScope s_law_page) := ⟨rfl, rfl, rfl, by decide +kernel, rfl, by decide +kernel, by decide +kernel⟩
theorem ok_law_page {m_law_take m_law_row : FV} {f : Addr} {fd : FuncData} (F : Fun W.K "_law_page" "_law_page" s_law_page f fd) (m : mg "_law_page" = some (.ref f)) (T : Txt W mg) (c_law_take : Fn P w W mg base "_law_take" 1 2 m_law_take) (c_law_row : Fn P w W mg base "_law_row" 4 3 m_law_row) : Fn P w W mg base "_law_page" (5) 2 (funD 8 (d_law_page m_law_take m_law_row)) :=
  ⟨f, fd, ["_law_box", "_law_most"], fnE F sc_law_page rfl rfl fun cdv A outer sh H E hr => db_cons (ds_setLc false rfl sc_law_page.nd rfl rfl (sw_true rfl rfl rfl (by decide +kernel)) (di_r1 (by rfl) T.b_range (da_cons (de_int) (da_nil))) (by exact blkOk_by (N := ["_law_box", "_law_most", "_law_sorts", "_law_many", "_law_rows", "_law_turn", "_law_way", "_law_k"]) (sc := defScope s_law_page) (own := [("_law_k", 7)]) (by decide +kernel)) rfl (by decide) (fun _ _ _ _ _ => tg_one sc_law_page.nd rfl (by first | exact Or.inl rfl | exact Or.inr rfl)) (fun _ _ _ _ _ => dts_nil) (fun _ _ _ _ _ => dcall c_law_take hr passL (da_cons (dv 0) (da_cons (de_int) (da_nil))))) (db_cons (ds_par rfl sc_law_page.nd rfl rfl (by decide) rfl rfl (da_cons (de_op (dop_add false) (de_int) (dcall c_law_take hr passD (da_cons (dv 0) (da_cons (de_int) (da_nil))))) (da_cons (de_lst true (da_nil)) (da_nil))) (by rfl)) (db_cons (ds_for passF rfl (di_r1 (by rfl) T.b_range (da_cons (de_op (dop_add false) (de_int) (dcall c_law_take hr passD (da_cons (dv 0) (da_cons (dv 1) (da_nil))))) (da_nil))) (dg_name sc_law_page.nd rfl (by first | exact Or.inl rfl | exact Or.inr rfl)) (db_cons (ds_set sc_law_page.nd rfl (by first | exact Or.inl rfl | exact Or.inr rfl) (dcall c_law_take hr passD (da_cons (dv 0) (da_cons (de_int) (da_nil))))) (db_cons (ds_set sc_law_page.nd rfl (by first | exact Or.inl rfl | exact Or.inr rfl) (de_ix rfl (de_lst false (da_cons (de_op (dop_add false) (de_int) (dcall c_law_take hr passD (da_cons (dv 0) (da_cons (de_int) (da_nil))))) (da_cons (de_callB (dc_max rfl) (by rfl) T.b_max (by decide +kernel) (da_cons (de_int) (da_cons (de_op dop_sub (dv 3) (de_int)) (da_nil))) (fun a b => pe_callB a (by rfl) T.b_max (by decide +kernel) b)) (da_cons (de_callB (dc_min rfl) (by rfl) T.b_min (by decide +kernel) (da_cons (de_int) (da_cons (de_op (dop_add false) (dv 3) (de_int)) (da_nil))) (fun a b => pe_callB a (by rfl) T.b_min (by decide +kernel) b)) (da_cons (dv 3) (da_nil)))))) (de_callB (dc_min rfl) (by rfl) T.b_min (by decide +kernel) (da_cons (dv 6) (da_cons (de_int) (da_nil))) (fun a b => pe_callB a (by rfl) T.b_min (by decide +kernel) b)) (fun _ _ => rfl))) (db_cons (ds_expr (de_mt PySem.F.plainAttrs_list PySem.F.slot_list_append PySem.F.type_list_append (dm_append) (dv 4) (da_cons (dcall c_law_row hr passD (da_cons (dv 0) (da_cons (dv 2) (da_cons (dv 3) (da_nil))))) (da_nil)) (fun a b c => pe_bm PySem.F.plainAttrs_list PySem.F.slot_list_append PySem.F.type_list_append a b c))) (db_one (ds_if (dt_cmp (dop_eq rfl hr.units) (dv 6) (de_int) (nomark _)) (db_cons (ds_asg (de_ix rfl (dv 4) (dcall c_law_take hr passD (da_cons (dv 0) (da_cons (de_callB dc_len (by rfl) T.b_len (by decide +kernel) (da_cons (dv 4) (da_nil)) (fun a b => pe_callB a (by rfl) T.b_len (by decide +kernel) b)) (da_nil)))) (fun _ _ => rfl)) (dg_sub (dv 4) (de_neg (de_int)) dset_list)) (db_one (ds_set sc_law_page.nd rfl (by first | exact Or.inl rfl | exact Or.inr rfl) (de_callB dc_len (by rfl) T.b_len (by decide +kernel) (da_cons (de_ix rfl (dv 4) (de_neg (de_int)) (fun _ _ => rfl)) (da_nil)) (fun a b => pe_callB a (by rfl) T.b_len (by decide +kernel) b))))) (db_nil))))))) (db_one (ds_ret (dv 4))))), m, F.kp, F.binds (ps := ["_law_box", "_law_most"]) fun _ _ _ _ _ _ us hl => match us, hl with | [_, _], _ => rfl⟩
theorem sc_law_style : FnScope ["_law_box", "_law_gap"] ["_law_box"] (defScope s_law_style) := ⟨rfl, rfl, rfl, by decide +kernel, rfl, by decide +kernel, by decide +kernel⟩
theorem ok_law_style {m_law_take : FV} {f : Addr} {fd : FuncData} (F : Fun W.K "_law_style" "_law_style" s_law_style f fd) (m : mg "_law_style" = some (.ref f)) (T : Txt W mg) (c_law_take : Fn P w W mg base "_law_take" 1 2 m_law_take) : Fn P w W mg base "_law_style" (2) 1 (funD 2 (d_law_style m_law_take)) :=
  ⟨f, fd, ["_law_box"], fnE F sc_law_style rfl rfl fun cdv A outer sh H E hr => db_cons (ds_set sc_law_style.nd rfl (by first | exact Or.inl rfl | exact Or.inr rfl) (de_ix rfl (de_lst false (da_cons (dcall c_law_take hr passD (da_cons (dv 0) (da_cons (de_int) (da_nil)))) (da_cons (de_int) (da_cons (de_int) (da_nil))))) (dcall c_law_take hr passD (da_cons (dv 0) (da_cons (de_int) (da_nil)))) (fun _ _ => rfl))) (db_one (ds_ret (de_tup (da_cons (dv 1) (da_cons (de_ix rfl (de_lst false (da_cons (de_int) (da_cons (dcall c_law_take hr passD (da_cons (dv 0) (da_cons (de_int) (da_nil)))) (da_cons (dcall c_law_take hr passD (da_cons (dv 0) (da_cons (de_int) (da_nil)))) (da_nil))))) (dcall c_law_take hr passD (da_cons (dv 0) (da_cons (de_int) (da_nil)))) (fun _ _ => rfl)) (da_nil)))))), m, F.kp, F.binds (ps := ["_law_box"]) fun _ _ _ _ _ _ us hl => match us, hl with | [_], _ => rfl⟩
theorem sc_law_mates : FnScope ["_law_page_here", "_law_number", "_law_column", "_law_begin", "_law_end"] ["_law_page_here", "_law_number", "_law_column"] (defScope s_law_mates) := ⟨rfl, rfl, rfl, by decide +kernel, rfl, by decide +kernel, by decide +kernel⟩
theorem ok_law_mates {f : Addr} {fd : FuncData} (F : Fun W.K "_law_mates" "_law_mates" s_law_mates f fd) (m : mg "_law_mates" = some (.ref f)) (T : Txt W mg)  : Fn P w W mg base "_law_mates" (1) 3 (funD 5 d_law_mates) :=
  ⟨f, fd, ["_law_page_here", "_law_number", "_law_column"], fnE F sc_law_mates rfl rfl fun cdv A outer sh H E hr => db_cons (ds_par rfl sc_law_mates.nd rfl rfl (by decide) rfl rfl (da_cons (dv 1) (da_cons (de_op (dop_add false) (dv 1) (de_int)) (da_nil))) (by rfl)) (db_cons (ds_while 100000 passF (dt_w (dw_and (dt_cmp dop_gt (dv 3) (de_int) (nomark _)) (dw_and1 (dt_cmp dop_gt (de_callB dc_len (by rfl) T.b_len (by decide +kernel) (da_cons (de_ix rfl (dv 0) (de_op dop_sub (dv 3) (de_int)) (fun _ _ => rfl)) (da_nil)) (fun a b => pe_callB a (by rfl) T.b_len (by decide +kernel) b)) (de_op (dop_add false) (dv 2) (de_int)) (nomark _))))) (db_one (ds_set sc_law_mates.nd rfl (by first | exact Or.inl rfl | exact Or.inr rfl) (de_op dop_sub (dv 3) (de_int))))) (db_cons (ds_while 100000 passF (dt_w (dw_and (dt_cmp dop_lt (dv 4) (de_callB dc_len (by rfl) T.b_len (by decide +kernel) (da_cons (dv 0) (da_nil)) (fun a b => pe_callB a (by rfl) T.b_len (by decide +kernel) b)) (nomark _)) (dw_and1 (dt_cmp dop_gt (de_callB dc_len (by rfl) T.b_len (by decide +kernel) (da_cons (de_ix rfl (dv 0) (dv 4) (fun _ _ => rfl)) (da_nil)) (fun a b => pe_callB a (by rfl) T.b_len (by decide +kernel) b)) (de_op (dop_add false) (dv 2) (de_int)) (nomark _))))) (db_one (ds_set sc_law_mates.nd rfl (by first | exact Or.inl rfl | exact Or.inr rfl) (de_op (dop_add false) (dv 4) (de_int))))) (db_one (ds_ret (de_tup (da_cons (dv 3) (da_cons (dv 4) (da_nil)))))))), m, F.kp, F.binds (ps := ["_law_page_here", "_law_number", "_law_column"]) fun _ _ _ _ _ _ us hl => match us, hl with | [_, _, _], _ => rfl⟩
theorem sc_law_wide : FnScope ["_law_page_here", "_law_style_here", "_law_number", "_law_column", "_law_begin", "_law_end", "_law_k"] ["_law_page_here", "_law_style_here", "_law_number", "_law_column"] (defScope s_law_wide) := ⟨rfl, rfl, rfl, by decide +kernel, rfl, by decide +kernel, by decide +kernel⟩
theorem ok_law_wide {m_law_mates : FV} {f : Addr} {fd : FuncData} (F : Fun W.K "_law_wide" "_law_wide" s_law_wide f fd) (m : mg "_law_wide" = some (.ref f)) (T : Txt W mg) (c_law_mates : Fn P w W mg base "_law_mates" 1 3 m_law_mates) : Fn P w W mg base "_law_wide" (2) 4 (funD 7 (d_law_wide m_law_mates)) :=
  ⟨f, fd, ["_law_page_here", "_law_style_here", "_law_number", "_law_column"], fnE F sc_law_wide rfl rfl fun cdv A outer sh H E hr => db_cons (ds_asg (dcall c_law_mates hr passD (da_cons (dv 0) (da_cons (dv 2) (da_cons (dv 3) (da_nil))))) (dg_tup rfl (dgs_cons (dg_name sc_law_wide.nd rfl (by first | exact Or.inl rfl | exact Or.inr rfl)) (dgs_cons (dg_name sc_law_wide.nd rfl (by first | exact Or.inl rfl | exact Or.inr rfl)) (dgs_nil))))) (db_one (ds_ret (de_callB (dc_max rfl) (by rfl) T.b_max (by decide +kernel) (da_cons (de_op (dop_add false) (de_lst false (da_cons (de_ix rfl (dv 1) (de_int) (fun _ _ => rfl)) (da_nil))) (de_lc false rfl sc_law_wide.nd (di_r2 (by rfl) T.b_range (da_cons (dv 4) (da_cons (dv 5) (da_nil)))) (by exact blkOk_by (N := ["_law_page_here", "_law_style_here", "_law_number", "_law_column", "_law_begin", "_law_end", "_law_k"]) (sc := defScope s_law_wide) (own := [("_law_k", 6)]) (by decide +kernel)) rfl (by decide) (fun _ _ _ _ _ => tg_one sc_law_wide.nd rfl (by first | exact Or.inl rfl | exact Or.inr rfl)) (fun _ _ _ _ _ => dts_nil) (fun _ _ _ _ _ => de_op (dop_add false) (de_callB dc_len (by rfl) T.b_len (by decide +kernel) (da_cons (de_ix rfl (de_ix rfl (dv 0) (dv 6) (fun _ _ => rfl)) (dv 3) (fun _ _ => rfl)) (da_nil)) (fun a b => pe_callB a (by rfl) T.b_len (by decide +kernel) b)) (de_ix rfl (dv 1) (de_int) (fun _ _ => rfl))))) (da_nil)) (fun a b => pe_callB a (by rfl) T.b_max (by decide +kernel) b)))), m, F.kp, F.binds (ps := ["_law_page_here", "_law_style_here", "_law_number", "_law_column"]) fun _ _ _ _ _ _ us hl => match us, hl with | [_, _, _, _], _ => rfl⟩
theorem sc_law_ends : FnScope ["_law_page_here", "_law_style_here", "_law_found", "_law_number", "_law_row_here", "_law_column"] ["_law_page_here", "_law_style_here"] (defScope s_law_ends) := ⟨rfl, rfl, rfl, by decide +kernel, rfl, by decide +kernel, by decide +kernel⟩
theorem ok_law_ends {m_law_wide : FV} {f : Addr} {fd : FuncData} (F : Fun W.K "_law_ends" "_law_ends" s_law_ends f fd) (m : mg "_law_ends" = some (.ref f)) (T : Txt W mg) (c_law_wide : Fn P w W mg base "_law_wide" 2 4 m_law_wide) : Fn P w W mg base "_law_ends" (3) 2 (funD 6 (d_law_ends m_law_wide)) :=
  ⟨f, fd, ["_law_page_here", "_law_style_here"], fnE F sc_law_ends rfl rfl fun cdv A outer sh H E hr => db_cons (ds_set sc_law_ends.nd rfl (by first | exact Or.inl rfl | exact Or.inr rfl) (de_lst true (da_nil))) (db_cons (ds_for passF rfl (di_r1 (by rfl) T.b_range (da_cons (de_callB dc_len (by rfl) T.b_len (by decide +kernel) (da_cons (dv 0) (da_nil)) (fun a b => pe_callB a (by rfl) T.b_len (by decide +kernel) b)) (da_nil))) (dg_name sc_law_ends.nd rfl (by first | exact Or.inl rfl | exact Or.inr rfl)) (db_cons (ds_set sc_law_ends.nd rfl (by first | exact Or.inl rfl | exact Or.inr rfl) (de_lst true (da_cons (de_int) (da_nil)))) (db_cons (ds_for passF rfl (di_r1 (by rfl) T.b_range (da_cons (de_op dop_sub (de_callB dc_len (by rfl) T.b_len (by decide +kernel) (da_cons (de_ix rfl (dv 0) (dv 3) (fun _ _ => rfl)) (da_nil)) (fun a b => pe_callB a (by rfl) T.b_len (by decide +kernel) b)) (de_int)) (da_nil))) (dg_name sc_law_ends.nd rfl (by first | exact Or.inl rfl | exact Or.inr rfl)) (db_one (ds_expr (de_mt PySem.F.plainAttrs_list PySem.F.slot_list_append PySem.F.type_list_append (dm_append) (dv 4) (da_cons (de_op (dop_add false) (de_ix rfl (dv 4) (de_neg (de_int)) (fun _ _ => rfl)) (dcall c_law_wide hr passD (da_cons (dv 0) (da_cons (dv 1) (da_cons (dv 3) (da_cons (dv 5) (da_nil))))))) (da_nil)) (fun a b c => pe_bm PySem.F.plainAttrs_list PySem.F.slot_list_append PySem.F.type_list_append a b c))))) (db_one (ds_expr (de_mt PySem.F.plainAttrs_list PySem.F.slot_list_append PySem.F.type_list_append (dm_append) (dv 2) (da_cons (dv 4) (da_nil)) (fun a b c => pe_bm PySem.F.plainAttrs_list PySem.F.slot_list_append PySem.F.type_list_append a b c))))))) (db_one (ds_ret (dv 2)))), m, F.kp, F.binds (ps := ["_law_page_here", "_law_style_here"]) fun _ _ _ _ _ _ us hl => match us, hl with | [_, _], _ => rfl⟩
theorem sc_law_figures : FnScope ["_law_cell_here", "_law_rest", "_law_sign_here"] ["_law_cell_here"] (defScope s_law_figures) := ⟨rfl, rfl, rfl, by decide +kernel, rfl, by decide +kernel, by decide +kernel⟩
theorem ok_law_figures {f : Addr} {fd : FuncData} (F : Fun W.K "_law_figures" "_law_figures" s_law_figures f fd) (m : mg "_law_figures" = some (.ref f)) (T : Txt W mg)  : Fn P w W mg base "_law_figures" (1) 1 (funD 3 d_law_figures) :=
  ⟨f, fd, ["_law_cell_here"], fnE F sc_law_figures rfl rfl fun cdv A outer sh H E hr => db_cons (ds_set sc_law_figures.nd rfl (by first | exact Or.inl rfl | exact Or.inr rfl) (de_if (dt_cmp (dop_eq rfl hr.units) (de_sl false rfl (dv 0) (dp_none) (dp_some (de_int))) (de_str (by decide +kernel) (by decide +kernel)) (nomark _)) (de_sl false rfl (dv 0) (dp_some (de_int)) (dp_none)) (dv 0))) (db_one (ds_ret (de_and (de_cmp (dop_ne rfl hr.units) (dv 1) (de_str (by decide +kernel) (by decide +kernel)) (nomark _)) (de_one (de_cmp (dop_eq rfl hr.units) (de_lc false rfl sc_law_figures.nd (di_seq (dv 1)) (by exact blkOk_by (N := ["_law_cell_here", "_law_rest", "_law_sign_here"]) (sc := defScope s_law_figures) (own := [("_law_sign_here", 2)]) (by decide +kernel)) rfl (by decide) (fun _ _ _ _ _ => tg_one sc_law_figures.nd rfl (by first | exact Or.inl rfl | exact Or.inr rfl)) (fun _ _ _ _ _ => dts_one (dt_cmp (dop_notin rfl) (dv 2) (de_str (by decide +kernel) (by decide +kernel)) (by rfl))) (fun _ _ _ _ _ => dv 2)) (de_lst false (da_nil)) (nomark _)))))), m, F.kp, F.binds (ps := ["_law_cell_here"]) fun _ _ _ _ _ _ us hl => match us, hl with | [_], _ => rfl⟩
theorem sc_law_turned : FnScope ["_law_page_here", "_law_number", "_law_column", "_law_begin", "_law_end", "_law_some", "_law_k", "_law_cell_here"] ["_law_page_here", "_law_number", "_law_column"] (defScope s_law_turned) := ⟨rfl, rfl, rfl, by decide +kernel, rfl, by decide +kernel, by decide +kernel⟩
theorem ok_law_turned {m_law_mates m_law_figures : FV} {f : Addr} {fd : FuncData} (F : Fun W.K "_law_turned" "_law_turned" s_law_turned f fd) (m : mg "_law_turned" = some (.ref f)) (T : Txt W mg) (c_law_mates : Fn P w W mg base "_law_mates" 1 3 m_law_mates) (c_law_figures : Fn P w W mg base "_law_figures" 1 1 m_law_figures) : Fn P w W mg base "_law_turned" (2) 3 (funD 8 (d_law_turned m_law_mates m_law_figures)) :=
  ⟨f, fd, ["_law_page_here", "_law_number", "_law_column"], fnE F sc_law_turned rfl rfl fun cdv A outer sh H E hr => db_cons (ds_asg (dcall c_law_mates hr passD (da_cons (dv 0) (da_cons (dv 1) (da_cons (dv 2) (da_nil))))) (dg_tup rfl (dgs_cons (dg_name sc_law_turned.nd rfl (by first | exact Or.inl rfl | exact Or.inr rfl)) (dgs_cons (dg_name sc_law_turned.nd rfl (by first | exact Or.inl rfl | exact Or.inr rfl)) (dgs_nil))))) (db_cons (ds_setLc false rfl sc_law_turned.nd rfl rfl (sw_true rfl rfl rfl (by decide +kernel)) (di_r2 (by rfl) T.b_range (da_cons (dv 3) (da_cons (dv 4) (da_nil)))) (by exact blkOk_by (N := ["_law_page_here", "_law_number", "_law_column", "_law_begin", "_law_end", "_law_some", "_law_k", "_law_cell_here"]) (sc := defScope s_law_turned) (own := [("_law_k", 6)]) (by decide +kernel)) rfl (by decide) (fun _ _ _ _ _ => tg_one sc_law_turned.nd rfl (by first | exact Or.inl rfl | exact Or.inr rfl)) (fun _ _ _ _ _ => dts_one (dt_cmp (dop_ne rfl hr.units) (de_ix rfl (de_ix rfl (dv 0) (dv 6) (fun _ _ => rfl)) (dv 2) (fun _ _ => rfl)) (de_str (by decide +kernel) (by decide +kernel)) (nomark _))) (fun _ _ _ _ _ => de_ix rfl (de_ix rfl (dv 0) (dv 6) (fun _ _ => rfl)) (dv 2) (fun _ _ => rfl))) (db_one (ds_ret (de_and (de_cmp (dop_ne rfl hr.units) (dv 5) (de_lst false (da_nil)) (nomark _)) (de_one (de_cmp (dop_eq rfl hr.units) (de_lc false rfl sc_law_turned.nd (di_seq (dv 5)) (by exact blkOk_by (N := ["_law_page_here", "_law_number", "_law_column", "_law_begin", "_law_end", "_law_some", "_law_k", "_law_cell_here"]) (sc := defScope s_law_turned) (own := [("_law_cell_here", 7)]) (by decide +kernel)) rfl (by decide) (fun _ _ _ _ _ => tg_one sc_law_turned.nd rfl (by first | exact Or.inl rfl | exact Or.inr rfl)) (fun _ _ _ _ _ => dts_one (dt_not (dt_val (dcall c_law_figures hr passL (da_cons (dv 7) (da_nil)))))) (fun _ _ _ _ _ => dv 7)) (de_lst false (da_nil)) (nomark _))))))), m, F.kp, F.binds (ps := ["_law_page_here", "_law_number", "_law_column"]) fun _ _ _ _ _ _ us hl => match us, hl with | [_, _, _], _ => rfl⟩
theorem sc_law_begins : FnScope ["_law_page_here", "_law_style_here", "_law_found", "_law_number", "_law_lefts", "_law_column", "_law_end"] ["_law_page_here", "_law_style_here"] (defScope s_law_begins) := ⟨rfl, rfl, rfl, by decide +kernel, rfl, by decide +kernel, by decide +kernel⟩
theorem ok_law_begins {m_law_ends m_law_turned : FV} {f : Addr} {fd : FuncData} (F : Fun W.K "_law_begins" "_law_begins" s_law_begins f fd) (m : mg "_law_begins" = some (.ref f)) (T : Txt W mg) (c_law_ends : Fn P w W mg base "_law_ends" 3 2 m_law_ends) (c_law_turned : Fn P w W mg base "_law_turned" 2 3 m_law_turned) : Fn P w W mg base "_law_begins" (4) 2 (funD 7 (d_law_begins m_law_ends m_law_turned)) :=
  ⟨f, fd, ["_law_page_here", "_law_style_here"], fnE F sc_law_begins rfl rfl fun cdv A outer sh H E hr => db_cons (ds_set sc_law_begins.nd rfl (by first | exact Or.inl rfl | exact Or.inr rfl) (dcall c_law_ends hr passD (da_cons (dv 0) (da_cons (dv 1) (da_nil))))) (db_cons (ds_for passF rfl (di_r1 (by rfl) T.b_range (da_cons (de_callB dc_len (by rfl) T.b_len (by decide +kernel) (da_cons (dv 0) (da_nil)) (fun a b => pe_callB a (by rfl) T.b_len (by decide +kernel) b)) (da_nil))) (dg_name sc_law_begins.nd rfl (by first | exact Or.inl rfl | exact Or.inr rfl)) (db_cons (ds_set sc_law_begins.nd rfl (by first | exact Or.inl rfl | exact Or.inr rfl) (de_callTy (dc_list false) (by rfl) T.b_list (by decide +kernel) (da_cons (de_ix rfl (dv 2) (dv 3) (fun _ _ => rfl)) (da_nil)) (fun a b => pe_callTy a (by rfl) T.b_list (by decide +kernel) b))) (db_one (ds_for passF rfl (di_r1 (by rfl) T.b_range (da_cons (de_op dop_sub (de_callB dc_len (by rfl) T.b_len (by decide +kernel) (da_cons (de_ix rfl (dv 0) (dv 3) (fun _ _ => rfl)) (da_nil)) (fun a b => pe_callB a (by rfl) T.b_len (by decide +kernel) b)) (de_int)) (da_nil))) (dg_name sc_law_begins.nd rfl (by first | exact Or.inl rfl | exact Or.inr rfl)) (db_one (ds_if (dt_val (dcall c_law_turned hr passD (da_cons (dv 0) (da_cons (dv 3) (da_cons (dv 5) (da_nil)))))) (db_cons (ds_set sc_law_begins.nd rfl (by first | exact Or.inl rfl | exact Or.inr rfl) (de_op dop_sub (de_ix rfl (dv 4) (de_op (dop_add false) (dv 5) (de_int)) (fun _ _ => rfl)) (de_ix rfl (dv 1) (de_int) (fun _ _ => rfl)))) (db_one (ds_asg (de_op dop_sub (dv 6) (de_callB dc_len (by rfl) T.b_len (by decide +kernel) (da_cons (de_ix rfl (de_ix rfl (dv 0) (dv 3) (fun _ _ => rfl)) (dv 5) (fun _ _ => rfl)) (da_nil)) (fun a b => pe_callB a (by rfl) T.b_len (by decide +kernel) b))) (dg_sub (de_ix rfl (dv 2) (dv 3) (fun _ _ => rfl)) (dv 5) dset_list)))) (db_nil))))))) (db_one (ds_ret (dv 2)))), m, F.kp, F.binds (ps := ["_law_page_here", "_law_style_here"]) fun _ _ _ _ _ _ us hl => match us, hl with | [_, _], _ => rfl⟩
theorem sc_law_alike : FnScope ["_law_found", "_law_due", "_law_k"] ["_law_found", "_law_due"] (defScope s_law_alike) := ⟨rfl, rfl, rfl, by decide +kernel, rfl, by decide +kernel, by decide +kernel⟩
theorem ok_law_alike {j : Nat} {rec_ : FV} {f : Addr} {fd : FuncData} (F : Fun W.K "_law_alike" "_law_alike" s_law_alike f fd) (m : mg "_law_alike" = some (.ref f)) (T : Txt W mg) (c_law_alike : Fn P w W mg base "_law_alike" j 2 rec_) : Fn P w W mg base "_law_alike" (j + 1) 2 (funD 3 (d_law_alike rec_)) :=
  ⟨f, fd, ["_law_found", "_law_due"], fnE F sc_law_alike rfl rfl fun cdv A outer sh H E hr => db_cons (ds_if (dt_cmp dop_is (dv 1) (de_non) (nomark _)) (db_one (ds_ret (de_cmp dop_is (dv 0) (de_non) (nomark _)))) (db_nil)) (db_cons (ds_if (dt_val (de_isinst (by simp) (dv 1) (pe_bltn (by rfl) T.b_bool (by decide +kernel) rfl) (fun a b => pe_callB a (by rfl) T.b_isinstance (by decide +kernel) b) (fun p => pa_cons p (pa_cons (pe_bltn (by rfl) T.b_bool (by decide +kernel) rfl) pa_nil)))) (db_one (ds_ret (de_and (de_isinst (by simp) (dv 0) (pe_bltn (by rfl) T.b_bool (by decide +kernel) rfl) (fun a b => pe_callB a (by rfl) T.b_isinstance (by decide +kernel) b) (fun p => pa_cons p (pa_cons (pe_bltn (by rfl) T.b_bool (by decide +kernel) rfl) pa_nil))) (de_one (de_cmp (dop_eq rfl hr.units) (dv 0) (dv 1) (nomark _)))))) (db_nil)) (db_cons (ds_if (dt_val (de_isinst (by simp) (dv 1) (pe_bltn (by rfl) T.b_int (by decide +kernel) rfl) (fun a b => pe_callB a (by rfl) T.b_isinstance (by decide +kernel) b) (fun p => pa_cons p (pa_cons (pe_bltn (by rfl) T.b_int (by decide +kernel) rfl) pa_nil)))) (db_one (ds_ret (de_and (de_isinst (by simp) (dv 0) (pe_bltn (by rfl) T.b_int (by decide +kernel) rfl) (fun a b => pe_callB a (by rfl) T.b_isinstance (by decide +kernel) b) (fun p => pa_cons p (pa_cons (pe_bltn (by rfl) T.b_int (by decide +kernel) rfl) pa_nil))) (de_and (de_not (de_isinst (by simp) (dv 0) (pe_bltn (by rfl) T.b_bool (by decide +kernel) rfl) (fun a b => pe_callB a (by rfl) T.b_isinstance (by decide +kernel) b) (fun p => pa_cons p (pa_cons (pe_bltn (by rfl) T.b_bool (by decide +kernel) rfl) pa_nil)))) (de_one (de_cmp (dop_eq rfl hr.units) (dv 0) (dv 1) (nomark _))))))) (db_nil)) (db_cons (ds_if (dt_val (de_isinst (by simp) (dv 1) (pe_bltn (by rfl) T.b_str (by decide +kernel) rfl) (fun a b => pe_callB a (by rfl) T.b_isinstance (by decide +kernel) b) (fun p => pa_cons p (pa_cons (pe_bltn (by rfl) T.b_str (by decide +kernel) rfl) pa_nil)))) (db_one (ds_ret (de_and (de_isinst (by simp) (dv 0) (pe_bltn (by rfl) T.b_str (by decide +kernel) rfl) (fun a b => pe_callB a (by rfl) T.b_isinstance (by decide +kernel) b) (fun p => pa_cons p (pa_cons (pe_bltn (by rfl) T.b_str (by decide +kernel) rfl) pa_nil))) (de_one (de_cmp (dop_eq rfl hr.units) (dv 0) (dv 1) (nomark _)))))) (db_nil)) (db_cons (ds_if (dt_w (dw_or (dt_cmp (dop_ne rfl hr.units) (de_isinst (by simp) (dv 1) (pe_bltn (by rfl) T.b_tuple (by decide +kernel) rfl) (fun a b => pe_callB a (by rfl) T.b_isinstance (by decide +kernel) b) (fun p => pa_cons p (pa_cons (pe_bltn (by rfl) T.b_tuple (by decide +kernel) rfl) pa_nil))) (de_isinst (by simp) (dv 0) (pe_bltn (by rfl) T.b_tuple (by decide +kernel) rfl) (fun a b => pe_callB a (by rfl) T.b_isinstance (by decide +kernel) b) (fun p => pa_cons p (pa_cons (pe_bltn (by rfl) T.b_tuple (by decide +kernel) rfl) pa_nil))) (nomark _)) (dw_or1 (dt_cmp (dop_ne rfl hr.units) (de_isinst (by simp) (dv 1) (pe_bltn (by rfl) T.b_list (by decide +kernel) rfl) (fun a b => pe_callB a (by rfl) T.b_isinstance (by decide +kernel) b) (fun p => pa_cons p (pa_cons (pe_bltn (by rfl) T.b_list (by decide +kernel) rfl) pa_nil))) (de_isinst (by simp) (dv 0) (pe_bltn (by rfl) T.b_list (by decide +kernel) rfl) (fun a b => pe_callB a (by rfl) T.b_isinstance (by decide +kernel) b) (fun p => pa_cons p (pa_cons (pe_bltn (by rfl) T.b_list (by decide +kernel) rfl) pa_nil))) (nomark _))))) (db_one (ds_ret (de_bl))) (db_nil)) (db_cons (ds_if (dt_cmp (dop_ne rfl hr.units) (de_callB dc_len (by rfl) T.b_len (by decide +kernel) (da_cons (dv 0) (da_nil)) (fun a b => pe_callB a (by rfl) T.b_len (by decide +kernel) b)) (de_callB dc_len (by rfl) T.b_len (by decide +kernel) (da_cons (dv 1) (da_nil)) (fun a b => pe_callB a (by rfl) T.b_len (by decide +kernel) b)) (nomark _)) (db_one (ds_ret (de_bl))) (db_nil)) (db_cons (ds_for passF rfl (di_r1 (by rfl) T.b_range (da_cons (de_callB dc_len (by rfl) T.b_len (by decide +kernel) (da_cons (dv 1) (da_nil)) (fun a b => pe_callB a (by rfl) T.b_len (by decide +kernel) b)) (da_nil))) (dg_name sc_law_alike.nd rfl (by first | exact Or.inl rfl | exact Or.inr rfl)) (db_one (ds_if (dt_not (dt_val (dcallR c_law_alike hr passD (da_cons (de_ix rfl (dv 0) (dv 2) (fun _ _ => rfl)) (da_cons (de_ix rfl (dv 1) (dv 2) (fun _ _ => rfl)) (da_nil)))))) (db_one (ds_ret (de_bl))) (db_nil)))) (db_one (ds_ret (de_bl))))))))), m, F.kp, F.binds (ps := ["_law_found", "_law_due"]) fun _ _ _ _ _ _ us hl => match us, hl with | [_, _], _ => rfl⟩
theorem rec_law_alike {f : Addr} {fd : FuncData} (F : Fun W.K "_law_alike" "_law_alike" s_law_alike f fd) (m : mg "_law_alike" = some (.ref f)) (T : Txt W mg) : ∀ n, Fn P w W mg base "_law_alike" n 2 (l_law_alike n)
  | 0 => fn_bad m F.kp (F.binds (ps := ["_law_found", "_law_due"]) fun _ _ _ _ _ _ us hl => match us, hl with | [_, _], _ => rfl)
  | n + 1 => ok_law_alike F m T (rec_law_alike F m T n)
theorem sc_Cursor_at : FnScope ["self"] ["self"] (defScope s_Cursor_at) := ⟨rfl, rfl, rfl, by decide +kernel, rfl, by decide +kernel, by decide +kernel⟩
theorem ok_Cursor_at {f : Addr} {fd : FuncData} (F : Fun W.K "at" "Cursor.at" s_Cursor_at f fd) (M : Meth W.K (W.cls 14) "at" f) (T : Txt W mg)  : Mt P w W mg base 14 "at" (1) 1 (funD 1 d_Cursor_at) :=
  ⟨⟨f, fd, ["self"], fnE F sc_Cursor_at rfl rfl fun cdv A outer sh H E hr => db_one (ds_ret (de_tup (da_cons (de_fld rfl (dv 0) T.cl_Cursor T.na_Cursor_number) (da_cons (de_fld rfl (dv 0) T.cl_Cursor T.na_Cursor_cell) (da_cons (de_fld rfl (dv 0) T.cl_Cursor T.na_Cursor_place) (da_nil)))))), M, F.binds (ps := ["self"]) fun _ _ _ _ _ _ us hl => match us, hl with | [_], _ => rfl⟩, T.cl_Cursor⟩
theorem sc_law_places : FnScope ["_law_rows", "_law_found", "_law_number", "_law_cell_here", "_law_place"] ["_law_rows"] (defScope s_law_places) := ⟨rfl, rfl, rfl, by decide +kernel, rfl, by decide +kernel, by decide +kernel⟩
theorem ok_law_places {f : Addr} {fd : FuncData} (F : Fun W.K "_law_places" "_law_places" s_law_places f fd) (m : mg "_law_places" = some (.ref f)) (T : Txt W mg)  : Fn P w W mg base "_law_places" (1) 1 (funD 5 d_law_places) :=
  ⟨f, fd, ["_law_rows"], fnE F sc_law_places rfl rfl fun cdv A outer sh H E hr => db_cons (ds_set sc_law_places.nd rfl (by first | exact Or.inl rfl | exact Or.inr rfl) (de_lst true (da_nil))) (db_cons (ds_for passF rfl (di_r1 (by rfl) T.b_range (da_cons (de_callB dc_len (by rfl) T.b_len (by decide +kernel) (da_cons (dv 0) (da_nil)) (fun a b => pe_callB a (by rfl) T.b_len (by decide +kernel) b)) (da_nil))) (dg_name sc_law_places.nd rfl (by first | exact Or.inl rfl | exact Or.inr rfl)) (db_one (ds_for passF rfl (di_r1 (by rfl) T.b_range (da_cons (de_callB dc_len (by rfl) T.b_len (by decide +kernel) (da_cons (de_ix rfl (dv 0) (dv 2) (fun _ _ => rfl)) (da_nil)) (fun a b => pe_callB a (by rfl) T.b_len (by decide +kernel) b)) (da_nil))) (dg_name sc_law_places.nd rfl (by first | exact Or.inl rfl | exact Or.inr rfl)) (db_one (ds_expr (de_mt PySem.F.plainAttrs_list PySem.F.slot_list_extend PySem.F.type_list_extend (dm_extend) (dv 1) (da_cons (de_lc false rfl sc_law_places.nd (di_r1 (by rfl) T.b_range (da_cons (de_op (dop_add false) (de_callB dc_len (by rfl) T.b_len (by decide +kernel) (da_cons (de_ix rfl (de_ix rfl (dv 0) (dv 2) (fun _ _ => rfl)) (dv 3) (fun _ _ => rfl)) (da_nil)) (fun a b => pe_callB a (by rfl) T.b_len (by decide +kernel) b)) (de_int)) (da_nil))) (by exact blkOk_by (N := ["_law_rows", "_law_found", "_law_number", "_law_cell_here", "_law_place"]) (sc := defScope s_law_places) (own := [("_law_place", 4)]) (by decide +kernel)) rfl (by decide) (fun _ _ _ _ _ => tg_one sc_law_places.nd rfl (by first | exact Or.inl rfl | exact Or.inr rfl)) (fun _ _ _ _ _ => dts_nil) (fun _ _ _ _ _ => de_tup (da_cons (dv 2) (da_cons (dv 3) (da_cons (dv 4) (da_nil)))))) (da_nil)) (fun a b c => pe_bm PySem.F.plainAttrs_list PySem.F.slot_list_extend PySem.F.type_list_extend a b c))))))) (db_one (ds_ret (dv 1)))), m, F.kp, F.binds (ps := ["_law_rows"]) fun _ _ _ _ _ _ us hl => match us, hl with | [_], _ => rfl⟩
theorem sc_law_gone : FnScope ["_law_rows", "_law_begins_here", "_law_at", "_law_way", "_law_every", "_law_k", "_law_number", "_law_aside", "_law_some", "_law_one"] ["_law_rows", "_law_begins_here", "_law_at", "_law_way"] (defScope s_law_gone) := ⟨rfl, rfl, rfl, by decide +kernel, rfl, by decide +kernel, by decide +kernel⟩
theorem ok_law_gone {m_law_places : FV} {f : Addr} {fd : FuncData} (F : Fun W.K "_law_gone" "_law_gone" s_law_gone f fd) (m : mg "_law_gone" = some (.ref f)) (T : Txt W mg) (c_law_places : Fn P w W mg base "_law_places" 1 1 m_law_places) : Fn P w W mg base "_law_gone" (2) 4 (funD 10 (d_law_gone m_law_places)) :=
  ⟨f, fd, ["_law_rows", "_law_begins_here", "_law_at", "_law_way"], fnE F sc_law_gone rfl rfl fun cdv A outer sh H E hr => db_cons (ds_set sc_law_gone.nd rfl (by first | exact Or.inl rfl | exact Or.inr rfl) (dcall c_law_places hr passD (da_cons (dv 0) (da_nil)))) (db_cons (ds_set sc_law_gone.nd rfl (by first | exact Or.inl rfl | exact Or.inr rfl) (de_mt PySem.F.plainAttrs_list PySem.F.slot_list_index PySem.F.type_list_index (dm_index rfl (Dl.hu65 hr)) (dv 4) (da_cons (dv 2) (da_nil)) (fun a b c => pe_bm PySem.F.plainAttrs_list PySem.F.slot_list_index PySem.F.type_list_index a b c))) (db_cons (ds_if (dt_cmp (dop_eq rfl hr.units) (dv 3) (de_str (by decide +kernel) (by decide +kernel)) (nomark _)) (db_one (ds_ret (de_ix rfl (dv 4) (de_callB (dc_max rfl) (by rfl) T.b_max (by decide +kernel) (da_cons (de_int) (da_cons (de_op dop_sub (dv 5) (de_int)) (da_nil))) (fun a b => pe_callB a (by rfl) T.b_max (by decide +kernel) b)) (fun _ _ => rfl)))) (db_nil)) (db_cons (ds_if (dt_cmp (dop_eq rfl hr.units) (dv 3) (de_str (by decide +kernel) (by decide +kernel)) (nomark _)) (db_one (ds_ret (de_ix rfl (dv 4) (de_callB (dc_min rfl) (by rfl) T.b_min (by decide +kernel) (da_cons (de_op dop_sub (de_callB dc_len (by rfl) T.b_len (by decide +kernel) (da_cons (dv 4) (da_nil)) (fun a b => pe_callB a (by rfl) T.b_len (by decide +kernel) b)) (de_int)) (da_cons (de_op (dop_add false) (dv 5) (de_int)) (da_nil))) (fun a b => pe_callB a (by rfl) T.b_min (by decide +kernel) b)) (fun _ _ => rfl)))) (db_nil)) (db_cons (ds_set sc_law_gone.nd rfl (by first | exact Or.inl rfl | exact Or.inr rfl) (de_op (dop_add false) (de_ix rfl (dv 2) (de_int) (fun _ _ => rfl)) (de_ix rfl (de_lst false (da_cons (de_int) (da_cons (de_neg (de_int)) (da_nil)))) (de_callTy dc_int (by rfl) T.b_int (by decide +kernel) (da_cons (de_cmp (dop_eq rfl hr.units) (dv 3) (de_str (by decide +kernel) (by decide +kernel)) (nomark _)) (da_nil)) (fun a b => pe_callTy a (by rfl) T.b_int (by decide +kernel) b)) (fun _ _ => rfl)))) (db_cons (ds_if (dt_not (dt_chain dop_le dop_lt (de_int) (dv 6) (de_callB dc_len (by rfl) T.b_len (by decide +kernel) (da_cons (dv 0) (da_nil)) (fun a b => pe_callB a (by rfl) T.b_len (by decide +kernel) b)) (by with_unfolding_all rfl))) (db_one (ds_ret (dv 2))) (db_nil)) (db_cons (ds_set sc_law_gone.nd rfl (by first | exact Or.inl rfl | exact Or.inr rfl) (de_op (dop_add false) (de_ix rfl (de_ix rfl (dv 1) (de_ix rfl (dv 2) (de_int) (fun _ _ => rfl)) (fun _ _ => rfl)) (de_ix rfl (dv 2) (de_int) (fun _ _ => rfl)) (fun _ _ => rfl)) (de_ix rfl (dv 2) (de_int) (fun _ _ => rfl)))) (db_cons (ds_setLc false rfl sc_law_gone.nd rfl rfl (sw_true rfl rfl rfl (by decide +kernel)) (di_seq (dv 4)) (by exact blkOk_by (N := ["_law_rows", "_law_begins_here", "_law_at", "_law_way", "_law_every", "_law_k", "_law_number", "_law_aside", "_law_some", "_law_one"]) (sc := defScope s_law_gone) (own := [("_law_one", 9)]) (by decide +kernel)) rfl (by decide) (fun _ _ _ _ _ => tg_one sc_law_gone.nd rfl (by first | exact Or.inl rfl | exact Or.inr rfl)) (fun _ _ _ _ _ => dts_one (dt_w (dw_and (dt_cmp (dop_eq rfl hr.units) (de_ix rfl (dv 9) (de_int) (fun _ _ => rfl)) (dv 6) (nomark _)) (dw_and1 (dt_cmp dop_le (de_op (dop_add false) (de_ix rfl (de_ix rfl (dv 1) (dv 6) (fun _ _ => rfl)) (de_ix rfl (dv 9) (de_int) (fun _ _ => rfl)) (fun _ _ => rfl)) (de_ix rfl (dv 9) (de_int) (fun _ _ => rfl))) (dv 7) (nomark _)))))) (fun _ _ _ _ _ => dv 9)) (db_one (ds_ret (de_if (dt_cmp (dop_ne rfl hr.units) (dv 8) (de_lst false (da_nil)) (nomark _)) (de_ix rfl (dv 8) (de_neg (de_int)) (fun _ _ => rfl)) (de_tup (da_cons (dv 6) (da_cons (de_int) (da_cons (de_int) (da_nil))))))))))))))), m, F.kp, F.binds (ps := ["_law_rows", "_law_begins_here", "_law_at", "_law_way"]) fun _ _ _ _ _ _ us hl => match us, hl with | [_, _, _, _], _ => rfl⟩
theorem sc_Cursor_go : FnScope ["self", "number", "cell", "place", "is_other"] ["self", "number", "cell", "place"] (defScope s_Cursor_go) := ⟨rfl, rfl, rfl, by decide +kernel, rfl, by decide +kernel, by decide +kernel⟩
theorem ok_Cursor_go {m_Cursor_at : FV} {f : Addr} {fd : FuncData} (F : Fun W.K "go" "Cursor.go" s_Cursor_go f fd) (M : Meth W.K (W.cls 14) "go" f) (T : Txt W mg) (c_Cursor_at : Mt P w W mg base 14 "at" 1 1 m_Cursor_at) : Mt P w W mg base 14 "go" (2) 4 (funD 5 (d_Cursor_go m_Cursor_at)) :=
  ⟨⟨f, fd, ["self", "number", "cell", "place"], fnE F sc_Cursor_go rfl rfl fun cdv A outer sh H E hr => db_cons (ds_set sc_Cursor_go.nd rfl (by first | exact Or.inl rfl | exact Or.inr rfl) (de_cmp (dop_ne rfl hr.units) (de_tup (da_cons (dv 1) (da_cons (dv 2) (da_cons (dv 3) (da_nil))))) (dmeth0 c_Cursor_at (dv 0) hr passD) (nomark _))) (db_cons (ds_asg (de_tup (da_cons (dv 1) (da_cons (dv 2) (da_cons (dv 3) (da_nil))))) (dg_tup rfl (dgs_cons (dg_fld rfl (dv 0) T.cl_Cursor T.na_Cursor_number) (dgs_cons (dg_fld rfl (dv 0) T.cl_Cursor T.na_Cursor_cell) (dgs_cons (dg_fld rfl (dv 0) T.cl_Cursor T.na_Cursor_place) (dgs_nil)))))) (db_one (ds_ret (dv 4)))), M, F.binds (ps := ["self", "number", "cell", "place"]) fun _ _ _ _ _ _ us hl => match us, hl with | [_, _, _, _], _ => rfl⟩, T.cl_Cursor⟩
theorem sc_Cursor_go_end : FnScope ["self", "number", "cell"] ["self", "number", "cell"] (defScope s_Cursor_go_end) := ⟨rfl, rfl, rfl, by decide +kernel, rfl, by decide +kernel, by decide +kernel⟩
theorem ok_Cursor_go_end {m_Cursor_go : FV} {f : Addr} {fd : FuncData} (F : Fun W.K "go_end" "Cursor.go_end" s_Cursor_go_end f fd) (M : Meth W.K (W.cls 14) "go_end" f) (T : Txt W mg) (c_Cursor_go : Mt P w W mg base 14 "go" 2 4 m_Cursor_go) : Mt P w W mg base 14 "go_end" (3) 3 (funD 3 (d_Cursor_go_end m_Cursor_go)) :=
  ⟨⟨f, fd, ["self", "number", "cell"], fnE F sc_Cursor_go_end rfl rfl fun cdv A outer sh H E hr => db_one (ds_ret (dmeth c_Cursor_go (dv 0) hr passD (da_cons (dv 1) (da_cons (dv 2) (da_cons (de_callB dc_len (by rfl) T.b_len (by decide +kernel) (da_cons (de_ix rfl (de_ix rfl (de_fld rfl (de_fld rfl (dv 0) T.cl_Cursor T.na_Cursor_sheet) T.cl_Sheet T.na_Sheet_rows) (dv 1) (fun _ _ => rfl)) (dv 2) (fun _ _ => rfl)) (da_nil)) (fun a b => pe_callB a (by rfl) T.b_len (by decide +kernel) b)) (da_nil)))))), M, F.binds (ps := ["self", "number", "cell"]) fun _ _ _ _ _ _ us hl => match us, hl with | [_, _, _], _ => rfl⟩, T.cl_Cursor⟩
theorem sc_Cursor_left : FnScope ["self"] ["self"] (defScope s_Cursor_left) := ⟨rfl, rfl, rfl, by decide +kernel, rfl, by decide +kernel, by decide +kernel⟩
theorem ok_Cursor_left {m_Cursor_go m_Cursor_go_end : FV} {f : Addr} {fd : FuncData} (F : Fun W.K "left" "Cursor.left" s_Cursor_left f fd) (M : Meth W.K (W.cls 14) "left" f) (T : Txt W mg) (c_Cursor_go : Mt P w W mg base 14 "go" 2 4 m_Cursor_go) (c_Cursor_go_end : Mt P w W mg base 14 "go_end" 3 3 m_Cursor_go_end) : Mt P w W mg base 14 "left" (4) 1 (funD 1 (d_Cursor_left m_Cursor_go m_Cursor_go_end)) :=
  ⟨⟨f, fd, ["self"], fnE F sc_Cursor_left rfl rfl fun cdv A outer sh H E hr => db_cons (ds_if (dt_cmp dop_gt (de_fld rfl (dv 0) T.cl_Cursor T.na_Cursor_place) (de_int) (nomark _)) (db_one (ds_ret (dmeth c_Cursor_go (dv 0) hr passD (da_cons (de_fld rfl (dv 0) T.cl_Cursor T.na_Cursor_number) (da_cons (de_fld rfl (dv 0) T.cl_Cursor T.na_Cursor_cell) (da_cons (de_op dop_sub (de_fld rfl (dv 0) T.cl_Cursor T.na_Cursor_place) (de_int)) (da_nil))))))) (db_nil)) (db_cons (ds_if (dt_cmp dop_gt (de_fld rfl (dv 0) T.cl_Cursor T.na_Cursor_cell) (de_int) (nomark _)) (db_one (ds_ret (dmeth c_Cursor_go_end (dv 0) hr passD (da_cons (de_fld rfl (dv 0) T.cl_Cursor T.na_Cursor_number) (da_cons (de_op dop_sub (de_fld rfl (dv 0) T.cl_Cursor T.na_Cursor_cell) (de_int)) (da_nil)))))) (db_nil)) (db_cons (ds_if (dt_cmp dop_gt (de_fld rfl (dv 0) T.cl_Cursor T.na_Cursor_number) (de_int) (nomark _)) (db_one (ds_ret (dmeth c_Cursor_go_end (dv 0) hr passD (da_cons (de_op dop_sub (de_fld rfl (dv 0) T.cl_Cursor T.na_Cursor_number) (de_int)) (da_cons (de_op dop_sub (de_callB dc_len (by rfl) T.b_len (by decide +kernel) (da_cons (de_ix rfl (de_fld rfl (de_fld rfl (dv 0) T.cl_Cursor T.na_Cursor_sheet) T.cl_Sheet T.na_Sheet_rows) (de_op dop_sub (de_fld rfl (dv 0) T.cl_Cursor T.na_Cursor_number) (de_int)) (fun _ _ => rfl)) (da_nil)) (fun a b => pe_callB a (by rfl) T.b_len (by decide +kernel) b)) (de_int)) (da_nil)))))) (db_nil)) (db_one (ds_ret (de_bl))))), M, F.binds (ps := ["self"]) fun _ _ _ _ _ _ us hl => match us, hl with | [_], _ => rfl⟩, T.cl_Cursor⟩
theorem sc_Cursor_mine : FnScope ["self"] ["self"] (defScope s_Cursor_mine) := ⟨rfl, rfl, rfl, by decide +kernel, rfl, by decide +kernel, by decide +kernel⟩
theorem ok_Cursor_mine {f : Addr} {fd : FuncData} (F : Fun W.K "mine" "Cursor.mine" s_Cursor_mine f fd) (M : Meth W.K (W.cls 14) "mine" f) (T : Txt W mg)  : Mt P w W mg base 14 "mine" (1) 1 (funD 1 d_Cursor_mine) :=
  ⟨⟨f, fd, ["self"], fnE F sc_Cursor_mine rfl rfl fun cdv A outer sh H E hr => db_one (ds_ret (de_ix rfl (de_fld rfl (de_fld rfl (dv 0) T.cl_Cursor T.na_Cursor_sheet) T.cl_Sheet T.na_Sheet_rows) (de_fld rfl (dv 0) T.cl_Cursor T.na_Cursor_number) (fun _ _ => rfl))), M, F.binds (ps := ["self"]) fun _ _ _ _ _ _ us hl => match us, hl with | [_], _ => rfl⟩, T.cl_Cursor⟩
theorem sc_Cursor_right : FnScope ["self"] ["self"] (defScope s_Cursor_right) := ⟨rfl, rfl, rfl, by decide +kernel, rfl, by decide +kernel, by decide +kernel⟩
theorem ok_Cursor_right {m_Cursor_mine m_Cursor_go : FV} {f : Addr} {fd : FuncData} (F : Fun W.K "right" "Cursor.right" s_Cursor_right f fd) (M : Meth W.K (W.cls 14) "right" f) (T : Txt W mg) (c_Cursor_mine : Mt P w W mg base 14 "mine" 1 1 m_Cursor_mine) (c_Cursor_go : Mt P w W mg base 14 "go" 2 4 m_Cursor_go) : Mt P w W mg base 14 "right" (3) 1 (funD 1 (d_Cursor_right m_Cursor_mine m_Cursor_go)) :=
  ⟨⟨f, fd, ["self"], fnE F sc_Cursor_right rfl rfl fun cdv A outer sh H E hr => db_cons (ds_if (dt_cmp dop_lt (de_fld rfl (dv 0) T.cl_Cursor T.na_Cursor_place) (de_callB dc_len (by rfl) T.b_len (by decide +kernel) (da_cons (de_ix rfl (dmeth0 c_Cursor_mine (dv 0) hr passD) (de_fld rfl (dv 0) T.cl_Cursor T.na_Cursor_cell) (fun _ _ => rfl)) (da_nil)) (fun a b => pe_callB a (by rfl) T.b_len (by decide +kernel) b)) (nomark _)) (db_one (ds_ret (dmeth c_Cursor_go (dv 0) hr passD (da_cons (de_fld rfl (dv 0) T.cl_Cursor T.na_Cursor_number) (da_cons (de_fld rfl (dv 0) T.cl_Cursor T.na_Cursor_cell) (da_cons (de_op (dop_add false) (de_fld rfl (dv 0) T.cl_Cursor T.na_Cursor_place) (de_int)) (da_nil))))))) (db_nil)) (db_cons (ds_if (dt_cmp dop_lt (de_fld rfl (dv 0) T.cl_Cursor T.na_Cursor_cell) (de_op dop_sub (de_callB dc_len (by rfl) T.b_len (by decide +kernel) (da_cons (dmeth0 c_Cursor_mine (dv 0) hr passD) (da_nil)) (fun a b => pe_callB a (by rfl) T.b_len (by decide +kernel) b)) (de_int)) (nomark _)) (db_one (ds_ret (dmeth c_Cursor_go (dv 0) hr passD (da_cons (de_fld rfl (dv 0) T.cl_Cursor T.na_Cursor_number) (da_cons (de_op (dop_add false) (de_fld rfl (dv 0) T.cl_Cursor T.na_Cursor_cell) (de_int)) (da_cons (de_int) (da_nil))))))) (db_nil)) (db_cons (ds_if (dt_cmp dop_lt (de_fld rfl (dv 0) T.cl_Cursor T.na_Cursor_number) (de_op dop_sub (de_callB dc_len (by rfl) T.b_len (by decide +kernel) (da_cons (de_fld rfl (de_fld rfl (dv 0) T.cl_Cursor T.na_Cursor_sheet) T.cl_Sheet T.na_Sheet_rows) (da_nil)) (fun a b => pe_callB a (by rfl) T.b_len (by decide +kernel) b)) (de_int)) (nomark _)) (db_one (ds_ret (dmeth c_Cursor_go (dv 0) hr passD (da_cons (de_op (dop_add false) (de_fld rfl (dv 0) T.cl_Cursor T.na_Cursor_number) (de_int)) (da_cons (de_int) (da_cons (de_int) (da_nil))))))) (db_nil)) (db_one (ds_ret (de_bl))))), M, F.binds (ps := ["self"]) fun _ _ _ _ _ _ us hl => match us, hl with | [_], _ => rfl⟩, T.cl_Cursor⟩
theorem sc_Cursor_near : FnScope ["self", "number", "aside", "found", "cell", "text", "place"] ["self", "number", "aside"] (defScope s_Cursor_near) := ⟨rfl, rfl, rfl, by decide +kernel, rfl, by decide +kernel, by decide +kernel⟩
theorem ok_Cursor_near {f : Addr} {fd : FuncData} (F : Fun W.K "near" "Cursor.near" s_Cursor_near f fd) (M : Meth W.K (W.cls 14) "near" f) (T : Txt W mg)  : Mt P w W mg base 14 "near" (1) 3 (funD 7 d_Cursor_near) :=
  ⟨⟨f, fd, ["self", "number", "aside"], fnE F sc_Cursor_near rfl rfl fun cdv A outer sh H E hr => db_cons (ds_set sc_Cursor_near.nd rfl (by first | exact Or.inl rfl | exact Or.inr rfl) (de_tup (da_cons (de_int) (da_cons (de_int) (da_nil))))) (db_cons (ds_for passF rfl (di_enumT (by rfl) T.b_enumerate (da_cons (de_ix rfl (de_fld rfl (de_fld rfl (dv 0) T.cl_Cursor T.na_Cursor_sheet) T.cl_Sheet T.na_Sheet_rows) (dv 1) (fun _ _ => rfl)) (da_nil))) (dg_tup rfl (dgs_cons (dg_name sc_Cursor_near.nd rfl (by first | exact Or.inl rfl | exact Or.inr rfl)) (dgs_cons (dg_name sc_Cursor_near.nd rfl (by first | exact Or.inl rfl | exact Or.inr rfl)) (dgs_nil)))) (db_one (ds_for passF rfl (di_r1 (by rfl) T.b_range (da_cons (de_op (dop_add false) (de_callB dc_len (by rfl) T.b_len (by decide +kernel) (da_cons (dv 5) (da_nil)) (fun a b => pe_callB a (by rfl) T.b_len (by decide +kernel) b)) (de_int)) (da_nil))) (dg_name sc_Cursor_near.nd rfl (by first | exact Or.inl rfl | exact Or.inr rfl)) (db_one (ds_if (dt_cmp dop_le (de_op (dop_add false) (de_ix rfl (de_ix rfl (de_fld rfl (de_fld rfl (dv 0) T.cl_Cursor T.na_Cursor_sheet) T.cl_Sheet T.na_Sheet_lefts) (dv 1) (fun _ _ => rfl)) (dv 4) (fun _ _ => rfl)) (dv 6)) (dv 2) (nomark _)) (db_one (ds_set sc_Cursor_near.nd rfl (by first | exact Or.inl rfl | exact Or.inr rfl) (de_tup (da_cons (dv 4) (da_cons (dv 6) (da_nil)))))) (db_nil)))))) (db_one (ds_ret (dv 3)))), M, F.binds (ps := ["self", "number", "aside"]) fun _ _ _ _ _ _ us hl => match us, hl with | [_, _, _], _ => rfl⟩, T.cl_Cursor⟩
theorem sc_Cursor_aside : FnScope ["self"] ["self"] (defScope s_Cursor_aside) := ⟨rfl, rfl, rfl, by decide +kernel, rfl, by decide +kernel, by decide +kernel⟩
theorem ok_Cursor_aside {f : Addr} {fd : FuncData} (F : Fun W.K "aside" "Cursor.aside" s_Cursor_aside f fd) (M : Meth W.K (W.cls 14) "aside" f) (T : Txt W mg)  : Mt P w W mg base 14 "aside" (1) 1 (funD 1 d_Cursor_aside) :=
  ⟨⟨f, fd, ["self"], fnE F sc_Cursor_aside rfl rfl fun cdv A outer sh H E hr => db_one (ds_ret (de_op (dop_add false) (de_ix rfl (de_ix rfl (de_fld rfl (de_fld rfl (dv 0) T.cl_Cursor T.na_Cursor_sheet) T.cl_Sheet T.na_Sheet_lefts) (de_fld rfl (dv 0) T.cl_Cursor T.na_Cursor_number) (fun _ _ => rfl)) (de_fld rfl (dv 0) T.cl_Cursor T.na_Cursor_cell) (fun _ _ => rfl)) (de_fld rfl (dv 0) T.cl_Cursor T.na_Cursor_place))), M, F.binds (ps := ["self"]) fun _ _ _ _ _ _ us hl => match us, hl with | [_], _ => rfl⟩, T.cl_Cursor⟩
theorem sc_Cursor_beside : FnScope ["self", "step", "number", "cell", "place"] ["self", "step"] (defScope s_Cursor_beside) := ⟨rfl, rfl, rfl, by decide +kernel, rfl, by decide +kernel, by decide +kernel⟩
theorem ok_Cursor_beside {m_Cursor_near m_Cursor_aside m_Cursor_go : FV} {f : Addr} {fd : FuncData} (F : Fun W.K "beside" "Cursor.beside" s_Cursor_beside f fd) (M : Meth W.K (W.cls 14) "beside" f) (T : Txt W mg) (c_Cursor_near : Mt P w W mg base 14 "near" 1 3 m_Cursor_near) (c_Cursor_aside : Mt P w W mg base 14 "aside" 1 1 m_Cursor_aside) (c_Cursor_go : Mt P w W mg base 14 "go" 2 4 m_Cursor_go) : Mt P w W mg base 14 "beside" (3) 2 (funD 5 (d_Cursor_beside m_Cursor_near m_Cursor_aside m_Cursor_go)) :=
  ⟨⟨f, fd, ["self", "step"], fnE F sc_Cursor_beside rfl rfl fun cdv A outer sh H E hr => db_cons (ds_set sc_Cursor_beside.nd rfl (by first | exact Or.inl rfl | exact Or.inr rfl) (de_op (dop_add false) (de_fld rfl (dv 0) T.cl_Cursor T.na_Cursor_number) (dv 1))) (db_cons (ds_if (dt_not (dt_chain dop_le dop_lt (de_int) (dv 2) (de_callB dc_len (by rfl) T.b_len (by decide +kernel) (da_cons (de_fld rfl (de_fld rfl (dv 0) T.cl_Cursor T.na_Cursor_sheet) T.cl_Sheet T.na_Sheet_rows) (da_nil)) (fun a b => pe_callB a (by rfl) T.b_len (by decide +kernel) b)) (by with_unfolding_all rfl))) (db_one (ds_ret (de_bl))) (db_nil)) (db_cons (ds_asg (dmeth c_Cursor_near (dv 0) hr passD (da_cons (dv 2) (da_cons (dmeth0 c_Cursor_aside (dv 0) hr passD) (da_nil)))) (dg_tup rfl (dgs_cons (dg_name sc_Cursor_beside.nd rfl (by first | exact Or.inl rfl | exact Or.inr rfl)) (dgs_cons (dg_name sc_Cursor_beside.nd rfl (by first | exact Or.inl rfl | exact Or.inr rfl)) (dgs_nil))))) (db_one (ds_ret (dmeth c_Cursor_go (dv 0) hr passD (da_cons (dv 2) (da_cons (dv 3) (da_cons (dv 4) (da_nil))))))))), M, F.binds (ps := ["self", "step"]) fun _ _ _ _ _ _ us hl => match us, hl with | [_, _], _ => rfl⟩, T.cl_Cursor⟩
theorem sc_Cursor_up : FnScope ["self"] ["self"] (defScope s_Cursor_up) := ⟨rfl, rfl, rfl, by decide +kernel, rfl, by decide +kernel, by decide +kernel⟩
theorem ok_Cursor_up {m_Cursor_beside : FV} {f : Addr} {fd : FuncData} (F : Fun W.K "up" "Cursor.up" s_Cursor_up f fd) (M : Meth W.K (W.cls 14) "up" f) (T : Txt W mg) (c_Cursor_beside : Mt P w W mg base 14 "beside" 3 2 m_Cursor_beside) : Mt P w W mg base 14 "up" (4) 1 (funD 1 (d_Cursor_up m_Cursor_beside)) :=
  ⟨⟨f, fd, ["self"], fnE F sc_Cursor_up rfl rfl fun cdv A outer sh H E hr => db_one (ds_ret (dmeth c_Cursor_beside (dv 0) hr passD (da_cons (de_op dop_sub (de_int) (de_int)) (da_nil)))), M, F.binds (ps := ["self"]) fun _ _ _ _ _ _ us hl => match us, hl with | [_], _ => rfl⟩, T.cl_Cursor⟩
theorem sc_Cursor_down : FnScope ["self"] ["self"] (defScope s_Cursor_down) := ⟨rfl, rfl, rfl, by decide +kernel, rfl, by decide +kernel, by decide +kernel⟩
theorem ok_Cursor_down {m_Cursor_beside : FV} {f : Addr} {fd : FuncData} (F : Fun W.K "down" "Cursor.down" s_Cursor_down f fd) (M : Meth W.K (W.cls 14) "down" f) (T : Txt W mg) (c_Cursor_beside : Mt P w W mg base 14 "beside" 3 2 m_Cursor_beside) : Mt P w W mg base 14 "down" (4) 1 (funD 1 (d_Cursor_down_k14 m_Cursor_beside)) :=
  ⟨⟨f, fd, ["self"], fnE F sc_Cursor_down rfl rfl fun cdv A outer sh H E hr => db_one (ds_ret (dmeth c_Cursor_beside (dv 0) hr passD (da_cons (de_int) (da_nil)))), M, F.binds (ps := ["self"]) fun _ _ _ _ _ _ us hl => match us, hl with | [_], _ => rfl⟩, T.cl_Cursor⟩
theorem sc_law_went : FnScope ["_law_cursor", "_law_way"] ["_law_cursor", "_law_way"] (defScope s_law_went) := ⟨rfl, rfl, rfl, by decide +kernel, rfl, by decide +kernel, by decide +kernel⟩
theorem ok_law_went {m_Cursor_left m_Cursor_right m_Cursor_up m_Cursor_down_k14 : FV} {f : Addr} {fd : FuncData} (F : Fun W.K "_law_went" "_law_went" s_law_went f fd) (m : mg "_law_went" = some (.ref f)) (T : Txt W mg) (c_Cursor_left : Mt P w W mg base 14 "left" 4 1 m_Cursor_left) (c_Cursor_right : Mt P w W mg base 14 "right" 3 1 m_Cursor_right) (c_Cursor_up : Mt P w W mg base 14 "up" 4 1 m_Cursor_up) (c_Cursor_down : Mt P w W mg base 14 "down" 4 1 m_Cursor_down_k14) : Fn P w W mg base "_law_went" (5) 2 (funD 2 (d_law_went m_Cursor_left m_Cursor_right m_Cursor_up m_Cursor_down_k14)) :=
  ⟨f, fd, ["_law_cursor", "_law_way"], fnE F sc_law_went rfl rfl fun cdv A outer sh H E hr => db_cons (ds_if (dt_cmp (dop_eq rfl hr.units) (dv 1) (de_str (by decide +kernel) (by decide +kernel)) (nomark _)) (db_one (ds_ret (dmeth0 c_Cursor_left (dv 0) hr passD))) (db_nil)) (db_cons (ds_if (dt_cmp (dop_eq rfl hr.units) (dv 1) (de_str (by decide +kernel) (by decide +kernel)) (nomark _)) (db_one (ds_ret (dmeth0 c_Cursor_right (dv 0) hr passD))) (db_nil)) (db_one (ds_ret (de_if (dt_cmp (dop_eq rfl hr.units) (dv 1) (de_str (by decide +kernel) (by decide +kernel)) (nomark _)) (dmeth0 c_Cursor_up (dv 0) hr passD) (dmeth0 c_Cursor_down (dv 0) hr passD))))), m, F.kp, F.binds (ps := ["_law_cursor", "_law_way"]) fun _ _ _ _ _ _ us hl => match us, hl with | [_, _], _ => rfl⟩
theorem sc_Sheet_page : FnScope ["self"] ["self"] (defScope s_Sheet_page) := ⟨rfl, rfl, rfl, by decide +kernel, rfl, by decide +kernel, by decide +kernel⟩
theorem ok_Sheet_page {f : Addr} {fd : FuncData} (F : Fun W.K "page" "Sheet.page" s_Sheet_page f fd) (M : Meth W.K (W.cls 13) "page" f) (T : Txt W mg)  : Mt P w W mg base 13 "page" (1) 1 (funD 1 d_Sheet_page) :=
  ⟨⟨f, fd, ["self"], fnE F sc_Sheet_page rfl rfl fun cdv A outer sh H E hr => db_one (ds_ret (de_callTy (dc_list true) (by rfl) T.b_list (by decide +kernel) (da_cons (de_fld rfl (dv 0) T.cl_Sheet T.na_Sheet_rows) (da_nil)) (fun a b => pe_callTy a (by rfl) T.b_list (by decide +kernel) b))), M, F.binds (ps := ["self"]) fun _ _ _ _ _ _ us hl => match us, hl with | [_], _ => rfl⟩, T.cl_Sheet⟩
theorem sc_Cursor_page : FnScope ["self"] ["self"] (defScope s_Cursor_page) := ⟨rfl, rfl, rfl, by decide +kernel, rfl, by decide +kernel, by decide +kernel⟩
theorem ok_Cursor_page {m_Sheet_page : FV} {f : Addr} {fd : FuncData} (F : Fun W.K "page" "Cursor.page" s_Cursor_page f fd) (M : Meth W.K (W.cls 14) "page" f) (T : Txt W mg) (c_Sheet_page : Mt P w W mg base 13 "page" 1 1 m_Sheet_page) : Mt P w W mg base 14 "page" (2) 1 (funD 1 (d_Cursor_page m_Sheet_page)) :=
  ⟨⟨f, fd, ["self"], fnE F sc_Cursor_page rfl rfl fun cdv A outer sh H E hr => db_one (ds_ret (dmeth0 c_Sheet_page (de_fld rfl (dv 0) T.cl_Cursor T.na_Cursor_sheet) hr passD)), M, F.binds (ps := ["self"]) fun _ _ _ _ _ _ us hl => match us, hl with | [_], _ => rfl⟩, T.cl_Cursor⟩
theorem sc_Stretch_width : FnScope ["self", "style", "cell"] ["self", "style"] (defScope s_Stretch_width) := ⟨rfl, rfl, rfl, by decide +kernel, rfl, by decide +kernel, by decide +kernel⟩
theorem ok_Stretch_width {f : Addr} {fd : FuncData} (F : Fun W.K "width" "Stretch.width" s_Stretch_width f fd) (M : Meth W.K (W.cls 12) "width" f) (T : Txt W mg)  : Mt P w W mg base 12 "width" (1) 2 (funD 3 d_Stretch_width) :=
  ⟨⟨f, fd, ["self", "style"], fnE F sc_Stretch_width rfl rfl fun cdv A outer sh H E hr => db_one (ds_ret (de_callB (dc_max rfl) (by rfl) T.b_max (by decide +kernel) (da_cons (de_ix rfl (dv 1) (de_int) (fun _ _ => rfl)) (da_cons (de_op (dop_add false) (de_callB (dc_max rfl) (by rfl) T.b_max (by decide +kernel) (da_cons (de_lc false rfl sc_Stretch_width.nd (di_seq (de_fld rfl (dv 0) T.cl_Stretch T.na_Stretch_cells)) (by exact blkOk_by (N := ["self", "style", "cell"]) (sc := defScope s_Stretch_width) (own := [("cell", 2)]) (by decide +kernel)) rfl (by decide) (fun _ _ _ _ _ => tg_one sc_Stretch_width.nd rfl (by first | exact Or.inl rfl | exact Or.inr rfl)) (fun _ _ _ _ _ => dts_nil) (fun _ _ _ _ _ => de_callB dc_len (by rfl) T.b_len (by decide +kernel) (da_cons (dv 2) (da_nil)) (fun a b => pe_callB a (by rfl) T.b_len (by decide +kernel) b))) (da_nil)) (fun a b => pe_callB a (by rfl) T.b_max (by decide +kernel) b)) (de_ix rfl (dv 1) (de_int) (fun _ _ => rfl))) (da_nil))) (fun a b => pe_callB a (by rfl) T.b_max (by decide +kernel) b))), M, F.binds (ps := ["self", "style"]) fun _ _ _ _ _ _ us hl => match us, hl with | [_, _], _ => rfl⟩, T.cl_Stretch⟩
theorem sc_stops_by : FnScope ["rows", "style", "some", "widths", "one", "number", "found", "row", "lefts", "column"] ["rows", "style", "some"] (defScope s_stops_by) := ⟨rfl, rfl, rfl, by decide +kernel, rfl, by decide +kernel, by decide +kernel⟩
theorem ok_stops_by {m_Stretch_width : FV} {f : Addr} {fd : FuncData} (F : Fun W.K "stops_by" "stops_by" s_stops_by f fd) (m : mg "stops_by" = some (.ref f)) (T : Txt W mg) (c_Stretch_width : Mt P w W mg base 12 "width" 1 2 m_Stretch_width) : Fn P w W mg base "stops_by" (2) 3 (funD 10 (d_stops_by m_Stretch_width)) :=
  ⟨f, fd, ["rows", "style", "some"], fnE F sc_stops_by rfl rfl fun cdv A outer sh H E hr => db_cons (ds_set sc_stops_by.nd rfl (by first | exact Or.inl rfl | exact Or.inr rfl) (de_dictT)) (db_cons (ds_for passF rfl (di_seq (dv 2)) (dg_name sc_stops_by.nd rfl (by first | exact Or.inl rfl | exact Or.inr rfl)) (db_one (ds_for passF rfl (di_r2 (by rfl) T.b_range (da_cons (de_fld rfl (dv 4) T.cl_Stretch T.na_Stretch_begin) (da_cons (de_fld rfl (dv 4) T.cl_Stretch T.na_Stretch_end) (da_nil)))) (dg_name sc_stops_by.nd rfl (by first | exact Or.inl rfl | exact Or.inr rfl)) (db_one (ds_asg (dmeth c_Stretch_width (dv 4) hr passD (da_cons (dv 1) (da_nil))) (dg_sub (dv 3) (de_tup (da_cons (dv 5) (da_cons (de_fld rfl (dv 4) T.cl_Stretch T.na_Stretch_column) (da_nil)))) (dset_dict (Dl.hu_of hr)))))))) (db_cons (ds_set sc_stops_by.nd rfl (by first | exact Or.inl rfl | exact Or.inr rfl) (de_lst true (da_nil))) (db_cons (ds_for passF rfl (di_enum (by rfl) T.b_enumerate (da_cons (dv 0) (da_nil))) (dg_tup rfl (dgs_cons (dg_name sc_stops_by.nd rfl (by first | exact Or.inl rfl | exact Or.inr rfl)) (dgs_cons (dg_name sc_stops_by.nd rfl (by first | exact Or.inl rfl | exact Or.inr rfl)) (dgs_nil)))) (db_cons (ds_set sc_stops_by.nd rfl (by first | exact Or.inl rfl | exact Or.inr rfl) (de_lst true (da_cons (de_int) (da_nil)))) (db_cons (ds_for passF rfl (di_r1 (by rfl) T.b_range (da_cons (de_op dop_sub (de_callB dc_len (by rfl) T.b_len (by decide +kernel) (da_cons (dv 7) (da_nil)) (fun a b => pe_callB a (by rfl) T.b_len (by decide +kernel) b)) (de_int)) (da_nil))) (dg_name sc_stops_by.nd rfl (by first | exact Or.inl rfl | exact Or.inr rfl)) (db_one (ds_expr (de_mt PySem.F.plainAttrs_list PySem.F.slot_list_append PySem.F.type_list_append (dm_append) (dv 8) (da_cons (de_op (dop_add false) (de_ix rfl (dv 8) (de_neg (de_int)) (fun _ _ => rfl)) (de_dget (Dl.hu_of hr) (dv 3) (de_tup (da_cons (dv 5) (da_cons (dv 9) (da_nil)))) (fun _ _ => rfl))) (da_nil)) (fun a b c => pe_bm PySem.F.plainAttrs_list PySem.F.slot_list_append PySem.F.type_list_append a b c))))) (db_one (ds_expr (de_mt PySem.F.plainAttrs_list PySem.F.slot_list_append PySem.F.type_list_append (dm_append) (dv 6) (da_cons (dv 8) (da_nil)) (fun a b c => pe_bm PySem.F.plainAttrs_list PySem.F.slot_list_append PySem.F.type_list_append a b c))))))) (db_one (ds_ret (dv 6)))))), m, F.kp, F.binds (ps := ["rows", "style", "some"]) fun _ _ _ _ _ _ us hl => match us, hl with | [_, _, _], _ => rfl⟩
theorem sc_is_figures : FnScope ["cell", "rest", "sign"] ["cell"] (defScope s_is_figures) := ⟨rfl, rfl, rfl, by decide +kernel, rfl, by decide +kernel, by decide +kernel⟩
theorem ok_is_figures {f : Addr} {fd : FuncData} (F : Fun W.K "is_figures" "is_figures" s_is_figures f fd) (m : mg "is_figures" = some (.ref f)) (T : Txt W mg)  : Fn P w W mg base "is_figures" (1) 1 (funD 3 d_is_figures) :=
  ⟨f, fd, ["cell"], fnE F sc_is_figures rfl rfl fun cdv A outer sh H E hr => db_cons (ds_set sc_is_figures.nd rfl (by first | exact Or.inl rfl | exact Or.inr rfl) (de_if (dt_cmp (dop_eq rfl hr.units) (de_sl false rfl (dv 0) (dp_none) (dp_some (de_int))) (de_str (by decide +kernel) (by decide +kernel)) (nomark _)) (de_sl false rfl (dv 0) (dp_some (de_int)) (dp_none)) (dv 0))) (db_one (ds_ret (de_and (de_cmp (dop_ne rfl hr.units) (dv 1) (de_str (by decide +kernel) (by decide +kernel)) (nomark _)) (de_one (de_cmp (dop_eq rfl hr.units) (de_lc false rfl sc_is_figures.nd (di_seq (dv 1)) (by exact blkOk_by (N := ["cell", "rest", "sign"]) (sc := defScope s_is_figures) (own := [("sign", 2)]) (by decide +kernel)) rfl (by decide) (fun _ _ _ _ _ => tg_one sc_is_figures.nd rfl (by first | exact Or.inl rfl | exact Or.inr rfl)) (fun _ _ _ _ _ => dts_one (dt_cmp (dop_notin rfl) (dv 2) (de_globS rfl T.k_FIGURES.choose_spec (by decide +kernel) (by decide +kernel)) (by rfl))) (fun _ _ _ _ _ => dv 2)) (de_lst false (da_nil)) (nomark _)))))), m, F.kp, F.binds (ps := ["cell"]) fun _ _ _ _ _ _ us hl => match us, hl with | [_], _ => rfl⟩
theorem sc_Stretch_is_right : FnScope ["self", "full", "cell"] ["self"] (defScope s_Stretch_is_right) := ⟨rfl, rfl, rfl, by decide +kernel, rfl, by decide +kernel, by decide +kernel⟩
theorem ok_Stretch_is_right {m_is_figures : FV} {f : Addr} {fd : FuncData} (F : Fun W.K "is_right" "Stretch.is_right" s_Stretch_is_right f fd) (M : Meth W.K (W.cls 12) "is_right" f) (T : Txt W mg) (c_is_figures : Fn P w W mg base "is_figures" 1 1 m_is_figures) : Mt P w W mg base 12 "is_right" (2) 1 (funD 3 (d_Stretch_is_right m_is_figures)) :=
  ⟨⟨f, fd, ["self"], fnE F sc_Stretch_is_right rfl rfl fun cdv A outer sh H E hr => db_cons (ds_setLc false rfl sc_Stretch_is_right.nd rfl rfl (sw_true rfl rfl rfl (by decide +kernel)) (di_seq (de_fld rfl (dv 0) T.cl_Stretch T.na_Stretch_cells)) (by exact blkOk_by (N := ["self", "full", "cell"]) (sc := defScope s_Stretch_is_right) (own := [("cell", 2)]) (by decide +kernel)) rfl (by decide) (fun _ _ _ _ _ => tg_one sc_Stretch_is_right.nd rfl (by first | exact Or.inl rfl | exact Or.inr rfl)) (fun _ _ _ _ _ => dts_one (dt_cmp (dop_ne rfl hr.units) (dv 2) (de_str (by decide +kernel) (by decide +kernel)) (nomark _))) (fun _ _ _ _ _ => dv 2)) (db_one (ds_ret (de_and (de_cmp (dop_ne rfl hr.units) (dv 1) (de_lst false (da_nil)) (nomark _)) (de_one (de_cmp (dop_eq rfl hr.units) (de_lc false rfl sc_Stretch_is_right.nd (di_seq (dv 1)) (by exact blkOk_by (N := ["self", "full", "cell"]) (sc := defScope s_Stretch_is_right) (own := [("cell", 2)]) (by decide +kernel)) rfl (by decide) (fun _ _ _ _ _ => tg_one sc_Stretch_is_right.nd rfl (by first | exact Or.inl rfl | exact Or.inr rfl)) (fun _ _ _ _ _ => dts_one (dt_not (dt_val (dcall c_is_figures hr passL (da_cons (dv 2) (da_nil)))))) (fun _ _ _ _ _ => dv 2)) (de_lst false (da_nil)) (nomark _)))))), M, F.binds (ps := ["self"]) fun _ _ _ _ _ _ us hl => match us, hl with | [_], _ => rfl⟩, T.cl_Stretch⟩
theorem sc_begins_by : FnScope ["rows", "style", "some", "found", "one", "k", "row"] ["rows", "style", "some"] (defScope s_begins_by) := ⟨rfl, rfl, rfl, by decide +kernel, rfl, by decide +kernel, by decide +kernel⟩
theorem ok_begins_by {m_stops_by m_Stretch_is_right m_Stretch_width : FV} {f : Addr} {fd : FuncData} (F : Fun W.K "begins_by" "begins_by" s_begins_by f fd) (m : mg "begins_by" = some (.ref f)) (T : Txt W mg) (c_stops_by : Fn P w W mg base "stops_by" 2 3 m_stops_by) (c_Stretch_is_right : Mt P w W mg base 12 "is_right" 2 1 m_Stretch_is_right) (c_Stretch_width : Mt P w W mg base 12 "width" 1 2 m_Stretch_width) : Fn P w W mg base "begins_by" (3) 3 (funD 7 (d_begins_by m_stops_by m_Stretch_is_right m_Stretch_width)) :=
  ⟨f, fd, ["rows", "style", "some"], fnE F sc_begins_by rfl rfl fun cdv A outer sh H E hr => db_cons (ds_set sc_begins_by.nd rfl (by first | exact Or.inl rfl | exact Or.inr rfl) (dcall c_stops_by hr passD (da_cons (dv 0) (da_cons (dv 1) (da_cons (dv 2) (da_nil)))))) (db_cons (ds_for passF rfl (di_seq (dv 2)) (dg_name sc_begins_by.nd rfl (by first | exact Or.inl rfl | exact Or.inr rfl)) (db_one (ds_if (dt_val (dmeth0 c_Stretch_is_right (dv 4) hr passD)) (db_one (ds_for passF rfl (di_r1 (by rfl) T.b_range (da_cons (de_callB dc_len (by rfl) T.b_len (by decide +kernel) (da_cons (de_fld rfl (dv 4) T.cl_Stretch T.na_Stretch_cells) (da_nil)) (fun a b => pe_callB a (by rfl) T.b_len (by decide +kernel) b)) (da_nil))) (dg_name sc_begins_by.nd rfl (by first | exact Or.inl rfl | exact Or.inr rfl)) (db_cons (ds_set sc_begins_by.nd rfl (by first | exact Or.inl rfl | exact Or.inr rfl) (de_ix rfl (dv 3) (de_op (dop_add false) (de_fld rfl (dv 4) T.cl_Stretch T.na_Stretch_begin) (dv 5)) (fun _ _ => rfl))) (db_one (ds_asg (de_op dop_sub (de_op dop_sub (de_op (dop_add false) (de_ix rfl (dv 6) (de_fld rfl (dv 4) T.cl_Stretch T.na_Stretch_column) (fun _ _ => rfl)) (dmeth c_Stretch_width (dv 4) hr passD (da_cons (dv 1) (da_nil)))) (de_ix rfl (dv 1) (de_int) (fun _ _ => rfl))) (de_callB dc_len (by rfl) T.b_len (by decide +kernel) (da_cons (de_ix rfl (de_fld rfl (dv 4) T.cl_Stretch T.na_Stretch_cells) (dv 5) (fun _ _ => rfl)) (da_nil)) (fun a b => pe_callB a (by rfl) T.b_len (by decide +kernel) b))) (dg_sub (dv 6) (de_fld rfl (dv 4) T.cl_Stretch T.na_Stretch_column) dset_list)))))) (db_nil)))) (db_one (ds_ret (dv 3)))), m, F.kp, F.binds (ps := ["rows", "style", "some"]) fun _ _ _ _ _ _ us hl => match us, hl with | [_, _, _], _ => rfl⟩
theorem sc_Stretch_init : FnScope ["self", "column", "begin", "cells"] ["self", "column", "begin", "cells"] (defScope s_Stretch_init) := ⟨rfl, rfl, rfl, by decide +kernel, rfl, by decide +kernel, by decide +kernel⟩
theorem ok_Stretch_init {f : Addr} {fd : FuncData} (F : Fun W.K "__init__" "Stretch.__init__" s_Stretch_init f fd) (M : Mk W.K (W.cls 12) f) (m : mg "Stretch" = some (.ref (W.cls 12))) (T : Txt W mg)  : Nw P w W mg base "Stretch" 12 (1) 4 (funD 4 d_Stretch_init) :=
  ⟨f, fd, ["self", "column", "begin", "cells"], fnE F sc_Stretch_init rfl rfl fun cdv A outer sh H E hr => db_cons (ds_fld rfl (dv 0) (dv 1) T.cl_Stretch T.na_Stretch_column) (db_cons (ds_fld rfl (dv 0) (dv 2) T.cl_Stretch T.na_Stretch_begin) (db_cons (ds_fld rfl (dv 0) (de_op (dop_add false) (dv 2) (de_callB dc_len (by rfl) T.b_len (by decide +kernel) (da_cons (dv 3) (da_nil)) (fun a b => pe_callB a (by rfl) T.b_len (by decide +kernel) b))) T.cl_Stretch T.na_Stretch_end) (db_one (ds_fld rfl (dv 0) (dv 3) T.cl_Stretch T.na_Stretch_cells)))), M, m, F.binds (ps := ["self", "column", "begin", "cells"]) fun _ _ _ _ _ _ us hl => match us, hl with | [_, _, _, _], _ => rfl⟩
theorem sc_stretches_of : FnScope ["rows", "column", "begin", "end", "found", "first", "number", "is_closed", "k"] ["rows", "column", "begin", "end"] (defScope s_stretches_of) := ⟨rfl, rfl, rfl, by decide +kernel, rfl, by decide +kernel, by decide +kernel⟩
theorem ok_stretches_of {m_Stretch_init : FV} {f : Addr} {fd : FuncData} (F : Fun W.K "stretches_of" "stretches_of" s_stretches_of f fd) (m : mg "stretches_of" = some (.ref f)) (T : Txt W mg) (n_Stretch : Nw P w W mg base "Stretch" 12 1 4 m_Stretch_init) : Fn P w W mg base "stretches_of" (3) 4 (funD 9 (d_stretches_of m_Stretch_init)) :=
  ⟨f, fd, ["rows", "column", "begin", "end"], fnE F sc_stretches_of rfl rfl fun cdv A outer sh H E hr => db_cons (ds_set sc_stretches_of.nd rfl (by first | exact Or.inl rfl | exact Or.inr rfl) (de_lst true (da_nil))) (db_cons (ds_set sc_stretches_of.nd rfl (by first | exact Or.inl rfl | exact Or.inr rfl) (de_non)) (db_cons (ds_for passF rfl (di_r2 (by rfl) T.b_range (da_cons (dv 2) (da_cons (de_op (dop_add false) (dv 3) (de_int)) (da_nil)))) (dg_name sc_stretches_of.nd rfl (by first | exact Or.inl rfl | exact Or.inr rfl)) (db_cons (ds_set sc_stretches_of.nd rfl (by first | exact Or.inl rfl | exact Or.inr rfl) (de_and (de_cmp dop_lt (dv 6) (dv 3) (nomark _)) (de_one (de_cmp dop_gt (de_callB dc_len (by rfl) T.b_len (by decide +kernel) (da_cons (de_ix rfl (dv 0) (dv 6) (fun _ _ => rfl)) (da_nil)) (fun a b => pe_callB a (by rfl) T.b_len (by decide +kernel) b)) (de_op (dop_add false) (dv 1) (de_int)) (nomark _))))) (db_cons (ds_if (dt_w (dw_and (dt_val (dv 7)) (dw_and1 (dt_cmp dop_is (dv 5) (de_non) (nomark _))))) (db_one (ds_set sc_stretches_of.nd rfl (by first | exact Or.inl rfl | exact Or.inr rfl) (dv 6))) (db_nil)) (db_one (ds_if (dt_w (dw_and (dt_not (dt_val (dv 7))) (dw_and1 (dt_cmp dop_isnot (dv 5) (de_non) (nomark _))))) (db_cons (ds_expr (de_mt PySem.F.plainAttrs_list PySem.F.slot_list_append PySem.F.type_list_append (dm_append) (dv 4) (da_cons (dmake n_Stretch hr passD (da_cons (dv 1) (da_cons (dv 5) (da_cons (de_lc false rfl sc_stretches_of.nd (di_r2 (by rfl) T.b_range (da_cons (dv 5) (da_cons (dv 6) (da_nil)))) (by exact blkOk_by (N := ["rows", "column", "begin", "end", "found", "first", "number", "is_closed", "k"]) (sc := defScope s_stretches_of) (own := [("k", 8)]) (by decide +kernel)) rfl (by decide) (fun _ _ _ _ _ => tg_one sc_stretches_of.nd rfl (by first | exact Or.inl rfl | exact Or.inr rfl)) (fun _ _ _ _ _ => dts_nil) (fun _ _ _ _ _ => de_ix rfl (de_ix rfl (dv 0) (dv 8) (fun _ _ => rfl)) (dv 1) (fun _ _ => rfl))) (da_nil))))) (da_nil)) (fun a b c => pe_bm PySem.F.plainAttrs_list PySem.F.slot_list_append PySem.F.type_list_append a b c))) (db_one (ds_set sc_stretches_of.nd rfl (by first | exact Or.inl rfl | exact Or.inr rfl) (de_non)))) (db_nil)))))) (db_one (ds_ret (dv 4))))), m, F.kp, F.binds (ps := ["rows", "column", "begin", "end"]) fun _ _ _ _ _ _ us hl => match us, hl with | [_, _, _, _], _ => rfl⟩
theorem sc_all_stretches : FnScope ["rows", "found", "column"] ["rows"] (defScope s_all_stretches) := ⟨rfl, rfl, rfl, by decide +kernel, rfl, by decide +kernel, by decide +kernel⟩
theorem ok_all_stretches {m_stretches_of : FV} {f : Addr} {fd : FuncData} (F : Fun W.K "all_stretches" "all_stretches" s_all_stretches f fd) (m : mg "all_stretches" = some (.ref f)) (T : Txt W mg) (c_stretches_of : Fn P w W mg base "stretches_of" 3 4 m_stretches_of) : Fn P w W mg base "all_stretches" (4) 1 (funD 3 (d_all_stretches m_stretches_of)) :=
  ⟨f, fd, ["rows"], fnE F sc_all_stretches rfl rfl fun cdv A outer sh H E hr => db_cons (ds_set sc_all_stretches.nd rfl (by first | exact Or.inl rfl | exact Or.inr rfl) (de_lst true (da_nil))) (db_cons (ds_for passF rfl (di_r1 (by rfl) T.b_range (da_cons (de_op dop_sub (de_globI rfl T.k_MOST_CELLS.choose_spec) (de_int)) (da_nil))) (dg_name sc_all_stretches.nd rfl (by first | exact Or.inl rfl | exact Or.inr rfl)) (db_one (ds_expr (de_mt PySem.F.plainAttrs_list PySem.F.slot_list_extend PySem.F.type_list_extend (dm_extend) (dv 1) (da_cons (dcall c_stretches_of hr passD (da_cons (dv 0) (da_cons (dv 2) (da_cons (de_int) (da_cons (de_callB dc_len (by rfl) T.b_len (by decide +kernel) (da_cons (dv 0) (da_nil)) (fun a b => pe_callB a (by rfl) T.b_len (by decide +kernel) b)) (da_nil)))))) (da_nil)) (fun a b c => pe_bm PySem.F.plainAttrs_list PySem.F.slot_list_extend PySem.F.type_list_extend a b c))))) (db_one (ds_ret (dv 1)))), m, F.kp, F.binds (ps := ["rows"]) fun _ _ _ _ _ _ us hl => match us, hl with | [_], _ => rfl⟩
theorem sc_Sheet_back : FnScope ["self"] ["self"] (defScope s_Sheet_back) := ⟨rfl, rfl, rfl, by decide +kernel, rfl, by decide +kernel, by decide +kernel⟩
theorem ok_Sheet_back {m_begins_by m_all_stretches : FV} {f : Addr} {fd : FuncData} (F : Fun W.K "back" "Sheet.back" s_Sheet_back f fd) (M : Meth W.K (W.cls 13) "back" f) (T : Txt W mg) (c_begins_by : Fn P w W mg base "begins_by" 3 3 m_begins_by) (c_all_stretches : Fn P w W mg base "all_stretches" 4 1 m_all_stretches) : Mt P w W mg base 13 "back" (5) 1 (funD 1 (d_Sheet_back m_begins_by m_all_stretches)) :=
  ⟨⟨f, fd, ["self"], fnE F sc_Sheet_back rfl rfl fun cdv A outer sh H E hr => db_cons (ds_if (dt_cmp (dop_eq rfl hr.units) (de_fld rfl (dv 0) T.cl_Sheet T.na_Sheet_past) (de_lst false (da_nil)) (nomark _)) (db_one (ds_ret (de_bl))) (db_nil)) (db_cons (ds_fld rfl (dv 0) (de_mt0 PySem.F.plainAttrs_list PySem.F.slot_list_pop PySem.F.type_list_pop (dm_pop) (de_fld rfl (dv 0) T.cl_Sheet T.na_Sheet_past) (fun a b => pe_bm0 PySem.F.plainAttrs_list PySem.F.slot_list_pop PySem.F.type_list_pop a b)) T.cl_Sheet T.na_Sheet_rows) (db_cons (ds_fld rfl (dv 0) (dcall c_begins_by hr passD (da_cons (de_fld rfl (dv 0) T.cl_Sheet T.na_Sheet_rows) (da_cons (de_fld rfl (dv 0) T.cl_Sheet T.na_Sheet_style) (da_cons (dcall c_all_stretches hr passD (da_cons (de_fld rfl (dv 0) T.cl_Sheet T.na_Sheet_rows) (da_nil))) (da_nil))))) T.cl_Sheet T.na_Sheet_lefts) (db_one (ds_ret (de_bl))))), M, F.binds (ps := ["self"]) fun _ _ _ _ _ _ us hl => match us, hl with | [_], _ => rfl⟩, T.cl_Sheet⟩
theorem sc_Cursor_back : FnScope ["self"] ["self"] (defScope s_Cursor_back) := ⟨rfl, rfl, rfl, by decide +kernel, rfl, by decide +kernel, by decide +kernel⟩
theorem ok_Cursor_back {m_Cursor_go m_Sheet_back : FV} {f : Addr} {fd : FuncData} (F : Fun W.K "back" "Cursor.back" s_Cursor_back f fd) (M : Meth W.K (W.cls 14) "back" f) (T : Txt W mg) (c_Cursor_go : Mt P w W mg base 14 "go" 2 4 m_Cursor_go) (c_Sheet_back : Mt P w W mg base 13 "back" 5 1 m_Sheet_back) : Mt P w W mg base 14 "back" (6) 1 (funD 1 (d_Cursor_back m_Cursor_go m_Sheet_back)) :=
  ⟨⟨f, fd, ["self"], fnE F sc_Cursor_back rfl rfl fun cdv A outer sh H E hr => db_cons (ds_expr (dmeth c_Cursor_go (dv 0) hr passD (da_cons (de_int) (da_cons (de_int) (da_cons (de_int) (da_nil)))))) (db_one (ds_ret (dmeth0 c_Sheet_back (de_fld rfl (dv 0) T.cl_Cursor T.na_Cursor_sheet) hr passD))), M, F.binds (ps := ["self"]) fun _ _ _ _ _ _ us hl => match us, hl with | [_], _ => rfl⟩, T.cl_Cursor⟩
theorem sc_is_sign : FnScope ["sign"] ["sign"] (defScope s_is_sign) := ⟨rfl, rfl, rfl, by decide +kernel, rfl, by decide +kernel, by decide +kernel⟩
theorem ok_is_sign {f : Addr} {fd : FuncData} (F : Fun W.K "is_sign" "is_sign" s_is_sign f fd) (m : mg "is_sign" = some (.ref f)) (T : Txt W mg)  : Fn P w W mg base "is_sign" (1) 1 (funD 1 d_is_sign) :=
  ⟨f, fd, ["sign"], fnE F sc_is_sign rfl rfl fun cdv A outer sh H E hr => db_one (ds_ret (de_and (de_chain dop_le dop_le (de_globS rfl T.k_FIRST_SIGN.choose_spec (by decide +kernel) (by decide +kernel)) (dv 0) (de_globS rfl T.k_LAST_SIGN.choose_spec (by decide +kernel) (by decide +kernel)) (by with_unfolding_all rfl)) (de_one (de_cmp (dop_ne rfl hr.units) (de_callB dc_ord (by rfl) T.b_ord (by decide +kernel) (da_cons (dv 0) (da_nil)) (fun a b => pe_callB a (by rfl) T.b_ord (by decide +kernel) b)) (de_globI rfl T.k_BARRED.choose_spec) (nomark _))))), m, F.kp, F.binds (ps := ["sign"]) fun _ _ _ _ _ _ us hl => match us, hl with | [_], _ => rfl⟩
theorem sc_is_cell : FnScope ["cell", "sign"] ["cell"] (defScope s_is_cell) := ⟨rfl, rfl, rfl, by decide +kernel, rfl, by decide +kernel, by decide +kernel⟩
theorem ok_is_cell {m_is_sign : FV} {f : Addr} {fd : FuncData} (F : Fun W.K "is_cell" "is_cell" s_is_cell f fd) (m : mg "is_cell" = some (.ref f)) (T : Txt W mg) (c_is_sign : Fn P w W mg base "is_sign" 1 1 m_is_sign) : Fn P w W mg base "is_cell" (2) 1 (funD 2 (d_is_cell m_is_sign)) :=
  ⟨f, fd, ["cell"], fnE F sc_is_cell rfl rfl fun cdv A outer sh H E hr => db_cons (ds_if (dt_w (dw_or (dt_not (dt_val (de_isinst (by simp) (dv 0) (pe_bltn (by rfl) T.b_str (by decide +kernel) rfl) (fun a b => pe_callB a (by rfl) T.b_isinstance (by decide +kernel) b) (fun p => pa_cons p (pa_cons (pe_bltn (by rfl) T.b_str (by decide +kernel) rfl) pa_nil))))) (dw_or1 (dt_cmp dop_gt (de_callB dc_len (by rfl) T.b_len (by decide +kernel) (da_cons (dv 0) (da_nil)) (fun a b => pe_callB a (by rfl) T.b_len (by decide +kernel) b)) (de_globI rfl T.k_MOST_SIGNS.choose_spec) (nomark _))))) (db_one (ds_ret (de_bl))) (db_nil)) (db_one (ds_ret (de_cmp (dop_eq rfl hr.units) (de_lc false rfl sc_is_cell.nd (di_seq (dv 0)) (by exact blkOk_by (N := ["cell", "sign"]) (sc := defScope s_is_cell) (own := [("sign", 1)]) (by decide +kernel)) rfl (by decide) (fun _ _ _ _ _ => tg_one sc_is_cell.nd rfl (by first | exact Or.inl rfl | exact Or.inr rfl)) (fun _ _ _ _ _ => dts_one (dt_not (dt_val (dcall c_is_sign hr passL (da_cons (dv 1) (da_nil)))))) (fun _ _ _ _ _ => dv 1)) (de_lst false (da_nil)) (nomark _)))), m, F.kp, F.binds (ps := ["cell"]) fun _ _ _ _ _ _ us hl => match us, hl with | [_], _ => rfl⟩
theorem sc_is_row : FnScope ["row", "cell"] ["row"] (defScope s_is_row) := ⟨rfl, rfl, rfl, by decide +kernel, rfl, by decide +kernel, by decide +kernel⟩
theorem ok_is_row {m_is_cell : FV} {f : Addr} {fd : FuncData} (F : Fun W.K "is_row" "is_row" s_is_row f fd) (m : mg "is_row" = some (.ref f)) (T : Txt W mg) (c_is_cell : Fn P w W mg base "is_cell" 2 1 m_is_cell) : Fn P w W mg base "is_row" (3) 1 (funD 2 (d_is_row m_is_cell)) :=
  ⟨f, fd, ["row"], fnE F sc_is_row rfl rfl fun cdv A outer sh H E hr => db_cons (ds_if (dt_w (dw_or (dt_not (dt_val (de_isinst (by simp) (dv 0) (pe_bltn (by rfl) T.b_tuple (by decide +kernel) rfl) (fun a b => pe_callB a (by rfl) T.b_isinstance (by decide +kernel) b) (fun p => pa_cons p (pa_cons (pe_bltn (by rfl) T.b_tuple (by decide +kernel) rfl) pa_nil))))) (dw_or1 (dt_not (dt_chain dop_le dop_le (de_int) (de_callB dc_len (by rfl) T.b_len (by decide +kernel) (da_cons (dv 0) (da_nil)) (fun a b => pe_callB a (by rfl) T.b_len (by decide +kernel) b)) (de_globI rfl T.k_MOST_CELLS.choose_spec) (by with_unfolding_all rfl)))))) (db_one (ds_ret (de_bl))) (db_nil)) (db_one (ds_ret (de_cmp (dop_eq rfl hr.units) (de_lc false rfl sc_is_row.nd (di_seq (dv 0)) (by exact blkOk_by (N := ["row", "cell"]) (sc := defScope s_is_row) (own := [("cell", 1)]) (by decide +kernel)) rfl (by decide) (fun _ _ _ _ _ => tg_one sc_is_row.nd rfl (by first | exact Or.inl rfl | exact Or.inr rfl)) (fun _ _ _ _ _ => dts_one (dt_not (dt_val (dcall c_is_cell hr passL (da_cons (dv 1) (da_nil)))))) (fun _ _ _ _ _ => dv 1)) (de_lst false (da_nil)) (nomark _)))), m, F.kp, F.binds (ps := ["row"]) fun _ _ _ _ _ _ us hl => match us, hl with | [_], _ => rfl⟩
theorem sc_need_page : FnScope ["page", "number", "row"] ["page"] (defScope s_need_page) := ⟨rfl, rfl, rfl, by decide +kernel, rfl, by decide +kernel, by decide +kernel⟩
theorem ok_need_page {m_is_row : FV} {f : Addr} {fd : FuncData} (F : Fun W.K "need_page" "need_page" s_need_page f fd) (m : mg "need_page" = some (.ref f)) (T : Txt W mg) (c_is_row : Fn P w W mg base "is_row" 3 1 m_is_row) : Fn P w W mg base "need_page" (4) 1 (funD 3 (d_need_page m_is_row)) :=
  ⟨f, fd, ["page"], fnE F sc_need_page rfl rfl fun cdv A outer sh H E hr => db_cons (ds_if (dt_w (dw_or (dt_not (dt_val (de_isinst (by simp) (dv 0) (pe_bltn (by rfl) T.b_list (by decide +kernel) rfl) (fun a b => pe_callB a (by rfl) T.b_isinstance (by decide +kernel) b) (fun p => pa_cons p (pa_cons (pe_bltn (by rfl) T.b_list (by decide +kernel) rfl) pa_nil))))) (dw_or1 (dt_cmp (dop_eq rfl hr.units) (dv 0) (de_lst false (da_nil)) (nomark _))))) (db_one (ds_bad)) (db_nil)) (db_one (ds_for passF rfl (di_enum (by rfl) T.b_enumerate (da_cons (dv 0) (da_nil))) (dg_tup rfl (dgs_cons (dg_name sc_need_page.nd rfl (by first | exact Or.inl rfl | exact Or.inr rfl)) (dgs_cons (dg_name sc_need_page.nd rfl (by first | exact Or.inl rfl | exact Or.inr rfl)) (dgs_nil)))) (db_one (ds_if (dt_w (dw_or (dt_cmp dop_ge (dv 1) (de_globI rfl T.k_MOST_ROWS.choose_spec) (nomark _)) (dw_or1 (dt_not (dt_val (dcall c_is_row hr passD (da_cons (dv 2) (da_nil)))))))) (db_one (ds_bad)) (db_nil))))), m, F.kp, F.binds (ps := ["page"]) fun _ _ _ _ _ _ us hl => match us, hl with | [_], _ => rfl⟩
theorem sc_is_number : FnScope ["part", "low", "high"] ["part", "low", "high"] (defScope s_is_number) := ⟨rfl, rfl, rfl, by decide +kernel, rfl, by decide +kernel, by decide +kernel⟩
theorem ok_is_number {f : Addr} {fd : FuncData} (F : Fun W.K "is_number" "is_number" s_is_number f fd) (m : mg "is_number" = some (.ref f)) (T : Txt W mg)  : Fn P w W mg base "is_number" (1) 3 (funD 3 d_is_number) :=
  ⟨f, fd, ["part", "low", "high"], fnE F sc_is_number rfl rfl fun cdv A outer sh H E hr => db_one (ds_ret (de_and (de_isinst (by simp) (dv 0) (pe_bltn (by rfl) T.b_int (by decide +kernel) rfl) (fun a b => pe_callB a (by rfl) T.b_isinstance (by decide +kernel) b) (fun p => pa_cons p (pa_cons (pe_bltn (by rfl) T.b_int (by decide +kernel) rfl) pa_nil))) (de_and (de_not (de_isinst (by simp) (dv 0) (pe_bltn (by rfl) T.b_bool (by decide +kernel) rfl) (fun a b => pe_callB a (by rfl) T.b_isinstance (by decide +kernel) b) (fun p => pa_cons p (pa_cons (pe_bltn (by rfl) T.b_bool (by decide +kernel) rfl) pa_nil)))) (de_one (de_chain dop_le dop_le (dv 1) (dv 0) (dv 2) (by with_unfolding_all rfl)))))), m, F.kp, F.binds (ps := ["part", "low", "high"]) fun _ _ _ _ _ _ us hl => match us, hl with | [_, _, _], _ => rfl⟩
theorem sc_need_style : FnScope ["style"] ["style"] (defScope s_need_style) := ⟨rfl, rfl, rfl, by decide +kernel, rfl, by decide +kernel, by decide +kernel⟩
theorem ok_need_style {m_is_number : FV} {f : Addr} {fd : FuncData} (F : Fun W.K "need_style" "need_style" s_need_style f fd) (m : mg "need_style" = some (.ref f)) (T : Txt W mg) (c_is_number : Fn P w W mg base "is_number" 1 3 m_is_number) : Fn P w W mg base "need_style" (2) 1 (funD 1 (d_need_style m_is_number)) :=
  ⟨f, fd, ["style"], fnE F sc_need_style rfl rfl fun cdv A outer sh H E hr => db_cons (ds_if (dt_w (dw_or (dt_not (dt_val (de_isinst (by simp) (dv 0) (pe_bltn (by rfl) T.b_tuple (by decide +kernel) rfl) (fun a b => pe_callB a (by rfl) T.b_isinstance (by decide +kernel) b) (fun p => pa_cons p (pa_cons (pe_bltn (by rfl) T.b_tuple (by decide +kernel) rfl) pa_nil))))) (dw_or1 (dt_cmp (dop_ne rfl hr.units) (de_callB dc_len (by rfl) T.b_len (by decide +kernel) (da_cons (dv 0) (da_nil)) (fun a b => pe_callB a (by rfl) T.b_len (by decide +kernel) b)) (de_int) (nomark _))))) (db_one (ds_bad)) (db_nil)) (db_one (ds_if (dt_w (dw_or (dt_not (dt_val (dcall c_is_number hr passD (da_cons (de_ix rfl (dv 0) (de_int) (fun _ _ => rfl)) (da_cons (de_int) (da_cons (de_globI rfl T.k_MOST_GAP.choose_spec) (da_nil))))))) (dw_or1 (dt_not (dt_val (dcall c_is_number hr passD (da_cons (de_ix rfl (dv 0) (de_int) (fun _ _ => rfl)) (da_cons (de_int) (da_cons (de_globI rfl T.k_MOST_LEAST.choose_spec) (da_nil)))))))))) (db_one (ds_bad)) (db_nil))), m, F.kp, F.binds (ps := ["style"]) fun _ _ _ _ _ _ us hl => match us, hl with | [_], _ => rfl⟩
theorem sc_Sheet_init : FnScope ["self", "page", "style"] ["self", "page", "style"] (defScope s_Sheet_init) := ⟨rfl, rfl, rfl, by decide +kernel, rfl, by decide +kernel, by decide +kernel⟩
theorem ok_Sheet_init {m_need_page m_need_style m_begins_by m_all_stretches : FV} {f : Addr} {fd : FuncData} (F : Fun W.K "__init__" "Sheet.__init__" s_Sheet_init f fd) (M : Mk W.K (W.cls 13) f) (m : mg "Sheet" = some (.ref (W.cls 13))) (T : Txt W mg) (c_need_page : Fn P w W mg base "need_page" 4 1 m_need_page) (c_need_style : Fn P w W mg base "need_style" 2 1 m_need_style) (c_begins_by : Fn P w W mg base "begins_by" 3 3 m_begins_by) (c_all_stretches : Fn P w W mg base "all_stretches" 4 1 m_all_stretches) : Nw P w W mg base "Sheet" 13 (5) 3 (funD 3 (d_Sheet_init m_need_page m_need_style m_begins_by m_all_stretches)) :=
  ⟨f, fd, ["self", "page", "style"], fnE F sc_Sheet_init rfl rfl fun cdv A outer sh H E hr => db_cons (ds_expr (dcall c_need_page hr passD (da_cons (dv 1) (da_nil)))) (db_cons (ds_expr (dcall c_need_style hr passD (da_cons (dv 2) (da_nil)))) (db_cons (ds_fld rfl (dv 0) (de_callTy (dc_list false) (by rfl) T.b_list (by decide +kernel) (da_cons (dv 1) (da_nil)) (fun a b => pe_callTy a (by rfl) T.b_list (by decide +kernel) b)) T.cl_Sheet T.na_Sheet_rows) (db_cons (ds_fld rfl (dv 0) (dv 2) T.cl_Sheet T.na_Sheet_style) (db_cons (ds_fld rfl (dv 0) (dcall c_begins_by hr passD (da_cons (de_fld rfl (dv 0) T.cl_Sheet T.na_Sheet_rows) (da_cons (dv 2) (da_cons (dcall c_all_stretches hr passD (da_cons (de_fld rfl (dv 0) T.cl_Sheet T.na_Sheet_rows) (da_nil))) (da_nil))))) T.cl_Sheet T.na_Sheet_lefts) (db_one (ds_fld rfl (dv 0) (de_lst true (da_nil)) T.cl_Sheet T.na_Sheet_past)))))), M, m, F.binds (ps := ["self", "page", "style"]) fun _ _ _ _ _ _ us hl => match us, hl with | [_, _, _], _ => rfl⟩
theorem sc_Cursor_init : FnScope ["self", "page", "style"] ["self", "page", "style"] (defScope s_Cursor_init) := ⟨rfl, rfl, rfl, by decide +kernel, rfl, by decide +kernel, by decide +kernel⟩
theorem ok_Cursor_init {m_Sheet_init : FV} {f : Addr} {fd : FuncData} (F : Fun W.K "__init__" "Cursor.__init__" s_Cursor_init f fd) (M : Mk W.K (W.cls 14) f) (m : mg "Cursor" = some (.ref (W.cls 14))) (T : Txt W mg) (n_Sheet : Nw P w W mg base "Sheet" 13 5 3 m_Sheet_init) : Nw P w W mg base "Cursor" 14 (7) 3 (funD 3 (d_Cursor_init m_Sheet_init)) :=
  ⟨f, fd, ["self", "page", "style"], fnE F sc_Cursor_init rfl rfl fun cdv A outer sh H E hr => db_cons (ds_fld rfl (dv 0) (dmake n_Sheet hr passD (da_cons (dv 1) (da_cons (dv 2) (da_nil)))) T.cl_Cursor T.na_Cursor_sheet) (db_cons (ds_fld rfl (dv 0) (de_int) T.cl_Cursor T.na_Cursor_number) (db_cons (ds_fld rfl (dv 0) (de_int) T.cl_Cursor T.na_Cursor_cell) (db_one (ds_fld rfl (dv 0) (de_int) T.cl_Cursor T.na_Cursor_place)))), M, m, F.binds (ps := ["self", "page", "style"]) fun _ _ _ _ _ _ us hl => match us, hl with | [_, _, _], _ => rfl⟩
theorem sc_law : FnScope ["_law_script", "_law_box", "_law_rows", "_law_style_here", "_law_begins_here", "_law_handed", "_law_cursor", "_law_at", "_law_turn", "_law_way", "_law_again", "_law_later", "_law_aside"] ["_law_script"] (defScope s_law) := ⟨rfl, rfl, rfl, by decide +kernel, rfl, by decide +kernel, by decide +kernel⟩
theorem ok_law {m_law_begun m_law_page m_law_take m_law_style m_law_begins m_law_alike m_Cursor_at m_law_gone m_law_went m_Cursor_aside m_Cursor_page m_Cursor_back m_Cursor_init : FV} {f : Addr} {fd : FuncData} (F : Fun W.K "law" "law" s_law f fd) (T : Txt W mg) (c_law_begun : Fn P w W mg base "_law_begun" 1 1 m_law_begun) (c_law_page : Fn P w W mg base "_law_page" 5 2 m_law_page) (c_law_take : Fn P w W mg base "_law_take" 1 2 m_law_take) (c_law_style : Fn P w W mg base "_law_style" 2 1 m_law_style) (c_law_begins : Fn P w W mg base "_law_begins" 4 2 m_law_begins) (c_law_alike : Fn P w W mg base "_law_alike" 8 2 m_law_alike) (c_Cursor_at : Mt P w W mg base 14 "at" 1 1 m_Cursor_at) (c_law_gone : Fn P w W mg base "_law_gone" 2 4 m_law_gone) (c_law_went : Fn P w W mg base "_law_went" 5 2 m_law_went) (c_Cursor_aside : Mt P w W mg base 14 "aside" 1 1 m_Cursor_aside) (c_Cursor_page : Mt P w W mg base 14 "page" 2 1 m_Cursor_page) (c_Cursor_back : Mt P w W mg base 14 "back" 6 1 m_Cursor_back) (n_Cursor : Nw P w W mg base "Cursor" 14 7 3 m_Cursor_init) : FnOk P w W.K mg base (L2.CX P w) 9 f fd ["_law_script"] (spD W 1 (funD 13 (d_law_k14 m_law_begun m_law_page m_law_take m_law_style m_law_begins m_law_alike m_Cursor_at m_law_gone m_law_went m_Cursor_aside m_Cursor_page m_Cursor_back m_Cursor_init))) :=
  fnE F sc_law rfl rfl fun cdv A outer sh H E hr => db_cons (ds_set sc_law.nd rfl (by first | exact Or.inl rfl | exact Or.inr rfl) (dcall c_law_begun hr passD (da_cons (dv 0) (da_nil)))) (db_cons (ds_par rfl sc_law.nd rfl rfl (by decide) rfl rfl (da_cons (dcall c_law_page hr passD (da_cons (dv 1) (da_cons (de_ix rfl (de_lst false (da_cons (de_int) (da_cons (de_int) (da_cons (de_int) (da_nil))))) (dcall c_law_take hr passD (da_cons (dv 1) (da_cons (de_int) (da_nil)))) (fun _ _ => rfl)) (da_nil)))) (da_cons (dcall c_law_style hr passD (da_cons (dv 1) (da_nil))) (da_nil))) (by rfl)) (db_cons (ds_set sc_law.nd rfl (by first | exact Or.inl rfl | exact Or.inr rfl) (dcall c_law_begins hr passD (da_cons (dv 2) (da_cons (dv 3) (da_nil))))) (db_cons (ds_set sc_law.nd rfl (by first | exact Or.inl rfl | exact Or.inr rfl) (de_callTy (dc_list true) (by rfl) T.b_list (by decide +kernel) (da_cons (dv 2) (da_nil)) (fun a b => pe_callTy a (by rfl) T.b_list (by decide +kernel) b))) (db_cons (ds_set sc_law.nd rfl (by first | exact Or.inl rfl | exact Or.inr rfl) (dmake n_Cursor hr passD (da_cons (dv 5) (da_cons (dv 3) (da_nil))))) (db_cons (ds_expr (de_mt0 PySem.F.plainAttrs_list PySem.F.slot_list_clear PySem.F.type_list_clear (dm_clear) (dv 5) (fun a b => pe_bm0 PySem.F.plainAttrs_list PySem.F.slot_list_clear PySem.F.type_list_clear a b))) (db_cons (ds_set sc_law.nd rfl (by first | exact Or.inl rfl | exact Or.inr rfl) (de_tup (da_cons (de_int) (da_cons (de_int) (da_cons (de_int) (da_nil)))))) (db_cons (ds_if (dt_not (dt_val (dcall c_law_alike hr passD (da_cons (dmeth0 c_Cursor_at (dv 6) hr passD) (da_cons (dv 7) (da_nil)))))) (db_one (ds_ret (de_bl))) (db_nil)) (db_cons (ds_for passF rfl (di_r1 (by rfl) T.b_range (da_cons (dcall c_law_take hr passD (da_cons (dv 1) (da_cons (de_int) (da_nil)))) (da_nil))) (dg_name sc_law.nd rfl (by first | exact Or.inl rfl | exact Or.inr rfl)) (db_cons (ds_set sc_law.nd rfl (by first | exact Or.inl rfl | exact Or.inr rfl) (de_ix rfl (de_lst false (da_cons (de_str (by decide +kernel) (by decide +kernel)) (da_cons (de_str (by decide +kernel) (by decide +kernel)) (da_cons (de_str (by decide +kernel) (by decide +kernel)) (da_cons (de_str (by decide +kernel) (by decide +kernel)) (da_cons (de_str (by decide +kernel) (by decide +kernel)) (da_cons (de_str (by decide +kernel) (by decide +kernel)) (da_nil)))))))) (dcall c_law_take hr passD (da_cons (dv 1) (da_cons (de_int) (da_nil)))) (fun _ _ => rfl))) (db_one (ds_for passF rfl (di_r1 (by rfl) T.b_range (da_cons (de_ix rfl (de_lst false (da_cons (de_int) (da_cons (de_op (dop_add false) (de_int) (dcall c_law_take hr passD (da_cons (dv 1) (da_cons (de_int) (da_nil))))) (da_nil)))) (dcall c_law_take hr passD (da_cons (dv 1) (da_cons (de_int) (da_nil)))) (fun _ _ => rfl)) (da_nil))) (dg_name sc_law.nd rfl (by first | exact Or.inl rfl | exact Or.inr rfl)) (db_cons (ds_set sc_law.nd rfl (by first | exact Or.inl rfl | exact Or.inr rfl) (dcall c_law_gone hr passD (da_cons (dv 2) (da_cons (dv 4) (da_cons (dv 7) (da_cons (dv 9) (da_nil))))))) (db_cons (ds_if (dt_not (dt_val (dcall c_law_alike hr passD (da_cons (dcall c_law_went hr passD (da_cons (dv 6) (da_cons (dv 9) (da_nil)))) (da_cons (de_cmp (dop_ne rfl hr.units) (dv 11) (dv 7) (nomark _)) (da_nil)))))) (db_one (ds_ret (de_bl))) (db_nil)) (db_cons (ds_set sc_law.nd rfl (by first | exact Or.inl rfl | exact Or.inr rfl) (dv 11)) (db_cons (ds_set sc_law.nd rfl (by first | exact Or.inl rfl | exact Or.inr rfl) (de_op (dop_add false) (de_ix rfl (de_ix rfl (dv 4) (de_ix rfl (dv 7) (de_int) (fun _ _ => rfl)) (fun _ _ => rfl)) (de_ix rfl (dv 7) (de_int) (fun _ _ => rfl)) (fun _ _ => rfl)) (de_ix rfl (dv 7) (de_int) (fun _ _ => rfl)))) (db_one (ds_if (dt_not (dt_val (dcall c_law_alike hr passD (da_cons (de_lst false (da_cons (dmeth0 c_Cursor_at (dv 6) hr passD) (da_cons (dmeth0 c_Cursor_aside (dv 6) hr passD) (da_nil)))) (da_cons (de_lst false (da_cons (dv 7) (da_cons (dv 12) (da_nil)))) (da_nil)))))) (db_one (ds_ret (de_bl))) (db_nil))))))))))) (db_one (ds_ret (de_and (de_cmp (dop_eq rfl hr.units) (dmeth0 c_Cursor_page (dv 6) hr passD) (dv 2) (nomark _)) (de_and (de_cmp dop_is (dmeth0 c_Cursor_back (dv 6) hr passD) (de_bl) (nomark _)) (de_one (de_cmp (dop_eq rfl hr.units) (dmeth0 c_Cursor_at (dv 6) hr passD) (de_tup (da_cons (de_int) (da_cons (de_int) (da_cons (de_int) (da_nil))))) (nomark _)))))))))))))))
end
theorem all_mk {l : PySem.W.OpenLaw} {w : World} {K : PySem.W.Frag} {h : Heap} {mg : Str → Option Value} {fa C1 C2 C3 f1 f2 f3 f4 f5 f6 f7 f8 f9 f10 f11 f12 f13 f14 f15 f16 f17 f18 f19 f20 f21 f22 f23 f24 f25 f26 f27 f28 f29 f30 f31 f32 f33 f34 f35 f36 f37 f38 f39 f40 f41 f42 f43 f44 f45 f46 f47 f48 f49 : Addr} (HT : ∀ ns : List Int, ns.length ≤ 63 → ∃ st, m_law_k14 [.scr ns] [] = .ok (.bl true, st)) (X : K.In h) (G : h.Ns mainGlobals mg) (hfa : mg "law" = some (.ref fa))
    {od1 od2 od3 od4 od5 od6 od7 od8 od9 od10 od11 od12 od13 od14 od15 od16 od17 od18 od19 od20 od21 od22 od23 od24 od25 od26 od27 od28 od29 od30 od31 od32 od33 od34 od35 od36 od37 od38 od39 od40 od41 od42 od43 od44 od45 od46 od47 od48 od49 an1 an2 an3 an4 an5 an6 an7 an8 an9 an10 an11 an12 an13 an14 an15 an16 an17 an18 an19 an20 an21 an22 an23 an24 an25 an26 an27 an28 an29 an30 an31 an32 an33 an34 an35 an36 an37 an38 an39 an40 an41 an42 an43 an44 an45 an46 an47 an48 an49 : Option Addr} {sl1 sl2 sl3 sl4 sl5 sl6 sl7 sl8 sl9 sl10 sl11 sl12 sl13 sl14 sl15 sl16 sl17 sl18 sl19 sl20 sl21 sl22 sl23 sl24 sl25 sl26 sl27 sl28 sl29 sl30 sl31 sl32 sl33 sl34 sl35 sl36 sl37 sl38 sl39 sl40 sl41 sl42 sl43 sl44 sl45 sl46 sl47 sl48 sl49 : Array (Option Value)} {oc1 oc2 oc3 oc4 oc5 oc6 oc7 oc8 oc9 oc10 oc11 oc12 oc13 oc14 oc15 oc16 oc17 oc18 oc19 oc20 oc21 oc22 oc23 oc24 oc25 oc26 oc27 oc28 oc29 oc30 oc31 oc32 oc33 oc34 oc35 oc36 oc37 oc38 oc39 oc40 oc41 oc42 oc43 oc44 oc45 oc46 oc47 oc48 oc49 kV1 kV2 kV3 kV4 kV5 kV6 kV7 kV8 kV9 kV10 kV11 kV12 kV13 kV14 kV15 kV16 kV17 kV18 kV19 kV20 kV21 kV22 kV23 kV24 kV25 kV26 kV27 kV28 kV29 kV30 kV31 kV32 kV33 kV34 kV35 kV36 kV37 kV38 kV39 kV40 kV41 kV42 kV43 kV44 kV45 kV46 kV47 kV48 kV49 dc1 dc2 dc3 dc4 dc5 dc6 dc7 dc8 dc9 dc10 dc11 dc12 dc13 dc14 dc15 dc16 dc17 dc18 dc19 dc20 dc21 dc22 dc23 dc24 dc25 dc26 dc27 dc28 dc29 dc30 dc31 dc32 dc33 dc34 dc35 dc36 dc37 dc38 dc39 dc40 dc41 dc42 dc43 dc44 dc45 dc46 dc47 dc48 dc49 pm1 pm2 pm3 pm4 pm5 pm6 pm7 pm8 pm9 pm10 pm11 pm12 pm13 pm14 pm15 pm16 pm17 pm18 pm19 pm20 pm21 pm22 pm23 pm24 pm25 pm26 pm27 pm28 pm29 pm30 pm31 pm32 pm33 pm34 pm35 pm36 pm37 pm38 pm39 pm40 pm41 pm42 pm43 pm44 pm45 pm46 pm47 pm48 pm49 cd1 cd2 cd3 cd4 cd5 cd6 cd7 cd8 cd9 cd10 cd11 cd12 cd13 cd14 cd15 cd16 cd17 cd18 cd19 cd20 cd21 cd22 cd23 cd24 cd25 cd26 cd27 cd28 cd29 cd30 cd31 cd32 cd33 cd34 cd35 cd36 cd37 cd38 cd39 cd40 cd41 cd42 cd43 cd44 cd45 cd46 cd47 cd48 cd49 ct1 ct2 ct3 ct4 ct5 ct6 ct7 ct8 ct9 ct10 ct11 ct12 ct13 ct14 ct15 ct16 ct17 ct18 ct19 ct20 ct21 ct22 ct23 ct24 ct25 ct26 ct27 ct28 ct29 ct30 ct31 ct32 ct33 ct34 ct35 ct36 ct37 ct38 ct39 ct40 ct41 ct42 ct43 ct44 ct45 ct46 ct47 ct48 ct49 : Value} {t_FIGURES t_MOST_CELLS t_FIRST_SIGN t_LAST_SIGN t_BARRED t_MOST_SIGNS t_MOST_ROWS t_MOST_GAP t_MOST_LEAST : Tok}
    (zb_len : PySem.W.nsIn K mainGlobals "len" = some none)
    (zb_int : PySem.W.nsIn K mainGlobals "int" = some none)
    (zb_list : PySem.W.nsIn K mainGlobals "list" = some none)
    (zb_str : PySem.W.nsIn K mainGlobals "str" = some none)
    (zb_range : PySem.W.nsIn K mainGlobals "range" = some none)
    (zb_tuple : PySem.W.nsIn K mainGlobals "tuple" = some none)
    (zb_min : PySem.W.nsIn K mainGlobals "min" = some none)
    (zb_max : PySem.W.nsIn K mainGlobals "max" = some none)
    (zb_bool : PySem.W.nsIn K mainGlobals "bool" = some none)
    (zb_isinstance : PySem.W.nsIn K mainGlobals "isinstance" = some none)
    (zb_enumerate : PySem.W.nsIn K mainGlobals "enumerate" = some none)
    (zb_ord : PySem.W.nsIn K mainGlobals "ord" = some none)
    (zk_FIGURES : PySem.W.nsIn K mainGlobals "FIGURES" = some (some (.str "0123456789" t_FIGURES)))
    (zk_MOST_CELLS : PySem.W.nsIn K mainGlobals "MOST_CELLS" = some (some (.int (6) t_MOST_CELLS)))
    (zk_FIRST_SIGN : PySem.W.nsIn K mainGlobals "FIRST_SIGN" = some (some (.str " " t_FIRST_SIGN)))
    (zk_LAST_SIGN : PySem.W.nsIn K mainGlobals "LAST_SIGN" = some (some (.str "~" t_LAST_SIGN)))
    (zk_BARRED : PySem.W.nsIn K mainGlobals "BARRED" = some (some (.int (37) t_BARRED)))
    (zk_MOST_SIGNS : PySem.W.nsIn K mainGlobals "MOST_SIGNS" = some (some (.int (10) t_MOST_SIGNS)))
    (zk_MOST_ROWS : PySem.W.nsIn K mainGlobals "MOST_ROWS" = some (some (.int (30) t_MOST_ROWS)))
    (zk_MOST_GAP : PySem.W.nsIn K mainGlobals "MOST_GAP" = some (some (.int (4) t_MOST_GAP)))
    (zk_MOST_LEAST : PySem.W.nsIn K mainGlobals "MOST_LEAST" = some (some (.int (12) t_MOST_LEAST)))
    (aC_Cursor : PySem.W.nsIn K mainGlobals "Cursor" = some (some (.ref C1)))
    (pg_Cursor : PySem.W.plainGet K C1 Str.empty = true)
    (hd_Cursor : PySem.W.hasDictIn K C1 = true)
    (po_Cursor : PySem.W.plainOver K C1 = true)
    (sa_Cursor : PySem.W.findIn K (.ref C1) "__setattr__" = some (some (.builtin "object.__setattr__")))
    (mk_Cursor : PySem.W.makesIn K C1 = true)
    (kc_Cursor : PySem.W.keepIn K (.ref C1) = true)
    (aC_Sheet : PySem.W.nsIn K mainGlobals "Sheet" = some (some (.ref C2)))
    (pg_Sheet : PySem.W.plainGet K C2 Str.empty = true)
    (hd_Sheet : PySem.W.hasDictIn K C2 = true)
    (po_Sheet : PySem.W.plainOver K C2 = true)
    (sa_Sheet : PySem.W.findIn K (.ref C2) "__setattr__" = some (some (.builtin "object.__setattr__")))
    (mk_Sheet : PySem.W.makesIn K C2 = true)
    (kc_Sheet : PySem.W.keepIn K (.ref C2) = true)
    (aC_Stretch : PySem.W.nsIn K mainGlobals "Stretch" = some (some (.ref C3)))
    (pg_Stretch : PySem.W.plainGet K C3 Str.empty = true)
    (hd_Stretch : PySem.W.hasDictIn K C3 = true)
    (po_Stretch : PySem.W.plainOver K C3 = true)
    (sa_Stretch : PySem.W.findIn K (.ref C3) "__setattr__" = some (some (.builtin "object.__setattr__")))
    (mk_Stretch : PySem.W.makesIn K C3 = true)
    (kc_Stretch : PySem.W.keepIn K (.ref C3) = true)
    (nf_Cursor_place : PySem.W.findIn K (.ref C1) "place" = some none)
    (nf_Cursor_cell : PySem.W.findIn K (.ref C1) "cell" = some none)
    (nf_Cursor_number : PySem.W.findIn K (.ref C1) "number" = some none)
    (nf_Cursor_sheet : PySem.W.findIn K (.ref C1) "sheet" = some none)
    (nf_Sheet_rows : PySem.W.findIn K (.ref C2) "rows" = some none)
    (nf_Sheet_lefts : PySem.W.findIn K (.ref C2) "lefts" = some none)
    (nf_Stretch_cells : PySem.W.findIn K (.ref C3) "cells" = some none)
    (nf_Stretch_end : PySem.W.findIn K (.ref C3) "end" = some none)
    (nf_Stretch_begin : PySem.W.findIn K (.ref C3) "begin" = some none)
    (nf_Stretch_column : PySem.W.findIn K (.ref C3) "column" = some none)
    (nf_Sheet_past : PySem.W.findIn K (.ref C2) "past" = some none)
    (nf_Sheet_style : PySem.W.findIn K (.ref C2) "style" = some none)
    (a1 : PySem.W.nsIn K mainGlobals "_law_begun" = some (some (.ref f1)))
    (l1 : K.lookup f1 = some ⟨oc1, od1, .func (PySem.W.fnOf "_law_begun" "_law_begun" (defArgs s_law_begun) (defBody s_law_begun) (defScope s_law_begun) .none kV1 dc1 pm1 an1 cd1 ct1), sl1⟩)
    (c1 : PySem.W.codeIn K cd1 "_law_begun" = true)
    (k1 : PySem.W.keepIn K (.ref f1) = true)
    (a2 : PySem.W.nsIn K mainGlobals "_law_take" = some (some (.ref f2)))
    (l2 : K.lookup f2 = some ⟨oc2, od2, .func (PySem.W.fnOf "_law_take" "_law_take" (defArgs s_law_take) (defBody s_law_take) (defScope s_law_take) .none kV2 dc2 pm2 an2 cd2 ct2), sl2⟩)
    (c2 : PySem.W.codeIn K cd2 "_law_take" = true)
    (k2 : PySem.W.keepIn K (.ref f2) = true)
    (a3 : PySem.W.nsIn K mainGlobals "_law_sign" = some (some (.ref f3)))
    (l3 : K.lookup f3 = some ⟨oc3, od3, .func (PySem.W.fnOf "_law_sign" "_law_sign" (defArgs s_law_sign) (defBody s_law_sign) (defScope s_law_sign) .none kV3 dc3 pm3 an3 cd3 ct3), sl3⟩)
    (c3 : PySem.W.codeIn K cd3 "_law_sign" = true)
    (k3 : PySem.W.keepIn K (.ref f3) = true)
    (a4 : PySem.W.nsIn K mainGlobals "_law_cell" = some (some (.ref f4)))
    (l4 : K.lookup f4 = some ⟨oc4, od4, .func (PySem.W.fnOf "_law_cell" "_law_cell" (defArgs s_law_cell) (defBody s_law_cell) (defScope s_law_cell) .none kV4 dc4 pm4 an4 cd4 ct4), sl4⟩)
    (c4 : PySem.W.codeIn K cd4 "_law_cell" = true)
    (k4 : PySem.W.keepIn K (.ref f4) = true)
    (a5 : PySem.W.nsIn K mainGlobals "_law_row" = some (some (.ref f5)))
    (l5 : K.lookup f5 = some ⟨oc5, od5, .func (PySem.W.fnOf "_law_row" "_law_row" (defArgs s_law_row) (defBody s_law_row) (defScope s_law_row) .none kV5 dc5 pm5 an5 cd5 ct5), sl5⟩)
    (c5 : PySem.W.codeIn K cd5 "_law_row" = true)
    (k5 : PySem.W.keepIn K (.ref f5) = true)
    (a6 : PySem.W.nsIn K mainGlobals "_law_page" = some (some (.ref f6)))
    (l6 : K.lookup f6 = some ⟨oc6, od6, .func (PySem.W.fnOf "_law_page" "_law_page" (defArgs s_law_page) (defBody s_law_page) (defScope s_law_page) .none kV6 dc6 pm6 an6 cd6 ct6), sl6⟩)
    (c6 : PySem.W.codeIn K cd6 "_law_page" = true)
    (k6 : PySem.W.keepIn K (.ref f6) = true)
    (a7 : PySem.W.nsIn K mainGlobals "_law_style" = some (some (.ref f7)))
    (l7 : K.lookup f7 = some ⟨oc7, od7, .func (PySem.W.fnOf "_law_style" "_law_style" (defArgs s_law_style) (defBody s_law_style) (defScope s_law_style) .none kV7 dc7 pm7 an7 cd7 ct7), sl7⟩)
    (c7 : PySem.W.codeIn K cd7 "_law_style" = true)
    (k7 : PySem.W.keepIn K (.ref f7) = true)
    (a8 : PySem.W.nsIn K mainGlobals "_law_mates" = some (some (.ref f8)))
    (l8 : K.lookup f8 = some ⟨oc8, od8, .func (PySem.W.fnOf "_law_mates" "_law_mates" (defArgs s_law_mates) (defBody s_law_mates) (defScope s_law_mates) .none kV8 dc8 pm8 an8 cd8 ct8), sl8⟩)
    (c8 : PySem.W.codeIn K cd8 "_law_mates" = true)
    (k8 : PySem.W.keepIn K (.ref f8) = true)
    (a9 : PySem.W.nsIn K mainGlobals "_law_wide" = some (some (.ref f9)))
    (l9 : K.lookup f9 = some ⟨oc9, od9, .func (PySem.W.fnOf "_law_wide" "_law_wide" (defArgs s_law_wide) (defBody s_law_wide) (defScope s_law_wide) .none kV9 dc9 pm9 an9 cd9 ct9), sl9⟩)
    (c9 : PySem.W.codeIn K cd9 "_law_wide" = true)
    (k9 : PySem.W.keepIn K (.ref f9) = true)
    (a10 : PySem.W.nsIn K mainGlobals "_law_ends" = some (some (.ref f10)))
    (l10 : K.lookup f10 = some ⟨oc10, od10, .func (PySem.W.fnOf "_law_ends" "_law_ends" (defArgs s_law_ends) (defBody s_law_ends) (defScope s_law_ends) .none kV10 dc10 pm10 an10 cd10 ct10), sl10⟩)
    (c10 : PySem.W.codeIn K cd10 "_law_ends" = true)
    (k10 : PySem.W.keepIn K (.ref f10) = true)
    (a11 : PySem.W.nsIn K mainGlobals "_law_figures" = some (some (.ref f11)))
    (l11 : K.lookup f11 = some ⟨oc11, od11, .func (PySem.W.fnOf "_law_figures" "_law_figures" (defArgs s_law_figures) (defBody s_law_figures) (defScope s_law_figures) .none kV11 dc11 pm11 an11 cd11 ct11), sl11⟩)
    (c11 : PySem.W.codeIn K cd11 "_law_figures" = true)
    (k11 : PySem.W.keepIn K (.ref f11) = true)
    (a12 : PySem.W.nsIn K mainGlobals "_law_turned" = some (some (.ref f12)))
    (l12 : K.lookup f12 = some ⟨oc12, od12, .func (PySem.W.fnOf "_law_turned" "_law_turned" (defArgs s_law_turned) (defBody s_law_turned) (defScope s_law_turned) .none kV12 dc12 pm12 an12 cd12 ct12), sl12⟩)
    (c12 : PySem.W.codeIn K cd12 "_law_turned" = true)
    (k12 : PySem.W.keepIn K (.ref f12) = true)
    (a13 : PySem.W.nsIn K mainGlobals "_law_begins" = some (some (.ref f13)))
    (l13 : K.lookup f13 = some ⟨oc13, od13, .func (PySem.W.fnOf "_law_begins" "_law_begins" (defArgs s_law_begins) (defBody s_law_begins) (defScope s_law_begins) .none kV13 dc13 pm13 an13 cd13 ct13), sl13⟩)
    (c13 : PySem.W.codeIn K cd13 "_law_begins" = true)
    (k13 : PySem.W.keepIn K (.ref f13) = true)
    (a14 : PySem.W.nsIn K mainGlobals "_law_alike" = some (some (.ref f14)))
    (l14 : K.lookup f14 = some ⟨oc14, od14, .func (PySem.W.fnOf "_law_alike" "_law_alike" (defArgs s_law_alike) (defBody s_law_alike) (defScope s_law_alike) .none kV14 dc14 pm14 an14 cd14 ct14), sl14⟩)
    (c14 : PySem.W.codeIn K cd14 "_law_alike" = true)
    (k14 : PySem.W.keepIn K (.ref f14) = true)
    (a15 : PySem.W.findIn K (.ref C1) "at" = some (some (.ref f15)))
    (i15 : PySem.W.isFn K (.ref f15) = true)
    (l15 : K.lookup f15 = some ⟨oc15, od15, .func (PySem.W.fnOf "at" "Cursor.at" (defArgs s_Cursor_at) (defBody s_Cursor_at) (defScope s_Cursor_at) .none kV15 dc15 pm15 an15 cd15 ct15), sl15⟩)
    (c15 : PySem.W.codeIn K cd15 "Cursor.at" = true)
    (k15 : PySem.W.keepIn K (.ref f15) = true)
    (a16 : PySem.W.nsIn K mainGlobals "_law_places" = some (some (.ref f16)))
    (l16 : K.lookup f16 = some ⟨oc16, od16, .func (PySem.W.fnOf "_law_places" "_law_places" (defArgs s_law_places) (defBody s_law_places) (defScope s_law_places) .none kV16 dc16 pm16 an16 cd16 ct16), sl16⟩)
    (c16 : PySem.W.codeIn K cd16 "_law_places" = true)
    (k16 : PySem.W.keepIn K (.ref f16) = true)
    (a17 : PySem.W.nsIn K mainGlobals "_law_gone" = some (some (.ref f17)))
    (l17 : K.lookup f17 = some ⟨oc17, od17, .func (PySem.W.fnOf "_law_gone" "_law_gone" (defArgs s_law_gone) (defBody s_law_gone) (defScope s_law_gone) .none kV17 dc17 pm17 an17 cd17 ct17), sl17⟩)
    (c17 : PySem.W.codeIn K cd17 "_law_gone" = true)
    (k17 : PySem.W.keepIn K (.ref f17) = true)
    (a18 : PySem.W.findIn K (.ref C1) "go" = some (some (.ref f18)))
    (i18 : PySem.W.isFn K (.ref f18) = true)
    (l18 : K.lookup f18 = some ⟨oc18, od18, .func (PySem.W.fnOf "go" "Cursor.go" (defArgs s_Cursor_go) (defBody s_Cursor_go) (defScope s_Cursor_go) .none kV18 dc18 pm18 an18 cd18 ct18), sl18⟩)
    (c18 : PySem.W.codeIn K cd18 "Cursor.go" = true)
    (k18 : PySem.W.keepIn K (.ref f18) = true)
    (a19 : PySem.W.findIn K (.ref C1) "go_end" = some (some (.ref f19)))
    (i19 : PySem.W.isFn K (.ref f19) = true)
    (l19 : K.lookup f19 = some ⟨oc19, od19, .func (PySem.W.fnOf "go_end" "Cursor.go_end" (defArgs s_Cursor_go_end) (defBody s_Cursor_go_end) (defScope s_Cursor_go_end) .none kV19 dc19 pm19 an19 cd19 ct19), sl19⟩)
    (c19 : PySem.W.codeIn K cd19 "Cursor.go_end" = true)
    (k19 : PySem.W.keepIn K (.ref f19) = true)
    (a20 : PySem.W.findIn K (.ref C1) "left" = some (some (.ref f20)))
    (i20 : PySem.W.isFn K (.ref f20) = true)
    (l20 : K.lookup f20 = some ⟨oc20, od20, .func (PySem.W.fnOf "left" "Cursor.left" (defArgs s_Cursor_left) (defBody s_Cursor_left) (defScope s_Cursor_left) .none kV20 dc20 pm20 an20 cd20 ct20), sl20⟩)
    (c20 : PySem.W.codeIn K cd20 "Cursor.left" = true)
    (k20 : PySem.W.keepIn K (.ref f20) = true)
    (a21 : PySem.W.findIn K (.ref C1) "mine" = some (some (.ref f21)))
    (i21 : PySem.W.isFn K (.ref f21) = true)
    (l21 : K.lookup f21 = some ⟨oc21, od21, .func (PySem.W.fnOf "mine" "Cursor.mine" (defArgs s_Cursor_mine) (defBody s_Cursor_mine) (defScope s_Cursor_mine) .none kV21 dc21 pm21 an21 cd21 ct21), sl21⟩)
    (c21 : PySem.W.codeIn K cd21 "Cursor.mine" = true)
    (k21 : PySem.W.keepIn K (.ref f21) = true)
    (a22 : PySem.W.findIn K (.ref C1) "right" = some (some (.ref f22)))
    (i22 : PySem.W.isFn K (.ref f22) = true)
    (l22 : K.lookup f22 = some ⟨oc22, od22, .func (PySem.W.fnOf "right" "Cursor.right" (defArgs s_Cursor_right) (defBody s_Cursor_right) (defScope s_Cursor_right) .none kV22 dc22 pm22 an22 cd22 ct22), sl22⟩)
    (c22 : PySem.W.codeIn K cd22 "Cursor.right" = true)
    (k22 : PySem.W.keepIn K (.ref f22) = true)
    (a23 : PySem.W.findIn K (.ref C1) "near" = some (some (.ref f23)))
    (i23 : PySem.W.isFn K (.ref f23) = true)
    (l23 : K.lookup f23 = some ⟨oc23, od23, .func (PySem.W.fnOf "near" "Cursor.near" (defArgs s_Cursor_near) (defBody s_Cursor_near) (defScope s_Cursor_near) .none kV23 dc23 pm23 an23 cd23 ct23), sl23⟩)
    (c23 : PySem.W.codeIn K cd23 "Cursor.near" = true)
    (k23 : PySem.W.keepIn K (.ref f23) = true)
    (a24 : PySem.W.findIn K (.ref C1) "aside" = some (some (.ref f24)))
    (i24 : PySem.W.isFn K (.ref f24) = true)
    (l24 : K.lookup f24 = some ⟨oc24, od24, .func (PySem.W.fnOf "aside" "Cursor.aside" (defArgs s_Cursor_aside) (defBody s_Cursor_aside) (defScope s_Cursor_aside) .none kV24 dc24 pm24 an24 cd24 ct24), sl24⟩)
    (c24 : PySem.W.codeIn K cd24 "Cursor.aside" = true)
    (k24 : PySem.W.keepIn K (.ref f24) = true)
    (a25 : PySem.W.findIn K (.ref C1) "beside" = some (some (.ref f25)))
    (i25 : PySem.W.isFn K (.ref f25) = true)
    (l25 : K.lookup f25 = some ⟨oc25, od25, .func (PySem.W.fnOf "beside" "Cursor.beside" (defArgs s_Cursor_beside) (defBody s_Cursor_beside) (defScope s_Cursor_beside) .none kV25 dc25 pm25 an25 cd25 ct25), sl25⟩)
    (c25 : PySem.W.codeIn K cd25 "Cursor.beside" = true)
    (k25 : PySem.W.keepIn K (.ref f25) = true)
    (a26 : PySem.W.findIn K (.ref C1) "up" = some (some (.ref f26)))
    (i26 : PySem.W.isFn K (.ref f26) = true)
    (l26 : K.lookup f26 = some ⟨oc26, od26, .func (PySem.W.fnOf "up" "Cursor.up" (defArgs s_Cursor_up) (defBody s_Cursor_up) (defScope s_Cursor_up) .none kV26 dc26 pm26 an26 cd26 ct26), sl26⟩)
    (c26 : PySem.W.codeIn K cd26 "Cursor.up" = true)
    (k26 : PySem.W.keepIn K (.ref f26) = true)
    (a27 : PySem.W.findIn K (.ref C1) "down" = some (some (.ref f27)))
    (i27 : PySem.W.isFn K (.ref f27) = true)
    (l27 : K.lookup f27 = some ⟨oc27, od27, .func (PySem.W.fnOf "down" "Cursor.down" (defArgs s_Cursor_down) (defBody s_Cursor_down) (defScope s_Cursor_down) .none kV27 dc27 pm27 an27 cd27 ct27), sl27⟩)
    (c27 : PySem.W.codeIn K cd27 "Cursor.down" = true)
    (k27 : PySem.W.keepIn K (.ref f27) = true)
    (a28 : PySem.W.nsIn K mainGlobals "_law_went" = some (some (.ref f28)))
    (l28 : K.lookup f28 = some ⟨oc28, od28, .func (PySem.W.fnOf "_law_went" "_law_went" (defArgs s_law_went) (defBody s_law_went) (defScope s_law_went) .none kV28 dc28 pm28 an28 cd28 ct28), sl28⟩)
    (c28 : PySem.W.codeIn K cd28 "_law_went" = true)
    (k28 : PySem.W.keepIn K (.ref f28) = true)
    (a29 : PySem.W.findIn K (.ref C2) "page" = some (some (.ref f29)))
    (i29 : PySem.W.isFn K (.ref f29) = true)
    (l29 : K.lookup f29 = some ⟨oc29, od29, .func (PySem.W.fnOf "page" "Sheet.page" (defArgs s_Sheet_page) (defBody s_Sheet_page) (defScope s_Sheet_page) .none kV29 dc29 pm29 an29 cd29 ct29), sl29⟩)
    (c29 : PySem.W.codeIn K cd29 "Sheet.page" = true)
    (k29 : PySem.W.keepIn K (.ref f29) = true)
    (a30 : PySem.W.findIn K (.ref C1) "page" = some (some (.ref f30)))
    (i30 : PySem.W.isFn K (.ref f30) = true)
    (l30 : K.lookup f30 = some ⟨oc30, od30, .func (PySem.W.fnOf "page" "Cursor.page" (defArgs s_Cursor_page) (defBody s_Cursor_page) (defScope s_Cursor_page) .none kV30 dc30 pm30 an30 cd30 ct30), sl30⟩)
    (c30 : PySem.W.codeIn K cd30 "Cursor.page" = true)
    (k30 : PySem.W.keepIn K (.ref f30) = true)
    (a31 : PySem.W.findIn K (.ref C3) "width" = some (some (.ref f31)))
    (i31 : PySem.W.isFn K (.ref f31) = true)
    (l31 : K.lookup f31 = some ⟨oc31, od31, .func (PySem.W.fnOf "width" "Stretch.width" (defArgs s_Stretch_width) (defBody s_Stretch_width) (defScope s_Stretch_width) .none kV31 dc31 pm31 an31 cd31 ct31), sl31⟩)
    (c31 : PySem.W.codeIn K cd31 "Stretch.width" = true)
    (k31 : PySem.W.keepIn K (.ref f31) = true)
    (a32 : PySem.W.nsIn K mainGlobals "stops_by" = some (some (.ref f32)))
    (l32 : K.lookup f32 = some ⟨oc32, od32, .func (PySem.W.fnOf "stops_by" "stops_by" (defArgs s_stops_by) (defBody s_stops_by) (defScope s_stops_by) .none kV32 dc32 pm32 an32 cd32 ct32), sl32⟩)
    (c32 : PySem.W.codeIn K cd32 "stops_by" = true)
    (k32 : PySem.W.keepIn K (.ref f32) = true)
    (a33 : PySem.W.nsIn K mainGlobals "is_figures" = some (some (.ref f33)))
    (l33 : K.lookup f33 = some ⟨oc33, od33, .func (PySem.W.fnOf "is_figures" "is_figures" (defArgs s_is_figures) (defBody s_is_figures) (defScope s_is_figures) .none kV33 dc33 pm33 an33 cd33 ct33), sl33⟩)
    (c33 : PySem.W.codeIn K cd33 "is_figures" = true)
    (k33 : PySem.W.keepIn K (.ref f33) = true)
    (a34 : PySem.W.findIn K (.ref C3) "is_right" = some (some (.ref f34)))
    (i34 : PySem.W.isFn K (.ref f34) = true)
    (l34 : K.lookup f34 = some ⟨oc34, od34, .func (PySem.W.fnOf "is_right" "Stretch.is_right" (defArgs s_Stretch_is_right) (defBody s_Stretch_is_right) (defScope s_Stretch_is_right) .none kV34 dc34 pm34 an34 cd34 ct34), sl34⟩)
    (c34 : PySem.W.codeIn K cd34 "Stretch.is_right" = true)
    (k34 : PySem.W.keepIn K (.ref f34) = true)
    (a35 : PySem.W.nsIn K mainGlobals "begins_by" = some (some (.ref f35)))
    (l35 : K.lookup f35 = some ⟨oc35, od35, .func (PySem.W.fnOf "begins_by" "begins_by" (defArgs s_begins_by) (defBody s_begins_by) (defScope s_begins_by) .none kV35 dc35 pm35 an35 cd35 ct35), sl35⟩)
    (c35 : PySem.W.codeIn K cd35 "begins_by" = true)
    (k35 : PySem.W.keepIn K (.ref f35) = true)
    (a36 : PySem.W.findIn K (.ref C3) "__init__" = some (some (.ref f36)))
    (i36 : PySem.W.isFn K (.ref f36) = true)
    (l36 : K.lookup f36 = some ⟨oc36, od36, .func (PySem.W.fnOf "__init__" "Stretch.__init__" (defArgs s_Stretch_init) (defBody s_Stretch_init) (defScope s_Stretch_init) .none kV36 dc36 pm36 an36 cd36 ct36), sl36⟩)
    (c36 : PySem.W.codeIn K cd36 "Stretch.__init__" = true)
    (k36 : PySem.W.keepIn K (.ref f36) = true)
    (a37 : PySem.W.nsIn K mainGlobals "stretches_of" = some (some (.ref f37)))
    (l37 : K.lookup f37 = some ⟨oc37, od37, .func (PySem.W.fnOf "stretches_of" "stretches_of" (defArgs s_stretches_of) (defBody s_stretches_of) (defScope s_stretches_of) .none kV37 dc37 pm37 an37 cd37 ct37), sl37⟩)
    (c37 : PySem.W.codeIn K cd37 "stretches_of" = true)
    (k37 : PySem.W.keepIn K (.ref f37) = true)
    (a38 : PySem.W.nsIn K mainGlobals "all_stretches" = some (some (.ref f38)))
    (l38 : K.lookup f38 = some ⟨oc38, od38, .func (PySem.W.fnOf "all_stretches" "all_stretches" (defArgs s_all_stretches) (defBody s_all_stretches) (defScope s_all_stretches) .none kV38 dc38 pm38 an38 cd38 ct38), sl38⟩)
    (c38 : PySem.W.codeIn K cd38 "all_stretches" = true)
    (k38 : PySem.W.keepIn K (.ref f38) = true)
    (a39 : PySem.W.findIn K (.ref C2) "back" = some (some (.ref f39)))
    (i39 : PySem.W.isFn K (.ref f39) = true)
    (l39 : K.lookup f39 = some ⟨oc39, od39, .func (PySem.W.fnOf "back" "Sheet.back" (defArgs s_Sheet_back) (defBody s_Sheet_back) (defScope s_Sheet_back) .none kV39 dc39 pm39 an39 cd39 ct39), sl39⟩)
    (c39 : PySem.W.codeIn K cd39 "Sheet.back" = true)
    (k39 : PySem.W.keepIn K (.ref f39) = true)
    (a40 : PySem.W.findIn K (.ref C1) "back" = some (some (.ref f40)))
    (i40 : PySem.W.isFn K (.ref f40) = true)
    (l40 : K.lookup f40 = some ⟨oc40, od40, .func (PySem.W.fnOf "back" "Cursor.back" (defArgs s_Cursor_back) (defBody s_Cursor_back) (defScope s_Cursor_back) .none kV40 dc40 pm40 an40 cd40 ct40), sl40⟩)
    (c40 : PySem.W.codeIn K cd40 "Cursor.back" = true)
    (k40 : PySem.W.keepIn K (.ref f40) = true)
    (a41 : PySem.W.nsIn K mainGlobals "is_sign" = some (some (.ref f41)))
    (l41 : K.lookup f41 = some ⟨oc41, od41, .func (PySem.W.fnOf "is_sign" "is_sign" (defArgs s_is_sign) (defBody s_is_sign) (defScope s_is_sign) .none kV41 dc41 pm41 an41 cd41 ct41), sl41⟩)
    (c41 : PySem.W.codeIn K cd41 "is_sign" = true)
    (k41 : PySem.W.keepIn K (.ref f41) = true)
    (a42 : PySem.W.nsIn K mainGlobals "is_cell" = some (some (.ref f42)))
    (l42 : K.lookup f42 = some ⟨oc42, od42, .func (PySem.W.fnOf "is_cell" "is_cell" (defArgs s_is_cell) (defBody s_is_cell) (defScope s_is_cell) .none kV42 dc42 pm42 an42 cd42 ct42), sl42⟩)
    (c42 : PySem.W.codeIn K cd42 "is_cell" = true)
    (k42 : PySem.W.keepIn K (.ref f42) = true)
    (a43 : PySem.W.nsIn K mainGlobals "is_row" = some (some (.ref f43)))
    (l43 : K.lookup f43 = some ⟨oc43, od43, .func (PySem.W.fnOf "is_row" "is_row" (defArgs s_is_row) (defBody s_is_row) (defScope s_is_row) .none kV43 dc43 pm43 an43 cd43 ct43), sl43⟩)
    (c43 : PySem.W.codeIn K cd43 "is_row" = true)
    (k43 : PySem.W.keepIn K (.ref f43) = true)
    (a44 : PySem.W.nsIn K mainGlobals "need_page" = some (some (.ref f44)))
    (l44 : K.lookup f44 = some ⟨oc44, od44, .func (PySem.W.fnOf "need_page" "need_page" (defArgs s_need_page) (defBody s_need_page) (defScope s_need_page) .none kV44 dc44 pm44 an44 cd44 ct44), sl44⟩)
    (c44 : PySem.W.codeIn K cd44 "need_page" = true)
    (k44 : PySem.W.keepIn K (.ref f44) = true)
    (a45 : PySem.W.nsIn K mainGlobals "is_number" = some (some (.ref f45)))
    (l45 : K.lookup f45 = some ⟨oc45, od45, .func (PySem.W.fnOf "is_number" "is_number" (defArgs s_is_number) (defBody s_is_number) (defScope s_is_number) .none kV45 dc45 pm45 an45 cd45 ct45), sl45⟩)
    (c45 : PySem.W.codeIn K cd45 "is_number" = true)
    (k45 : PySem.W.keepIn K (.ref f45) = true)
    (a46 : PySem.W.nsIn K mainGlobals "need_style" = some (some (.ref f46)))
    (l46 : K.lookup f46 = some ⟨oc46, od46, .func (PySem.W.fnOf "need_style" "need_style" (defArgs s_need_style) (defBody s_need_style) (defScope s_need_style) .none kV46 dc46 pm46 an46 cd46 ct46), sl46⟩)
    (c46 : PySem.W.codeIn K cd46 "need_style" = true)
    (k46 : PySem.W.keepIn K (.ref f46) = true)
    (a47 : PySem.W.findIn K (.ref C2) "__init__" = some (some (.ref f47)))
    (i47 : PySem.W.isFn K (.ref f47) = true)
    (l47 : K.lookup f47 = some ⟨oc47, od47, .func (PySem.W.fnOf "__init__" "Sheet.__init__" (defArgs s_Sheet_init) (defBody s_Sheet_init) (defScope s_Sheet_init) .none kV47 dc47 pm47 an47 cd47 ct47), sl47⟩)
    (c47 : PySem.W.codeIn K cd47 "Sheet.__init__" = true)
    (k47 : PySem.W.keepIn K (.ref f47) = true)
    (a48 : PySem.W.findIn K (.ref C1) "__init__" = some (some (.ref f48)))
    (i48 : PySem.W.isFn K (.ref f48) = true)
    (l48 : K.lookup f48 = some ⟨oc48, od48, .func (PySem.W.fnOf "__init__" "Cursor.__init__" (defArgs s_Cursor_init) (defBody s_Cursor_init) (defScope s_Cursor_init) .none kV48 dc48 pm48 an48 cd48 ct48), sl48⟩)
    (c48 : PySem.W.codeIn K cd48 "Cursor.__init__" = true)
    (k48 : PySem.W.keepIn K (.ref f48) = true)
    (a49 : PySem.W.nsIn K mainGlobals "law" = some (some (.ref f49)))
    (l49 : K.lookup f49 = some ⟨oc49, od49, .func (PySem.W.fnOf "law" "law" (defArgs s_law) (defBody s_law) (defScope s_law) .none kV49 dc49 pm49 an49 cd49 ct49), sl49⟩)
    (c49 : PySem.W.codeIn K cd49 "law" = true)
    (k49 : PySem.W.keepIn K (.ref f49) = true)
    : ∃ fd : FuncData, (∀ (s : Shared) (u : Value), BindsTo s fd ⟨[u], []⟩ [("_law_script", u)]) ∧ ∀ base : Heap, K.In base → base.Ns mainGlobals mg → FnOk l.prog w K mg base (L2.CX l.prog w) 9 fa fd ["_law_script"] (spLaw 63) := by
  have e := hfa.symm.trans (PySem.W.mg_of X G a49)
  cases e
  let W : Wd := ⟨K, fun n => match n with | 14 => C1 | 13 => C2 | 12 => C3 | _ => 0, fun _ => none⟩
  have T : Txt W mg := ⟨PySem.W.mg_none_of X G zb_len, PySem.W.mg_none_of X G zb_int, PySem.W.mg_none_of X G zb_list, PySem.W.mg_none_of X G zb_str, PySem.W.mg_none_of X G zb_range, PySem.W.mg_none_of X G zb_tuple, PySem.W.mg_none_of X G zb_min, PySem.W.mg_none_of X G zb_max, PySem.W.mg_none_of X G zb_bool, PySem.W.mg_none_of X G zb_isinstance, PySem.W.mg_none_of X G zb_enumerate, PySem.W.mg_none_of X G zb_ord, ⟨_, PySem.W.mg_of X G zk_FIGURES⟩, ⟨_, PySem.W.mg_of X G zk_MOST_CELLS⟩, ⟨_, PySem.W.mg_of X G zk_FIRST_SIGN⟩, ⟨_, PySem.W.mg_of X G zk_LAST_SIGN⟩, ⟨_, PySem.W.mg_of X G zk_BARRED⟩, ⟨_, PySem.W.mg_of X G zk_MOST_SIGNS⟩, ⟨_, PySem.W.mg_of X G zk_MOST_ROWS⟩, ⟨_, PySem.W.mg_of X G zk_MOST_GAP⟩, ⟨_, PySem.W.mg_of X G zk_MOST_LEAST⟩, ⟨pg_Cursor, hd_Cursor, po_Cursor, sa_Cursor⟩, ⟨pg_Sheet, hd_Sheet, po_Sheet, sa_Sheet⟩, ⟨pg_Stretch, hd_Stretch, po_Stretch, sa_Stretch⟩, nf_Cursor_place, nf_Cursor_cell, nf_Cursor_number, nf_Cursor_sheet, nf_Sheet_rows, nf_Sheet_lefts, nf_Stretch_cells, nf_Stretch_end, nf_Stretch_begin, nf_Stretch_column, nf_Sheet_past, nf_Sheet_style⟩
  refine ⟨PySem.W.fnOf "law" "law" (defArgs s_law) (defBody s_law) (defScope s_law) .none kV49 dc49 pm49 an49 cd49 ct49, fun s v => .of_eq rfl, fun base _ _ => ?_⟩
  have F1 : Fun W.K "_law_begun" "_law_begun" s_law_begun f1 _ := fun_mk (st := s_law_begun) l1 c1 k1
  have c_law_begun := (ok_law_begun (P := l.prog) (w := w) (base := base) F1 (PySem.W.mg_of X G a1) T )
  have F2 : Fun W.K "_law_take" "_law_take" s_law_take f2 _ := fun_mk (st := s_law_take) l2 c2 k2
  have c_law_take := (ok_law_take (P := l.prog) (w := w) (base := base) F2 (PySem.W.mg_of X G a2) T )
  have F3 : Fun W.K "_law_sign" "_law_sign" s_law_sign f3 _ := fun_mk (st := s_law_sign) l3 c3 k3
  have c_law_sign := (ok_law_sign (P := l.prog) (w := w) (base := base) F3 (PySem.W.mg_of X G a3) T c_law_take)
  have F4 : Fun W.K "_law_cell" "_law_cell" s_law_cell f4 _ := fun_mk (st := s_law_cell) l4 c4 k4
  have c_law_cell := (ok_law_cell (P := l.prog) (w := w) (base := base) F4 (PySem.W.mg_of X G a4) T c_law_take c_law_sign)
  have F5 : Fun W.K "_law_row" "_law_row" s_law_row f5 _ := fun_mk (st := s_law_row) l5 c5 k5
  have c_law_row := (ok_law_row (P := l.prog) (w := w) (base := base) F5 (PySem.W.mg_of X G a5) T c_law_cell)
  have F6 : Fun W.K "_law_page" "_law_page" s_law_page f6 _ := fun_mk (st := s_law_page) l6 c6 k6
  have c_law_page := (ok_law_page (P := l.prog) (w := w) (base := base) F6 (PySem.W.mg_of X G a6) T c_law_take c_law_row)
  have F7 : Fun W.K "_law_style" "_law_style" s_law_style f7 _ := fun_mk (st := s_law_style) l7 c7 k7
  have c_law_style := (ok_law_style (P := l.prog) (w := w) (base := base) F7 (PySem.W.mg_of X G a7) T c_law_take)
  have F8 : Fun W.K "_law_mates" "_law_mates" s_law_mates f8 _ := fun_mk (st := s_law_mates) l8 c8 k8
  have c_law_mates := (ok_law_mates (P := l.prog) (w := w) (base := base) F8 (PySem.W.mg_of X G a8) T )
  have F9 : Fun W.K "_law_wide" "_law_wide" s_law_wide f9 _ := fun_mk (st := s_law_wide) l9 c9 k9
  have c_law_wide := (ok_law_wide (P := l.prog) (w := w) (base := base) F9 (PySem.W.mg_of X G a9) T c_law_mates)
  have F10 : Fun W.K "_law_ends" "_law_ends" s_law_ends f10 _ := fun_mk (st := s_law_ends) l10 c10 k10
  have c_law_ends := (ok_law_ends (P := l.prog) (w := w) (base := base) F10 (PySem.W.mg_of X G a10) T c_law_wide)
  have F11 : Fun W.K "_law_figures" "_law_figures" s_law_figures f11 _ := fun_mk (st := s_law_figures) l11 c11 k11
  have c_law_figures := (ok_law_figures (P := l.prog) (w := w) (base := base) F11 (PySem.W.mg_of X G a11) T )
  have F12 : Fun W.K "_law_turned" "_law_turned" s_law_turned f12 _ := fun_mk (st := s_law_turned) l12 c12 k12
  have c_law_turned := (ok_law_turned (P := l.prog) (w := w) (base := base) F12 (PySem.W.mg_of X G a12) T c_law_mates c_law_figures)
  have F13 : Fun W.K "_law_begins" "_law_begins" s_law_begins f13 _ := fun_mk (st := s_law_begins) l13 c13 k13
  have c_law_begins := (ok_law_begins (P := l.prog) (w := w) (base := base) F13 (PySem.W.mg_of X G a13) T c_law_ends c_law_turned)
  have F14 : Fun W.K "_law_alike" "_law_alike" s_law_alike f14 _ := fun_mk (st := s_law_alike) l14 c14 k14
  have c_law_alike := rec_law_alike (P := l.prog) (w := w) (base := base) F14 (PySem.W.mg_of X G a14) T 8
  have F15 : Fun W.K "at" "Cursor.at" s_Cursor_at f15 _ := fun_mk (st := s_Cursor_at) l15 c15 k15
  have c_Cursor_at := (ok_Cursor_at (P := l.prog) (w := w) (base := base) F15 ⟨a15, i15, k15⟩ T )
  have F16 : Fun W.K "_law_places" "_law_places" s_law_places f16 _ := fun_mk (st := s_law_places) l16 c16 k16
  have c_law_places := (ok_law_places (P := l.prog) (w := w) (base := base) F16 (PySem.W.mg_of X G a16) T )
  have F17 : Fun W.K "_law_gone" "_law_gone" s_law_gone f17 _ := fun_mk (st := s_law_gone) l17 c17 k17
  have c_law_gone := (ok_law_gone (P := l.prog) (w := w) (base := base) F17 (PySem.W.mg_of X G a17) T c_law_places)
  have F18 : Fun W.K "go" "Cursor.go" s_Cursor_go f18 _ := fun_mk (st := s_Cursor_go) l18 c18 k18
  have c_Cursor_go := (ok_Cursor_go (P := l.prog) (w := w) (base := base) F18 ⟨a18, i18, k18⟩ T c_Cursor_at)
  have F19 : Fun W.K "go_end" "Cursor.go_end" s_Cursor_go_end f19 _ := fun_mk (st := s_Cursor_go_end) l19 c19 k19
  have c_Cursor_go_end := (ok_Cursor_go_end (P := l.prog) (w := w) (base := base) F19 ⟨a19, i19, k19⟩ T c_Cursor_go)
  have F20 : Fun W.K "left" "Cursor.left" s_Cursor_left f20 _ := fun_mk (st := s_Cursor_left) l20 c20 k20
  have c_Cursor_left := (ok_Cursor_left (P := l.prog) (w := w) (base := base) F20 ⟨a20, i20, k20⟩ T c_Cursor_go c_Cursor_go_end)
  have F21 : Fun W.K "mine" "Cursor.mine" s_Cursor_mine f21 _ := fun_mk (st := s_Cursor_mine) l21 c21 k21
  have c_Cursor_mine := (ok_Cursor_mine (P := l.prog) (w := w) (base := base) F21 ⟨a21, i21, k21⟩ T )
  have F22 : Fun W.K "right" "Cursor.right" s_Cursor_right f22 _ := fun_mk (st := s_Cursor_right) l22 c22 k22
  have c_Cursor_right := (ok_Cursor_right (P := l.prog) (w := w) (base := base) F22 ⟨a22, i22, k22⟩ T c_Cursor_mine c_Cursor_go)
  have F23 : Fun W.K "near" "Cursor.near" s_Cursor_near f23 _ := fun_mk (st := s_Cursor_near) l23 c23 k23
  have c_Cursor_near := (ok_Cursor_near (P := l.prog) (w := w) (base := base) F23 ⟨a23, i23, k23⟩ T )
  have F24 : Fun W.K "aside" "Cursor.aside" s_Cursor_aside f24 _ := fun_mk (st := s_Cursor_aside) l24 c24 k24
  have c_Cursor_aside := (ok_Cursor_aside (P := l.prog) (w := w) (base := base) F24 ⟨a24, i24, k24⟩ T )
  have F25 : Fun W.K "beside" "Cursor.beside" s_Cursor_beside f25 _ := fun_mk (st := s_Cursor_beside) l25 c25 k25
  have c_Cursor_beside := (ok_Cursor_beside (P := l.prog) (w := w) (base := base) F25 ⟨a25, i25, k25⟩ T c_Cursor_near c_Cursor_aside c_Cursor_go)
  have F26 : Fun W.K "up" "Cursor.up" s_Cursor_up f26 _ := fun_mk (st := s_Cursor_up) l26 c26 k26
  have c_Cursor_up := (ok_Cursor_up (P := l.prog) (w := w) (base := base) F26 ⟨a26, i26, k26⟩ T c_Cursor_beside)
  have F27 : Fun W.K "down" "Cursor.down" s_Cursor_down f27 _ := fun_mk (st := s_Cursor_down) l27 c27 k27
  have c_Cursor_down := (ok_Cursor_down (P := l.prog) (w := w) (base := base) F27 ⟨a27, i27, k27⟩ T c_Cursor_beside)
  have F28 : Fun W.K "_law_went" "_law_went" s_law_went f28 _ := fun_mk (st := s_law_went) l28 c28 k28
  have c_law_went := (ok_law_went (P := l.prog) (w := w) (base := base) F28 (PySem.W.mg_of X G a28) T c_Cursor_left c_Cursor_right c_Cursor_up c_Cursor_down)
  have F29 : Fun W.K "page" "Sheet.page" s_Sheet_page f29 _ := fun_mk (st := s_Sheet_page) l29 c29 k29
  have c_Sheet_page := (ok_Sheet_page (P := l.prog) (w := w) (base := base) F29 ⟨a29, i29, k29⟩ T )
  have F30 : Fun W.K "page" "Cursor.page" s_Cursor_page f30 _ := fun_mk (st := s_Cursor_page) l30 c30 k30
  have c_Cursor_page := (ok_Cursor_page (P := l.prog) (w := w) (base := base) F30 ⟨a30, i30, k30⟩ T c_Sheet_page)
  have F31 : Fun W.K "width" "Stretch.width" s_Stretch_width f31 _ := fun_mk (st := s_Stretch_width) l31 c31 k31
  have c_Stretch_width := (ok_Stretch_width (P := l.prog) (w := w) (base := base) F31 ⟨a31, i31, k31⟩ T )
  have F32 : Fun W.K "stops_by" "stops_by" s_stops_by f32 _ := fun_mk (st := s_stops_by) l32 c32 k32
  have c_stops_by := (ok_stops_by (P := l.prog) (w := w) (base := base) F32 (PySem.W.mg_of X G a32) T c_Stretch_width)
  have F33 : Fun W.K "is_figures" "is_figures" s_is_figures f33 _ := fun_mk (st := s_is_figures) l33 c33 k33
  have c_is_figures := (ok_is_figures (P := l.prog) (w := w) (base := base) F33 (PySem.W.mg_of X G a33) T )
  have F34 : Fun W.K "is_right" "Stretch.is_right" s_Stretch_is_right f34 _ := fun_mk (st := s_Stretch_is_right) l34 c34 k34
  have c_Stretch_is_right := (ok_Stretch_is_right (P := l.prog) (w := w) (base := base) F34 ⟨a34, i34, k34⟩ T c_is_figures)
  have F35 : Fun W.K "begins_by" "begins_by" s_begins_by f35 _ := fun_mk (st := s_begins_by) l35 c35 k35
  have c_begins_by := (ok_begins_by (P := l.prog) (w := w) (base := base) F35 (PySem.W.mg_of X G a35) T c_stops_by c_Stretch_is_right c_Stretch_width)
  have F36 : Fun W.K "__init__" "Stretch.__init__" s_Stretch_init f36 _ := fun_mk (st := s_Stretch_init) l36 c36 k36
  have n_Stretch := (ok_Stretch_init (P := l.prog) (w := w) (base := base) F36 ⟨mk_Stretch, a36, i36, kc_Stretch⟩ (PySem.W.mg_of X G aC_Stretch) T )
  have F37 : Fun W.K "stretches_of" "stretches_of" s_stretches_of f37 _ := fun_mk (st := s_stretches_of) l37 c37 k37
  have c_stretches_of := (ok_stretches_of (P := l.prog) (w := w) (base := base) F37 (PySem.W.mg_of X G a37) T n_Stretch)
  have F38 : Fun W.K "all_stretches" "all_stretches" s_all_stretches f38 _ := fun_mk (st := s_all_stretches) l38 c38 k38
  have c_all_stretches := (ok_all_stretches (P := l.prog) (w := w) (base := base) F38 (PySem.W.mg_of X G a38) T c_stretches_of)
  have F39 : Fun W.K "back" "Sheet.back" s_Sheet_back f39 _ := fun_mk (st := s_Sheet_back) l39 c39 k39
  have c_Sheet_back := (ok_Sheet_back (P := l.prog) (w := w) (base := base) F39 ⟨a39, i39, k39⟩ T c_begins_by c_all_stretches)
  have F40 : Fun W.K "back" "Cursor.back" s_Cursor_back f40 _ := fun_mk (st := s_Cursor_back) l40 c40 k40
  have c_Cursor_back := (ok_Cursor_back (P := l.prog) (w := w) (base := base) F40 ⟨a40, i40, k40⟩ T c_Cursor_go c_Sheet_back)
  have F41 : Fun W.K "is_sign" "is_sign" s_is_sign f41 _ := fun_mk (st := s_is_sign) l41 c41 k41
  have c_is_sign := (ok_is_sign (P := l.prog) (w := w) (base := base) F41 (PySem.W.mg_of X G a41) T )
  have F42 : Fun W.K "is_cell" "is_cell" s_is_cell f42 _ := fun_mk (st := s_is_cell) l42 c42 k42
  have c_is_cell := (ok_is_cell (P := l.prog) (w := w) (base := base) F42 (PySem.W.mg_of X G a42) T c_is_sign)
  have F43 : Fun W.K "is_row" "is_row" s_is_row f43 _ := fun_mk (st := s_is_row) l43 c43 k43
  have c_is_row := (ok_is_row (P := l.prog) (w := w) (base := base) F43 (PySem.W.mg_of X G a43) T c_is_cell)
  have F44 : Fun W.K "need_page" "need_page" s_need_page f44 _ := fun_mk (st := s_need_page) l44 c44 k44
  have c_need_page := (ok_need_page (P := l.prog) (w := w) (base := base) F44 (PySem.W.mg_of X G a44) T c_is_row)
  have F45 : Fun W.K "is_number" "is_number" s_is_number f45 _ := fun_mk (st := s_is_number) l45 c45 k45
  have c_is_number := (ok_is_number (P := l.prog) (w := w) (base := base) F45 (PySem.W.mg_of X G a45) T )
  have F46 : Fun W.K "need_style" "need_style" s_need_style f46 _ := fun_mk (st := s_need_style) l46 c46 k46
  have c_need_style := (ok_need_style (P := l.prog) (w := w) (base := base) F46 (PySem.W.mg_of X G a46) T c_is_number)
  have F47 : Fun W.K "__init__" "Sheet.__init__" s_Sheet_init f47 _ := fun_mk (st := s_Sheet_init) l47 c47 k47
  have n_Sheet := (ok_Sheet_init (P := l.prog) (w := w) (base := base) F47 ⟨mk_Sheet, a47, i47, kc_Sheet⟩ (PySem.W.mg_of X G aC_Sheet) T c_need_page c_need_style c_begins_by c_all_stretches)
  have F48 : Fun W.K "__init__" "Cursor.__init__" s_Cursor_init f48 _ := fun_mk (st := s_Cursor_init) l48 c48 k48
  have n_Cursor := (ok_Cursor_init (P := l.prog) (w := w) (base := base) F48 ⟨mk_Cursor, a48, i48, kc_Cursor⟩ (PySem.W.mg_of X G aC_Cursor) T n_Sheet)
  have F49 : Fun W.K "law" "law" s_law fa _ := fun_mk (st := s_law) l49 c49 k49
  exact law_of (ok_law (P := l.prog) (w := w) (base := base) F49 T c_law_begun c_law_page c_law_take c_law_style c_law_begins c_law_alike c_Cursor_at c_law_gone c_law_went c_Cursor_aside c_Cursor_page c_Cursor_back n_Cursor) HT
theorem walk {l : PySem.W.OpenLaw} {q : Program} {loose : List Str} {XP : (Str → Option Value) → Heap → Prop} {YP : World → Heap → Prop} {d : DefRec} {K : Params → PySem.W.Frag} (hn : l.most = some 63) (hdf : d.params.defaults = []) (hL : ∀ w : World, noList (K w.params))
    (hY : ∀ (w : World) (h : Heap), YP w h → (K w.params).In h)
    (F : ∀ (w : World) (mg : Str → Option Value) (fa : Addr) (h : Heap), (K w.params).In h → h.Ns mainGlobals mg → mg d.name = some (.ref fa) →
      ∃ fd : FuncData, (∀ (s : Shared) (u : Value), BindsTo s fd ⟨[u], []⟩ [("_law_script", u)]) ∧ ∀ base : Heap, (K w.params).In base → base.Ns mainGlobals mg → FnOk l.prog w (K w.params) mg base (L2.CX l.prog w) 9 fa fd ["_law_script"] (spLaw 63)) :
    PySem.W.WalkO q loose XP YP l.row.toRowW d [] (fun f vs => PySem.call f vs) := law_walk (n := 63) (k := 9) (x := "_law_script") hn (by decide) hdf ⟨rfl, by decide, by decide⟩ hL hY F
end W14
open PySem PySem.W PyProof.Rows in
set_option maxRecDepth 100000 in
set_option maxHeartbeats 0 in
theorem PySem.Challenge.cw_tabgrow_k14_cursors_go_holds : PySem.Challenge.rw_tabgrow_k14_cursors_go.Holds := by
  w_on; o_law; k_head; (case hw => w_witness2)
  k_fill
  refine W14.walk (l := PySem.Challenge.rw_tabgrow_k14_cursors_go) rfl rfl ?L (fun w h Y => PySem.W.kIn_of Y) ?F
  case L => exact fun w => Dl.noList_of rfl
  case F =>
    intro w mg fa h KX G hmg
    refine' W14.all_mk Dl.law_k14_true KX G hmg ?zb_len ?zb_int ?zb_list ?zb_str ?zb_range ?zb_tuple ?zb_min ?zb_max ?zb_bool ?zb_isinstance ?zb_enumerate ?zb_ord ?zk_FIGURES ?zk_MOST_CELLS ?zk_FIRST_SIGN ?zk_LAST_SIGN ?zk_BARRED ?zk_MOST_SIGNS ?zk_MOST_ROWS ?zk_MOST_GAP ?zk_MOST_LEAST ?aC_Cursor ?pg_Cursor ?hd_Cursor ?po_Cursor ?sa_Cursor ?mk_Cursor ?kc_Cursor ?aC_Sheet ?pg_Sheet ?hd_Sheet ?po_Sheet ?sa_Sheet ?mk_Sheet ?kc_Sheet ?aC_Stretch ?pg_Stretch ?hd_Stretch ?po_Stretch ?sa_Stretch ?mk_Stretch ?kc_Stretch ?nf_Cursor_place ?nf_Cursor_cell ?nf_Cursor_number ?nf_Cursor_sheet ?nf_Sheet_rows ?nf_Sheet_lefts ?nf_Stretch_cells ?nf_Stretch_end ?nf_Stretch_begin ?nf_Stretch_column ?nf_Sheet_past ?nf_Sheet_style ?a1 ?l1 ?c1 ?k1 ?a2 ?l2 ?c2 ?k2 ?a3 ?l3 ?c3 ?k3 ?a4 ?l4 ?c4 ?k4 ?a5 ?l5 ?c5 ?k5 ?a6 ?l6 ?c6 ?k6 ?a7 ?l7 ?c7 ?k7 ?a8 ?l8 ?c8 ?k8 ?a9 ?l9 ?c9 ?k9 ?a10 ?l10 ?c10 ?k10 ?a11 ?l11 ?c11 ?k11 ?a12 ?l12 ?c12 ?k12 ?a13 ?l13 ?c13 ?k13 ?a14 ?l14 ?c14 ?k14 ?a15 ?i15 ?l15 ?c15 ?k15 ?a16 ?l16 ?c16 ?k16 ?a17 ?l17 ?c17 ?k17 ?a18 ?i18 ?l18 ?c18 ?k18 ?a19 ?i19 ?l19 ?c19 ?k19 ?a20 ?i20 ?l20 ?c20 ?k20 ?a21 ?i21 ?l21 ?c21 ?k21 ?a22 ?i22 ?l22 ?c22 ?k22 ?a23 ?i23 ?l23 ?c23 ?k23 ?a24 ?i24 ?l24 ?c24 ?k24 ?a25 ?i25 ?l25 ?c25 ?k25 ?a26 ?i26 ?l26 ?c26 ?k26 ?a27 ?i27 ?l27 ?c27 ?k27 ?a28 ?l28 ?c28 ?k28 ?a29 ?i29 ?l29 ?c29 ?k29 ?a30 ?i30 ?l30 ?c30 ?k30 ?a31 ?i31 ?l31 ?c31 ?k31 ?a32 ?l32 ?c32 ?k32 ?a33 ?l33 ?c33 ?k33 ?a34 ?i34 ?l34 ?c34 ?k34 ?a35 ?l35 ?c35 ?k35 ?a36 ?i36 ?l36 ?c36 ?k36 ?a37 ?l37 ?c37 ?k37 ?a38 ?l38 ?c38 ?k38 ?a39 ?i39 ?l39 ?c39 ?k39 ?a40 ?i40 ?l40 ?c40 ?k40 ?a41 ?l41 ?c41 ?k41 ?a42 ?l42 ?c42 ?k42 ?a43 ?l43 ?c43 ?k43 ?a44 ?l44 ?c44 ?k44 ?a45 ?l45 ?c45 ?k45 ?a46 ?l46 ?c46 ?k46 ?a47 ?i47 ?l47 ?c47 ?k47 ?a48 ?i48 ?l48 ?c48 ?k48 ?a49 ?l49 ?c49 ?k49
    (case zb_len => k_is)
    (case zb_int => k_is)
    (case zb_list => k_is)
    (case zb_str => k_is)
    (case zb_range => k_is)
    (case zb_tuple => k_is)
    (case zb_min => k_is)
    (case zb_max => k_is)
    (case zb_bool => k_is)
    (case zb_isinstance => k_is)
    (case zb_enumerate => k_is)
    (case zb_ord => k_is)
    (case zk_FIGURES => k_is)
    (case zk_MOST_CELLS => k_is)
    (case zk_FIRST_SIGN => k_is)
    (case zk_LAST_SIGN => k_is)
    (case zk_BARRED => k_is)
    (case zk_MOST_SIGNS => k_is)
    (case zk_MOST_ROWS => k_is)
    (case zk_MOST_GAP => k_is)
    (case zk_MOST_LEAST => k_is)
    (case aC_Cursor => k_is)
    (case pg_Cursor => k_is)
    (case hd_Cursor => k_is)
    (case po_Cursor => k_is)
    (case sa_Cursor => k_is)
    (case mk_Cursor => k_is)
    (case kc_Cursor => k_is)
    (case aC_Sheet => k_is)
    (case pg_Sheet => k_is)
    (case hd_Sheet => k_is)
    (case po_Sheet => k_is)
    (case sa_Sheet => k_is)
    (case mk_Sheet => k_is)
    (case kc_Sheet => k_is)
    (case aC_Stretch => k_is)
    (case pg_Stretch => k_is)
    (case hd_Stretch => k_is)
    (case po_Stretch => k_is)
    (case sa_Stretch => k_is)
    (case mk_Stretch => k_is)
    (case kc_Stretch => k_is)
    (case nf_Cursor_place => k_is)
    (case nf_Cursor_cell => k_is)
    (case nf_Cursor_number => k_is)
    (case nf_Cursor_sheet => k_is)
    (case nf_Sheet_rows => k_is)
    (case nf_Sheet_lefts => k_is)
    (case nf_Stretch_cells => k_is)
    (case nf_Stretch_end => k_is)
    (case nf_Stretch_begin => k_is)
    (case nf_Stretch_column => k_is)
    (case nf_Sheet_past => k_is)
    (case nf_Sheet_style => k_is)
    (case a1 => k_is)
    (case l1 => k_is)
    (case c1 => k_is)
    (case k1 => k_is)
    (case a2 => k_is)
    (case l2 => k_is)
    (case c2 => k_is)
    (case k2 => k_is)
    (case a3 => k_is)
    (case l3 => k_is)
    (case c3 => k_is)
    (case k3 => k_is)
    (case a4 => k_is)
    (case l4 => k_is)
    (case c4 => k_is)
    (case k4 => k_is)
    (case a5 => k_is)
    (case l5 => k_is)
    (case c5 => k_is)
    (case k5 => k_is)
    (case a6 => k_is)
    (case l6 => k_is)
    (case c6 => k_is)
    (case k6 => k_is)
    (case a7 => k_is)
    (case l7 => k_is)
    (case c7 => k_is)
    (case k7 => k_is)
    (case a8 => k_is)
    (case l8 => k_is)
    (case c8 => k_is)
    (case k8 => k_is)
    (case a9 => k_is)
    (case l9 => k_is)
    (case c9 => k_is)
    (case k9 => k_is)
    (case a10 => k_is)
    (case l10 => k_is)
    (case c10 => k_is)
    (case k10 => k_is)
    (case a11 => k_is)
    (case l11 => k_is)
    (case c11 => k_is)
    (case k11 => k_is)
    (case a12 => k_is)
    (case l12 => k_is)
    (case c12 => k_is)
    (case k12 => k_is)
    (case a13 => k_is)
    (case l13 => k_is)
    (case c13 => k_is)
    (case k13 => k_is)
    (case a14 => k_is)
    (case l14 => k_is)
    (case c14 => k_is)
    (case k14 => k_is)
    (case a15 => k_is)
    (case i15 => k_is)
    (case l15 => k_is)
    (case c15 => k_is)
    (case k15 => k_is)
    (case a16 => k_is)
    (case l16 => k_is)
    (case c16 => k_is)
    (case k16 => k_is)
    (case a17 => k_is)
    (case l17 => k_is)
    (case c17 => k_is)
    (case k17 => k_is)
    (case a18 => k_is)
    (case i18 => k_is)
    (case l18 => k_is)
    (case c18 => k_is)
    (case k18 => k_is)
    (case a19 => k_is)
    (case i19 => k_is)
    (case l19 => k_is)
    (case c19 => k_is)
    (case k19 => k_is)
    (case a20 => k_is)
    (case i20 => k_is)
    (case l20 => k_is)
    (case c20 => k_is)
    (case k20 => k_is)
    (case a21 => k_is)
    (case i21 => k_is)
    (case l21 => k_is)
    (case c21 => k_is)
    (case k21 => k_is)
    (case a22 => k_is)
    (case i22 => k_is)
    (case l22 => k_is)
    (case c22 => k_is)
    (case k22 => k_is)
    (case a23 => k_is)
    (case i23 => k_is)
    (case l23 => k_is)
    (case c23 => k_is)
    (case k23 => k_is)
    (case a24 => k_is)
    (case i24 => k_is)
    (case l24 => k_is)
    (case c24 => k_is)
    (case k24 => k_is)
    (case a25 => k_is)
    (case i25 => k_is)
    (case l25 => k_is)
    (case c25 => k_is)
    (case k25 => k_is)
    (case a26 => k_is)
    (case i26 => k_is)
    (case l26 => k_is)
    (case c26 => k_is)
    (case k26 => k_is)
    (case a27 => k_is)
    (case i27 => k_is)
    (case l27 => k_is)
    (case c27 => k_is)
    (case k27 => k_is)
    (case a28 => k_is)
    (case l28 => k_is)
    (case c28 => k_is)
    (case k28 => k_is)
    (case a29 => k_is)
    (case i29 => k_is)
    (case l29 => k_is)
    (case c29 => k_is)
    (case k29 => k_is)
    (case a30 => k_is)
    (case i30 => k_is)
    (case l30 => k_is)
    (case c30 => k_is)
    (case k30 => k_is)
    (case a31 => k_is)
    (case i31 => k_is)
    (case l31 => k_is)
    (case c31 => k_is)
    (case k31 => k_is)
    (case a32 => k_is)
    (case l32 => k_is)
    (case c32 => k_is)
    (case k32 => k_is)
    (case a33 => k_is)
    (case l33 => k_is)
    (case c33 => k_is)
    (case k33 => k_is)
    (case a34 => k_is)
    (case i34 => k_is)
    (case l34 => k_is)
    (case c34 => k_is)
    (case k34 => k_is)
    (case a35 => k_is)
    (case l35 => k_is)
    (case c35 => k_is)
    (case k35 => k_is)
    (case a36 => k_is)
    (case i36 => k_is)
    (case l36 => k_is)
    (case c36 => k_is)
    (case k36 => k_is)
    (case a37 => k_is)
    (case l37 => k_is)
    (case c37 => k_is)
    (case k37 => k_is)
    (case a38 => k_is)
    (case l38 => k_is)
    (case c38 => k_is)
    (case k38 => k_is)
    (case a39 => k_is)
    (case i39 => k_is)
    (case l39 => k_is)
    (case c39 => k_is)
    (case k39 => k_is)
    (case a40 => k_is)
    (case i40 => k_is)
    (case l40 => k_is)
    (case c40 => k_is)
    (case k40 => k_is)
    (case a41 => k_is)
    (case l41 => k_is)
    (case c41 => k_is)
    (case k41 => k_is)
    (case a42 => k_is)
    (case l42 => k_is)
    (case c42 => k_is)
    (case k42 => k_is)
    (case a43 => k_is)
    (case l43 => k_is)
    (case c43 => k_is)
    (case k43 => k_is)
    (case a44 => k_is)
    (case l44 => k_is)
    (case c44 => k_is)
    (case k44 => k_is)
    (case a45 => k_is)
    (case l45 => k_is)
    (case c45 => k_is)
    (case k45 => k_is)
    (case a46 => k_is)
    (case l46 => k_is)
    (case c46 => k_is)
    (case k46 => k_is)
    (case a47 => k_is)
    (case i47 => k_is)
    (case l47 => k_is)
    (case c47 => k_is)
    (case k47 => k_is)
    (case a48 => k_is)
    (case i48 => k_is)
    (case l48 => k_is)
    (case c48 => k_is)
    (case k48 => k_is)
    (case a49 => k_is)
    (case l49 => k_is)
    (case c49 => k_is)
    (case k49 => k_is)
#print axioms PySem.Challenge.cw_tabgrow_k14_cursors_go_holds
